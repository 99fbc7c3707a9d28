/-
  Sectors; slices of numbers, of bytes, of strikes: cloned, searched, put in, taken out.
-/
import Derived.Test.YtgcebieihmlaoaaProg
import Derived.Test.YtgcebieihmlaoaaSlj
import Derived.Test.YtgcebieihmlaoaaSlk
import Derived.Test.YtgcebieihmlaoaaSlm
import Derived.Test.YtgcebieihmlaoaaSln
import Derived.Test.YtgcebieihmlaoaaSlo
import Derived.Test.YtgcebieihmlaoaaSlp
import Derived.Test.YtgcebieihmlaoaaSlq
import Derived.Test.YtgcebieihmlaoaaSlr
import Derived.Test.YtgcebieihmlaoaaSls
import Derived.Test.YtgcebieihmlaoaaSlt
import Derived.Test.YtgcebieihmlaoaaSlu
import Derived.Test.YtgcebieihmlaoaaSlv
namespace Go.Proofs.Ytgcebieihmlaoaa
open Go.SL Go.RowKit
set_option linter.unusedVariables false
set_option linter.unusedSimpArgs false
set_option maxRecDepth 100000
namespace DkA
theorem sz3 : (Try.prog.info? 3).map (·.size) = some 1 := by kernel_rfl
theorem sz5 : (Try.prog.info? 5).map (·.size) = some 1 := by kernel_rfl
theorem sz25 : (Try.prog.info? 25).map (·.size) = some 3 := by kernel_rfl
theorem ti3 : TI Try.prog 3 [.int .i64 0] 1 8 := TI.of (by kernel_rfl) rfl rfl
theorem ti5 : TI Try.prog 5 [.int .u8 0] 1 1 := TI.of (by kernel_rfl) rfl rfl
theorem ti25 : TI Try.prog 25 [.int .i64 0, .int .u64 0, .int .i64 0] 3 24 := TI.of (by kernel_rfl) rfl rfl

theorem mid_val {i j : Nat} (h : i + j < 9223372036854775808) : IntKind.i64.wrap ((((BitVec.ofInt 64 ((i + j : Nat) : Int)) >>> 1).toNat : Nat) : Int) = (((i + j) / 2 : Nat) : Int) := by
  have e : (BitVec.ofInt 64 ((i + j : Nat) : Int)).toNat = i + j := by rw [BitVec.toNat_ofInt]; simp only [Nat.reducePow]; omega
  rw [BitVec.toNat_ushiftRight, Nat.shiftRight_eq_div_pow, e, wrap64 (by omega) (by omega)]

/-- how many sectors so many bytes have -/
def sec (n : Nat) : Nat := (n + 63) / 64
/-- numbers as cells -/
def nv (l : List Nat) : List Value := l.map fun n => i64 ((n : Nat) : Int)
theorem nv_len (l : List Nat) : (nv l).length = l.length := by simp [nv]
theorem nv_all (l : List Nat) : (nv l).all (·.oneCell') = true := by
  rw [List.all_eq_true]; intro v hv; obtain ⟨x, _, rfl⟩ := List.mem_map.1 hv; rfl
theorem u8_all (l : List UInt8) : (u8s l).all (·.oneCell') = true := by
  rw [List.all_eq_true]; intro v hv; obtain ⟨x, _, rfl⟩ := List.mem_map.1 hv; rfl
def Rise (l : List Nat) : Prop := l.Pairwise (fun a b => a < b)
theorem Rise.lt {l : List Nat} (h : Rise l) {i j : Nat} (hj : j < l.length) (hij : i < j) : l[i]'(by omega) < l[j] := List.pairwise_iff_getElem.1 h i j (by omega) hj hij
/-- how many are below -/
def lbN : List Nat → Nat → Nat
  | [], _ => 0
  | k :: ks, t => if k < t then lbN ks t + 1 else 0
theorem lbN_eq : ∀ (ks : List Nat) (t i : Nat), i ≤ ks.length → (∀ j (hj : j < ks.length), j < i → ks[j] < t) → (∀ h : i < ks.length, ¬ ks[i] < t) → lbN ks t = i := by
  intro ks t
  induction ks with
  | nil => intro i h _ _; simp at h; subst h; rfl
  | cons k ks ih =>
    intro i h h1 h2
    unfold lbN
    cases i with
    | zero => rw [if_neg (by have := h2 (by simp); simpa using this)]
    | succ i =>
      rw [if_pos (by have := h1 0 (by simp) (by omega); simpa using this)]
      rw [ih i (by simpa using h) (fun j hj hji => by have := h1 (j + 1) (by simp; omega) (by omega); simpa using this) (fun h => by have := h2 (by simp; omega); simpa using this)]
theorem memN_at {ks : List Nat} {t i : Nat} (hs : Rise ks) (h1 : ∀ j (hj : j < ks.length), j < i → ks[j] < t) (h2 : ∀ j (hj : j < ks.length), i ≤ j → ¬ ks[j] < t) : t ∈ ks ↔ ∃ h : i < ks.length, ks[i] = t := by
  constructor
  · intro hm
    obtain ⟨j, hj, rfl⟩ := List.getElem_of_mem hm
    rcases Nat.lt_trichotomy j i with h | h | h
    · have := h1 j hj h; omega
    · subst h; exact ⟨hj, rfl⟩
    · have e1 := hs.lt hj h
      have e2 := h2 i (by omega) (Nat.le_refl _)
      omega
  · rintro ⟨h, rfl⟩; exact List.getElem_mem h
theorem ros_nat {B : Frag} {A : Option Addr} {n : Nat} {ks : List Nat} (h : RoS B 1 A n (nv ks)) {k : Nat} (hk : k < ks.length) (hn : ks.length = n) : ∃ b o cs et fz, A = some ⟨b, o, none⟩ ∧ B b = some (.cells (List.toArray cs) et fz) ∧ cs[o + k * 1]? = some (i64 ((ks[k] : Nat) : Int)) := by
  obtain ⟨b, o, cs, et, fz, h1, h2, h3⟩ := h.at (k := k) (by omega)
  refine ⟨b, o, cs, et, fz, h1, h2, ?_⟩
  have h4 : ((cs.drop (o + k * 1)).take 1)[0]? = (((nv ks).drop (k * 1)).take 1)[0]? := by rw [h3]
  rw [List.getElem?_take_of_lt (by decide), List.getElem?_take_of_lt (by decide), List.getElem?_drop, List.getElem?_drop] at h4
  rw [Nat.add_zero, Nat.add_zero, Nat.mul_one] at h4
  rw [Nat.mul_one, h4]
  simp [nv, hk]

set_option maxHeartbeats 1000000 in
theorem sectors_ct (n : Nat) (B : Frag) (hn : n ≤ 9223372036854775000) : CtP Try.prog 50 [i64 ((n : Nat) : Int)] B (i64 ((sec n : Nat) : Int)) := by
  refine CtB.of_body Try.func50 rfl (nt := 7) rfl (by kernel_rfl) rfl ?_
  intro N0 w0 R
  refine Cx.seq (fun K1 k1 => ?_)
  refine Cx.region ?_
  refine Lx.y (asg rfl) rfl ?_
  refine Lx.nil ?_
  refine Xx.tn (k1 _ _ _ _ ?_)
  refine Cx.seq (fun K2 k2 => ?_)
  refine Cx.region ?_
  refine Lx.y (mv rfl) rfl ?_
  refine Lx.y (Yx.val (add rfl rfl (by first | exact wrap64 (by omega) (by omega) | rfl)) (show _ = i64 ((n + 64 : Nat) : Int) from rfl)) rfl ?_
  refine Lx.y (Yx.val (sub rfl rfl (by first | exact wrap64 (by omega) (by omega) | rfl)) (show _ = i64 ((n + 63 : Nat) : Int) by congr 1; omega)) rfl ?_
  refine Lx.y (Yx.val (quoN rfl rfl (by omega) (by decide) (by exact wrap64 (by omega) (by omega))) (show _ = i64 ((sec n : Nat) : Int) from rfl)) rfl ?_
  refine Lx.y (asg rfl) rfl ?_
  refine Lx.nil ?_
  refine Xx.tn (k2 _ _ _ _ ?_)
  refine Cx.ret ?_
  exact Xx.rB1 rfl rfl ⟨rfl, rfl⟩ (Frag.le_refl _) rfl

set_option maxHeartbeats 1000000 in
theorem nanC_ct (n : Int) (B : Frag) : CtP Try.prog 115 [i64 n] B (.bool false) := by
  refine CtB.of_body Try.func115 rfl (nt := 6) rfl (by kernel_rfl) rfl ?_
  intro N0 w0 R
  refine Cx.seq (fun K1 k1 => ?_)
  refine Cx.region ?_
  refine Lx.y (asg rfl) rfl ?_
  refine Lx.nil ?_
  refine Xx.tn (k1 _ _ _ _ ?_)
  refine Cx.seq (fun K2 k2 => ?_)
  refine Cx.region ?_
  refine Lx.y (mv rfl) rfl ?_
  refine Lx.y (mv rfl) rfl ?_
  refine Lx.y (Yx.ff (neI rfl rfl) (by simp)) rfl ?_
  refine Lx.y (asg rfl) rfl ?_
  refine Lx.nil ?_
  refine Xx.tn (k2 _ _ _ _ ?_)
  refine Cx.ret ?_
  exact Xx.rB1 rfl rfl ⟨rfl, rfl⟩ (Frag.le_refl _) rfl

set_option maxHeartbeats 1000000 in
theorem nanI_ct (n : Int) (B : Frag) : CtP Try.prog 93 [i64 n] B (.bool false) := by
  refine CtB.of_body Try.func93 rfl (nt := 6) rfl (by kernel_rfl) rfl ?_
  intro N0 w0 R
  refine Cx.seq (fun K1 k1 => ?_)
  refine Cx.region ?_
  refine Lx.y (asg rfl) rfl ?_
  refine Lx.nil ?_
  refine Xx.tn (k1 _ _ _ _ ?_)
  refine Cx.seq (fun K2 k2 => ?_)
  refine Cx.region ?_
  refine Lx.y (mv rfl) rfl ?_
  refine Lx.y (mv rfl) rfl ?_
  refine Lx.y (Yx.ff (neI rfl rfl) (by simp)) rfl ?_
  refine Lx.y (asg rfl) rfl ?_
  refine Lx.nil ?_
  refine Xx.tn (k2 _ _ _ _ ?_)
  refine Cx.ret ?_
  exact Xx.rB1 rfl rfl ⟨rfl, rfl⟩ (Frag.le_refl _) rfl

set_option maxHeartbeats 1000000 in
theorem LessI_ct (m n : Int) (B : Frag) : CtP Try.prog 92 [i64 m, i64 n] B (.bool (decide (m < n))) := by
  refine CtB.of_body Try.func92 rfl (nt := 17) rfl (by kernel_rfl) rfl ?_
  intro N0 w0 R
  refine Cx.seq (fun K1 k1 => ?_)
  refine Cx.region ?_
  refine Lx.y (asg rfl) rfl ?_
  refine Lx.nil ?_
  refine Xx.tn (k1 _ _ _ _ ?_)
  refine Cx.seq (fun K2 k2 => ?_)
  refine Cx.region ?_
  refine Lx.y (mv rfl) rfl ?_
  refine Lx.cp rfl rfl rfl (nanC_ct _ _) rfl ?_
  refine Lx.y (mv rfl) rfl ?_
  refine Lx.gF rfl rfl rfl rfl ?_
  refine Lx.gF rfl rfl rfl rfl ?_
  refine Lx.gF rfl rfl rfl rfl ?_
  refine Lx.y (pickF rfl rfl) rfl ?_
  refine Lx.y (mv rfl) rfl ?_
  refine Lx.gT rfl rfl rfl ?_
  refine Lx.y (mv rfl) rfl ?_
  refine Lx.gT rfl rfl rfl ?_
  refine Lx.y (mv rfl) rfl ?_
  refine Lx.gT rfl rfl rfl ?_
  refine Lx.y (lss rfl rfl) rfl ?_
  refine Lx.y (pickF rfl rfl) rfl ?_
  refine Lx.y (asg rfl) rfl ?_
  refine Lx.nil ?_
  refine Xx.tn (k2 _ _ _ _ ?_)
  refine Cx.ret ?_
  exact Xx.rB1 rfl rfl ⟨rfl, rfl⟩ (Frag.le_refl _) rfl

set_option maxHeartbeats 1000000 in
theorem BSn_ro (ks : List Nat) (t : Nat) (A : Option Addr) (c : Nat) (B : Frag) (hR : RoS B 1 A ks.length (nv ks)) (hs : Rise ks) (hn : ks.length ≤ 4611686018427387904) : CtP Try.prog 78 [.slice A ks.length c, i64 ((t : Nat) : Int)] B (.tuple #[i64 (lbN ks t : Nat), .bool (decide (t ∈ ks))]) := by
  refine CtB.of_body Try.func78 rfl (nt := 54) rfl (by kernel_rfl) rfl ?_
  intro N0 w0 R
  refine Cx.seq (fun K1 k1 => ?_)
  refine Cx.region ?_
  refine Lx.y (asg rfl) rfl ?_
  refine Lx.y (asg rfl) rfl ?_
  refine Lx.nil ?_
  refine Xx.tn (k1 _ _ _ _ ?_)
  refine Cx.seq (fun K2 k2 => ?_)
  refine Cx.region ?_
  refine Lx.y (mv rfl) rfl ?_
  refine Lx.y (lenV (ty' := 0) Try.underlying39 rfl) rfl ?_
  refine Lx.y (asg rfl) rfl ?_
  refine Lx.nil ?_
  refine Xx.tn (k2 _ _ _ _ ?_)
  refine Cx.seq (fun K3 k3 => ?_)
  refine Cx.region ?_
  refine Lx.y (mv rfl) rfl ?_
  refine Lx.y (asg rfl) rfl ?_
  refine Lx.y (asg rfl) rfl ?_
  refine Lx.nil ?_
  refine Xx.tn (k3 _ _ _ _ ?_)
  refine Cx.seq (fun K4 k4 => ?_)
  refine Cx.block ?_
  refine Cx.loopK (Sub.cons (s := 0) rfl (Sub.cons (s := 1) rfl (Sub.cons (s := 4) rfl (Sub.cons (s := 5) rfl (Sub.cons (s := 6) rfl (Sub.cons (s := 10) rfl (Sub.cons (s := 11) rfl (Sub.cons (s := 12) rfl (Sub.nil _))))))))) (fun m ρ' B' H' => ∃ (i j : Nat), (i ≤ j ∧ j ≤ ks.length ∧ (∀ k (hk : k < ks.length), k < i → ks[k] < t) ∧ (∀ k (hk : k < ks.length), j ≤ k → ¬ ks[k] < t)) ∧ m = j - i ∧ ρ' = [(7, i64 i), (8, i64 j)] ∧ B = B' ∧ R = H') ⟨0, ks.length, ⟨Nat.zero_le _, Nat.le_refl _, fun k _ h => absurd h (by omega), fun k hk h => absurd h (by omega)⟩, rfl, rfl, rfl, rfl⟩ (Sub.cons (s := 7) rfl (Sub.cons (s := 8) rfl (Sub.cons (s := 0) rfl (Sub.cons (s := 1) rfl (Sub.cons (s := 4) rfl (Sub.cons (s := 5) rfl (Sub.cons (s := 6) rfl (Sub.cons (s := 10) rfl (Sub.cons (s := 11) rfl (Sub.cons (s := 12) rfl (Sub.nil _))))))))))) ?_
  rintro m ρ' B' H' ⟨i, j, ⟨hij, hjn, hlo, hhi⟩, rfl, rfl, rfl, rfl⟩
  refine Cx.seq (fun K5 k5 => ?_)
  refine Cx.seq (fun K6 k6 => ?_)
  refine Cx.region ?_
  refine Lx.y (mv rfl) rfl ?_
  refine Lx.y (mv rfl) rfl ?_
  refine Lx.y (lss rfl rfl) rfl ?_
  refine Lx.nil ?_
  refine Xx.tn (k6 _ _ _ _ ?_)
  refine Cx.condD rfl (fun h7 => ?_) (fun h7 => ?_)
  · skip
    have hlt := h7
    have hm : (i + j) / 2 < ks.length := by omega
    obtain ⟨b, o, cs0, et0, fz0, rfl, hB0, hv0⟩ := ros_nat hR hm rfl
    refine Cx.skip ?_
    refine Xx.tn (k5 _ _ _ _ ?_)
    refine Cx.block ?_
    refine Cx.seq (fun K8 k8 => ?_)
    refine Cx.region ?_
    refine Lx.y (mv rfl) rfl ?_
    refine Lx.y (mv rfl) rfl ?_
    refine Lx.y (Yx.val (add rfl rfl (by first | exact wrap64 (by omega) (by omega) | rfl)) (show _ = i64 (i + j : Nat) from rfl)) rfl ?_
    refine Lx.y (cvW64 rfl Try.underlying3 Try.underlying143) rfl ?_
    refine Lx.y (shrW64 (c := 1) rfl rfl rfl) rfl ?_
    refine Lx.y (Yx.val (cvI rfl Try.underlying143 Try.underlying3 (mid_val (by omega))) (show _ = i64 ((i + j) / 2 : Nat) from rfl)) rfl ?_
    refine Lx.y (asg rfl) rfl ?_
    refine Lx.nil ?_
    refine Xx.tn (k8 _ _ _ _ ?_)
    refine Cx.seq (fun K9 k9 => ?_)
    refine Cx.region ?_
    refine Lx.y (mv rfl) rfl ?_
    refine Lx.y (mv rfl) rfl ?_
    refine Lx.y (ia Try.underlying39 sz3 rfl rfl (by first | exact Int.toNat_natCast _ | rfl) (by omega) (by omega)) rfl ?_
    refine Lx.y (ldB Try.underlying3 rfl rfl hB0 hv0) rfl ?_
    refine Lx.y (mv rfl) rfl ?_
    refine Lx.cp rfl rfl rfl (LessI_ct _ _ _) rfl ?_
    refine Lx.nil ?_
    refine Xx.tn (k9 _ _ _ _ ?_)
    refine Cx.condD rfl (fun h10 => ?_) (fun h10 => ?_)
    · skip
      have hb := h10
      have hb : ks[(i + j) / 2] < t := by omega
      refine Cx.region ?_
      refine Lx.y (mv rfl) rfl ?_
      refine Lx.y (Yx.val (add rfl rfl (by first | exact wrap64 (by omega) (by omega) | rfl)) (show _ = i64 ((i + j) / 2 + 1 : Nat) from rfl)) rfl ?_
      refine Lx.y (asg rfl) rfl ?_
      refine Lx.nil ?_
      refine Xx.bn ?_
      exact Xx.againK ⟨(i + j) / 2 + 1, j, ⟨by omega, hjn, fun k hk hki => by
  by_cases e : k = (i + j) / 2
  · subst e; exact hb
  · exact Nat.lt_trans (hs.lt hm (by omega)) hb, hhi⟩, rfl, rfl, rfl, rfl⟩ (by omega) (Sub.cons (s := 7) rfl (Sub.consE (s := 8) rfl (rfl) (Sub.cons (s := 0) rfl (Sub.cons (s := 1) rfl (Sub.cons (s := 4) rfl (Sub.cons (s := 5) rfl (Sub.cons (s := 6) rfl (Sub.cons (s := 10) rfl (Sub.cons (s := 11) rfl (Sub.cons (s := 12) rfl (Sub.nil _)))))))))))
    · skip
      have hb := h10
      have hb : ¬ ks[(i + j) / 2] < t := by omega
      refine Cx.region ?_
      refine Lx.y (mv rfl) rfl ?_
      refine Lx.y (asg rfl) rfl ?_
      refine Lx.nil ?_
      refine Xx.bn ?_
      exact Xx.againK ⟨i, (i + j) / 2, ⟨by omega, by omega, hlo, fun k hk hki => by
  by_cases e : k = (i + j) / 2
  · subst e; exact hb
  · have := hs.lt hk (show (i + j) / 2 < k by omega)
    omega⟩, rfl, rfl, rfl, rfl⟩ (by omega) (Sub.consE (s := 7) rfl (rfl) (Sub.cons (s := 8) rfl (Sub.cons (s := 0) rfl (Sub.cons (s := 1) rfl (Sub.cons (s := 4) rfl (Sub.cons (s := 5) rfl (Sub.cons (s := 6) rfl (Sub.cons (s := 10) rfl (Sub.cons (s := 11) rfl (Sub.cons (s := 12) rfl (Sub.nil _)))))))))))
  · skip
    obtain rfl : i = j := by have := h7; omega
    have hlb := lbN_eq ks t i hjn hlo (fun h => hhi i h (Nat.le_refl _))
    have hmem := memN_at hs hlo hhi
    refine Cx.exit ?_
    refine Xx.te ?_
    refine Xx.te ?_
    refine Xx.bh ?_
    refine Xx.tn (k4 _ _ _ _ ?_)
    refine Cx.seq (fun K11 k11 => ?_)
    refine Cx.region ?_
    refine Lx.y (mv rfl) rfl ?_
    refine Lx.y (mv rfl) rfl ?_
    refine Lx.y (mv rfl) rfl ?_
    refine Lx.y (lss rfl rfl) rfl ?_
    refine Lx.y (mv rfl) rfl ?_
    refine Xx.ifD (t := 35) rfl (fun h12 => ?_) (fun h12 => ?_)
    · skip
      have hin := h12
      have hin : i < ks.length := by omega
      obtain ⟨b, o, cs0, et0, fz0, rfl, hB0, hv0⟩ := ros_nat hR hin rfl
      refine Lx.gT rfl rfl rfl ?_
      refine Lx.y (mv rfl) rfl ?_
      refine Lx.gT rfl rfl rfl ?_
      refine Lx.y (mv rfl) rfl ?_
      refine Lx.gT rfl rfl rfl ?_
      refine Lx.y (ia Try.underlying39 sz3 rfl rfl (by first | exact Int.toNat_natCast _ | rfl) (by omega) (by omega)) rfl ?_
      refine Lx.gT rfl rfl rfl ?_
      refine Lx.y (ldB Try.underlying3 rfl rfl hB0 hv0) rfl ?_
      refine Lx.gT rfl rfl rfl ?_
      refine Lx.y (mv rfl) rfl ?_
      refine Lx.gT rfl rfl rfl ?_
      refine Lx.y (eqI rfl rfl) rfl ?_
      refine Lx.gT rfl rfl rfl ?_
      refine Lx.y (mv rfl) rfl ?_
      refine Xx.ifD (t := 42) rfl (fun h13 => ?_) (fun h13 => ?_)
      · skip
        have he := h13
        have he : ks[i] = t := by omega
        refine Lx.gF rfl rfl rfl rfl ?_
        refine Lx.gF rfl rfl rfl rfl ?_
        refine Lx.gF rfl rfl rfl rfl ?_
        refine Lx.gF rfl rfl rfl rfl ?_
        refine Lx.gF rfl rfl rfl rfl ?_
        refine Lx.gF rfl rfl rfl rfl ?_
        refine Lx.gU rfl rfl rfl rfl ?_
        refine Lx.gU rfl rfl rfl rfl ?_
        refine Lx.gF rfl rfl rfl rfl ?_
        refine Lx.gT rfl rfl rfl ?_
        refine Lx.y (pickT rfl rfl) rfl ?_
        refine Lx.y (pickT rfl rfl) rfl ?_
        refine Lx.y (asg rfl) rfl ?_
        refine Lx.y (asg rfl) rfl ?_
        refine Lx.nil ?_
        refine Xx.tn (k11 _ _ _ _ ?_)
        refine Cx.ret ?_
        exact Xx.rB2 rfl rfl rfl ⟨by rw [hlb, decide_eq_true (hmem.2 ⟨hin, he⟩)], rfl⟩ (Frag.le_refl _) rfl
      · skip
        have he := h13
        have he : ¬ ks[i] = t := by omega
        refine Lx.gT rfl rfl rfl ?_
        refine Lx.y (mv rfl) rfl ?_
        refine Lx.gT rfl rfl rfl ?_
        refine Lx.y (mv rfl) rfl ?_
        refine Lx.gT rfl rfl rfl ?_
        refine Lx.y (ia Try.underlying39 sz3 rfl rfl (by first | exact Int.toNat_natCast _ | rfl) (by omega) (by omega)) rfl ?_
        refine Lx.gT rfl rfl rfl ?_
        refine Lx.y (ldB Try.underlying3 rfl rfl hB0 hv0) rfl ?_
        refine Lx.gT rfl rfl rfl ?_
        refine Lx.cp rfl rfl rfl (nanI_ct _ _) rfl ?_
        refine Lx.gT rfl rfl rfl ?_
        refine Lx.y (mv rfl) rfl ?_
        refine Lx.gF rfl rfl rfl rfl ?_
        refine Lx.gF rfl rfl rfl rfl ?_
        refine Lx.gT rfl rfl rfl ?_
        refine Lx.y (pickF rfl rfl) rfl ?_
        refine Lx.gT rfl rfl rfl ?_
        refine Lx.y (pickF rfl rfl) rfl ?_
        refine Lx.y (pickT rfl rfl) rfl ?_
        refine Lx.y (asg rfl) rfl ?_
        refine Lx.y (asg rfl) rfl ?_
        refine Lx.nil ?_
        refine Xx.tn (k11 _ _ _ _ ?_)
        refine Cx.ret ?_
        exact Xx.rB2 rfl rfl rfl ⟨by rw [hlb, decide_eq_false (fun z => he (hmem.1 z).2)], rfl⟩ (Frag.le_refl _) rfl
    · skip
      have hin := h12
      refine Lx.gF rfl rfl rfl rfl ?_
      refine Lx.gF rfl rfl rfl rfl ?_
      refine Lx.gF rfl rfl rfl rfl ?_
      refine Lx.gF rfl rfl rfl rfl ?_
      refine Lx.gF rfl rfl rfl rfl ?_
      refine Lx.gF rfl rfl rfl rfl ?_
      refine Lx.gF rfl rfl rfl rfl ?_
      refine Lx.gU rfl rfl rfl rfl ?_
      refine Lx.gU rfl rfl rfl rfl ?_
      refine Lx.gU rfl rfl rfl rfl ?_
      refine Lx.gU rfl rfl rfl rfl ?_
      refine Lx.gU rfl rfl rfl rfl ?_
      refine Lx.gU rfl rfl rfl rfl ?_
      refine Lx.gU rfl rfl rfl rfl ?_
      refine Lx.gU rfl rfl rfl rfl ?_
      refine Lx.gU rfl rfl rfl rfl ?_
      refine Lx.gF rfl rfl rfl rfl ?_
      refine Lx.y (pickF rfl rfl) rfl ?_
      refine Lx.y (asg rfl) rfl ?_
      refine Lx.y (asg rfl) rfl ?_
      refine Lx.nil ?_
      refine Xx.tn (k11 _ _ _ _ ?_)
      refine Cx.ret ?_
      exact Xx.rB2 rfl rfl rfl ⟨by rw [hlb, decide_eq_false (fun z => hin (by have := (hmem.1 z).1; omega))], rfl⟩ (Frag.le_refl _) rfl

theorem BSn_ct (ks : List Nat) (t : Nat) (A : Option Addr) (c : Nat) (B : Frag) (hs : Rise ks) (hn : ks.length ≤ 4611686018427387904) : CtC Try.prog 78 [.slice A ks.length c, i64 ((t : Nat) : Int)] B (sbuf 3 1 A ks.length c (nv ks)) (.tuple #[i64 (lbN ks t : Nat), .bool (decide (t ∈ ks))]) (sbuf 3 1 A ks.length c (nv ks)) :=
  CtC.lend (Go.SL.enters_of Try.func78 rfl (by kernel_rfl)) fun k hk ha => BSn_ro ks t A c _ (sbuf_ro hk ha).1 hs hn

set_option maxHeartbeats 1000000 in
theorem ClB_ro (A : Option Addr) (n c : Nat) (xs : List Value) (B : Frag) (hR : RoS B 1 A n xs) (h1 : xs.all (·.oneCell') = true) (hb : n * 1 ≤ 140737488355328) (hn : n ≤ 4611686018427387904) : Ct Try.prog 49 [.slice A n c] B 1 (fun v B' H' => B' = B ∧ ∃ A' c', v = .slice A' n c' ∧ H' = sbuf 5 1 A' n c' xs) := by
  refine Ct.of_body Try.func49 rfl (nt := 8) rfl (by kernel_rfl) rfl ?_
  intro N0 w0 R
  rw [one_star]
  refine Cx.seq (fun K1 k1 => ?_)
  refine Cx.region ?_
  refine Lx.y (asg rfl) rfl ?_
  refine Lx.nil ?_
  refine Xx.tn (k1 _ _ _ _ ?_)
  refine Cx.seq (fun K2 k2 => ?_)
  refine Cx.seq (fun K3 k3 => ?_)
  refine Cx.region ?_
  refine Lx.y (mv rfl) rfl ?_
  refine Lx.y (eqNilV Try.underlying80 rfl rfl) rfl ?_
  refine Lx.nil ?_
  refine Xx.tn (k3 _ _ _ _ ?_)
  refine Cx.condB rfl (fun h4 => ?_) (fun h4 => ?_)
  · skip
    have hA0 : A = none := by cases A with | none => rfl | some a => exact absurd h4 (by simp)
    have hm0 : n = 0 ∧ xs = [] := by
      obtain ⟨hl, h | ⟨b, o, cs, et, fz, h, _⟩⟩ := hR
      · exact ⟨h.2, List.length_eq_zero_iff.1 (by rw [hl, h.2, Nat.zero_mul])⟩
      · rw [hA0] at h; cases h
    obtain ⟨rfl, rfl⟩ := hm0
    refine Cx.seq (fun K5 k5 => ?_)
    refine Cx.region ?_
    refine Lx.y (asg rfl) rfl ?_
    refine Lx.nil ?_
    refine Xx.tn (k5 _ _ _ _ ?_)
    refine Cx.ret ?_
    refine Xx.tr ?_
    exact Xx.ret1 rfl rfl ⟨rfl, none, 0, rfl, rfl⟩ (Frag.le_refl _) (by rw [sbuf_nil, one_star])
  · skip
    refine Cx.skip ?_
    refine Xx.tn (k2 _ _ _ _ ?_)
    refine Cx.seq (fun K6 k6 => ?_)
    refine Cx.region ?_
    refine Lx.o (bslZ Try.underlying80 ti5) rfl (fun v B' H' hΦ hB => ?_)
    obtain ⟨b0, rfl, hBB, rfl⟩ := hΦ
    have hBB2 := hBB.symm
    subst hBB2
    clear hB
    refine Lx.y (mv rfl) rfl ?_
    refine Lx.o (appB (A := some ⟨b0, 0, none⟩) n xs Try.underlying80 Try.underlying80 ti5 rfl rfl hR h1 (by omega) (by omega) (by omega) (List.nil_append _)) rfl (fun v B' H' hΦ hB => ?_)
    obtain ⟨A1, c1, rfl, hA1, hc1, hBB, rfl⟩ := hΦ
    have hBB2 := hBB.symm
    subst hBB2
    clear hB
    refine Lx.y (asg rfl) rfl ?_
    refine Lx.nil ?_
    refine Xx.tn (k6 _ _ _ _ ?_)
    refine Cx.ret ?_
    exact Xx.ret1 rfl rfl ⟨rfl, A1, c1, rfl, rfl⟩ (Frag.le_refl _) rfl

theorem ClB_ct (A : Option Addr) (n c : Nat) (xs : List Value) (B : Frag) (h1 : xs.all (·.oneCell') = true) (hb : n * 1 ≤ 140737488355328) (hn : n ≤ 4611686018427387904) :
    Ct Try.prog 49 [.slice A n c] B (sbuf 5 1 A n c xs) (fun v B' H' => B' = B ∧ ∃ A' c', v = .slice A' n c' ∧ H' = sbuf 5 1 A n c xs * sbuf 5 1 A' n c' xs) := by
  have h := Ct.lend (p := sbuf 5 1 A n c xs) (q := 1) (B := B) (args := [.slice A n c]) (Φ := fun v H0 => ∃ A' c', v = .slice A' n c' ∧ H0 = sbuf 5 1 A' n c' xs) (Go.SL.enters_of Try.func49 rfl (by kernel_rfl)) (fun k hk ha => ClB_ro A n c xs _ (sbuf_ro hk ha).1 h1 hb hn)
  rw [star_comm, one_star] at h
  refine Ct.mono h ?_
  rintro v B' H' ⟨e1, H0, ⟨A', c', e2, e3⟩, e4⟩
  exact ⟨e1, A', c', e2, by rw [e4, e3]⟩

set_option maxHeartbeats 1000000 in
theorem ClS_ro (A : Option Addr) (n c : Nat) (xs : List Value) (B : Frag) (hR : RoS B 3 A n xs) (h1 : xs.all (·.oneCell') = true) (hb : n * 24 ≤ 140737488355328) (hn : n ≤ 4611686018427387904) : Ct Try.prog 53 [.slice A n c] B 1 (fun v B' H' => B' = B ∧ ∃ A' c', v = .slice A' n c' ∧ H' = sbuf 25 3 A' n c' xs) := by
  refine Ct.of_body Try.func53 rfl (nt := 8) rfl (by kernel_rfl) rfl ?_
  intro N0 w0 R
  rw [one_star]
  refine Cx.seq (fun K1 k1 => ?_)
  refine Cx.region ?_
  refine Lx.y (asg rfl) rfl ?_
  refine Lx.nil ?_
  refine Xx.tn (k1 _ _ _ _ ?_)
  refine Cx.seq (fun K2 k2 => ?_)
  refine Cx.seq (fun K3 k3 => ?_)
  refine Cx.region ?_
  refine Lx.y (mv rfl) rfl ?_
  refine Lx.y (eqNilV Try.underlying54 rfl rfl) rfl ?_
  refine Lx.nil ?_
  refine Xx.tn (k3 _ _ _ _ ?_)
  refine Cx.condB rfl (fun h4 => ?_) (fun h4 => ?_)
  · skip
    have hA0 : A = none := by cases A with | none => rfl | some a => exact absurd h4 (by simp)
    have hm0 : n = 0 ∧ xs = [] := by
      obtain ⟨hl, h | ⟨b, o, cs, et, fz, h, _⟩⟩ := hR
      · exact ⟨h.2, List.length_eq_zero_iff.1 (by rw [hl, h.2, Nat.zero_mul])⟩
      · rw [hA0] at h; cases h
    obtain ⟨rfl, rfl⟩ := hm0
    refine Cx.seq (fun K5 k5 => ?_)
    refine Cx.region ?_
    refine Lx.y (asg rfl) rfl ?_
    refine Lx.nil ?_
    refine Xx.tn (k5 _ _ _ _ ?_)
    refine Cx.ret ?_
    refine Xx.tr ?_
    exact Xx.ret1 rfl rfl ⟨rfl, none, 0, rfl, rfl⟩ (Frag.le_refl _) (by rw [sbuf_nil, one_star])
  · skip
    refine Cx.skip ?_
    refine Xx.tn (k2 _ _ _ _ ?_)
    refine Cx.seq (fun K6 k6 => ?_)
    refine Cx.region ?_
    refine Lx.o (bslZ Try.underlying54 ti25) rfl (fun v B' H' hΦ hB => ?_)
    obtain ⟨b0, rfl, hBB, rfl⟩ := hΦ
    have hBB2 := hBB.symm
    subst hBB2
    clear hB
    refine Lx.y (mv rfl) rfl ?_
    refine Lx.o (appB (A := some ⟨b0, 0, none⟩) n xs Try.underlying54 Try.underlying54 ti25 rfl rfl hR h1 (by omega) (by omega) (by omega) (List.nil_append _)) rfl (fun v B' H' hΦ hB => ?_)
    obtain ⟨A1, c1, rfl, hA1, hc1, hBB, rfl⟩ := hΦ
    have hBB2 := hBB.symm
    subst hBB2
    clear hB
    refine Lx.y (asg rfl) rfl ?_
    refine Lx.nil ?_
    refine Xx.tn (k6 _ _ _ _ ?_)
    refine Cx.ret ?_
    exact Xx.ret1 rfl rfl ⟨rfl, A1, c1, rfl, rfl⟩ (Frag.le_refl _) rfl

theorem ClS_ct (A : Option Addr) (n c : Nat) (xs : List Value) (B : Frag) (h1 : xs.all (·.oneCell') = true) (hb : n * 24 ≤ 140737488355328) (hn : n ≤ 4611686018427387904) :
    Ct Try.prog 53 [.slice A n c] B (sbuf 25 3 A n c xs) (fun v B' H' => B' = B ∧ ∃ A' c', v = .slice A' n c' ∧ H' = sbuf 25 3 A n c xs * sbuf 25 3 A' n c' xs) := by
  have h := Ct.lend (p := sbuf 25 3 A n c xs) (q := 1) (B := B) (args := [.slice A n c]) (Φ := fun v H0 => ∃ A' c', v = .slice A' n c' ∧ H0 = sbuf 25 3 A' n c' xs) (Go.SL.enters_of Try.func53 rfl (by kernel_rfl)) (fun k hk ha => ClS_ro A n c xs _ (sbuf_ro hk ha).1 h1 hb hn)
  rw [star_comm, one_star] at h
  refine Ct.mono h ?_
  rintro v B' H' ⟨e1, H0, ⟨A', c', e2, e3⟩, e4⟩
  exact ⟨e1, A', c', e2, by rw [e4, e3]⟩

set_option maxHeartbeats 1000000 in
theorem ClI_ro (A : Option Addr) (n c : Nat) (xs : List Value) (B : Frag) (hR : RoS B 1 A n xs) (h1 : xs.all (·.oneCell') = true) (hb : n * 8 ≤ 140737488355328) (hn : n ≤ 4611686018427387904) : Ct Try.prog 54 [.slice A n c] B 1 (fun v B' H' => B' = B ∧ ∃ A' c', v = .slice A' n c' ∧ H' = sbuf 3 1 A' n c' xs) := by
  refine Ct.of_body Try.func54 rfl (nt := 8) rfl (by kernel_rfl) rfl ?_
  intro N0 w0 R
  rw [one_star]
  refine Cx.seq (fun K1 k1 => ?_)
  refine Cx.region ?_
  refine Lx.y (asg rfl) rfl ?_
  refine Lx.nil ?_
  refine Xx.tn (k1 _ _ _ _ ?_)
  refine Cx.seq (fun K2 k2 => ?_)
  refine Cx.seq (fun K3 k3 => ?_)
  refine Cx.region ?_
  refine Lx.y (mv rfl) rfl ?_
  refine Lx.y (eqNilV Try.underlying39 rfl rfl) rfl ?_
  refine Lx.nil ?_
  refine Xx.tn (k3 _ _ _ _ ?_)
  refine Cx.condB rfl (fun h4 => ?_) (fun h4 => ?_)
  · skip
    have hA0 : A = none := by cases A with | none => rfl | some a => exact absurd h4 (by simp)
    have hm0 : n = 0 ∧ xs = [] := by
      obtain ⟨hl, h | ⟨b, o, cs, et, fz, h, _⟩⟩ := hR
      · exact ⟨h.2, List.length_eq_zero_iff.1 (by rw [hl, h.2, Nat.zero_mul])⟩
      · rw [hA0] at h; cases h
    obtain ⟨rfl, rfl⟩ := hm0
    refine Cx.seq (fun K5 k5 => ?_)
    refine Cx.region ?_
    refine Lx.y (asg rfl) rfl ?_
    refine Lx.nil ?_
    refine Xx.tn (k5 _ _ _ _ ?_)
    refine Cx.ret ?_
    refine Xx.tr ?_
    exact Xx.ret1 rfl rfl ⟨rfl, none, 0, rfl, rfl⟩ (Frag.le_refl _) (by rw [sbuf_nil, one_star])
  · skip
    refine Cx.skip ?_
    refine Xx.tn (k2 _ _ _ _ ?_)
    refine Cx.seq (fun K6 k6 => ?_)
    refine Cx.region ?_
    refine Lx.o (bslZ Try.underlying39 ti3) rfl (fun v B' H' hΦ hB => ?_)
    obtain ⟨b0, rfl, hBB, rfl⟩ := hΦ
    have hBB2 := hBB.symm
    subst hBB2
    clear hB
    refine Lx.y (mv rfl) rfl ?_
    refine Lx.o (appB (A := some ⟨b0, 0, none⟩) n xs Try.underlying39 Try.underlying39 ti3 rfl rfl hR h1 (by omega) (by omega) (by omega) (List.nil_append _)) rfl (fun v B' H' hΦ hB => ?_)
    obtain ⟨A1, c1, rfl, hA1, hc1, hBB, rfl⟩ := hΦ
    have hBB2 := hBB.symm
    subst hBB2
    clear hB
    refine Lx.y (asg rfl) rfl ?_
    refine Lx.nil ?_
    refine Xx.tn (k6 _ _ _ _ ?_)
    refine Cx.ret ?_
    exact Xx.ret1 rfl rfl ⟨rfl, A1, c1, rfl, rfl⟩ (Frag.le_refl _) rfl

theorem ClI_ct (A : Option Addr) (n c : Nat) (xs : List Value) (B : Frag) (h1 : xs.all (·.oneCell') = true) (hb : n * 8 ≤ 140737488355328) (hn : n ≤ 4611686018427387904) :
    Ct Try.prog 54 [.slice A n c] B (sbuf 3 1 A n c xs) (fun v B' H' => B' = B ∧ ∃ A' c', v = .slice A' n c' ∧ H' = sbuf 3 1 A n c xs * sbuf 3 1 A' n c' xs) := by
  have h := Ct.lend (p := sbuf 3 1 A n c xs) (q := 1) (B := B) (args := [.slice A n c]) (Φ := fun v H0 => ∃ A' c', v = .slice A' n c' ∧ H0 = sbuf 3 1 A' n c' xs) (Go.SL.enters_of Try.func54 rfl (by kernel_rfl)) (fun k hk ha => ClI_ro A n c xs _ (sbuf_ro hk ha).1 h1 hb hn)
  rw [star_comm, one_star] at h
  refine Ct.mono h ?_
  rintro v B' H' ⟨e1, H0, ⟨A', c', e2, e3⟩, e4⟩
  exact ⟨e1, A', c', e2, by rw [e4, e3]⟩

set_option maxHeartbeats 1000000 in
theorem InsI_end (A : Option Addr) (n c : Nat) (xs : List Value) (vb : Nat) (etv : TypeId) (news : List Value) (B : Frag) (hns : news.length = 1) (hn1 : news.all (·.oneCell') = true) (hbd : (n + 1) * 8 ≤ 140737488355328) : Ct Try.prog 79 [.slice A n c, i64 (n : Nat), .slice (some ⟨vb, 0, none⟩) 1 1] B (sbuf 3 1 A n c xs * row vb etv news) (fun v B' H' => ∃ A' c', v = .slice A' (n + 1) c' ∧ B' = B ∧ H' = sbuf 3 1 A' (n + 1) c' (xs ++ news) ∧ (∃ b, A' = some ⟨b, 0, none⟩) ∧ n + 1 ≤ c') := by
  refine Ct.of_body Try.func79 rfl (nt := 95) rfl (by kernel_rfl) rfl ?_
  intro N0 w0 R
  rw [star_assoc]
  refine Cx.seq (fun K1 k1 => ?_)
  refine Cx.region ?_
  refine Lx.y (asg rfl) rfl ?_
  refine Lx.nil ?_
  refine Xx.tn (k1 _ _ _ _ ?_)
  refine Cx.seq (fun K2 k2 => ?_)
  refine Cx.region ?_
  refine Lx.y (mv rfl) rfl ?_
  refine Lx.y (mv rfl) rfl ?_
  refine Lx.y (sl1V Try.underlying39 sz3 rfl rfl (Int.toNat_natCast _) (by omega) (by omega)) rfl ?_
  refine Lx.nil ?_
  refine Xx.tn (k2 _ _ _ _ ?_)
  refine Cx.seq (fun K3 k3 => ?_)
  refine Cx.region ?_
  refine Lx.y (mv rfl) rfl ?_
  refine Lx.y (lenV (ty' := 0) Try.underlying39 rfl) rfl ?_
  refine Lx.y (asg rfl) rfl ?_
  refine Lx.nil ?_
  refine Xx.tn (k3 _ _ _ _ ?_)
  refine Cx.seq (fun K4 k4 => ?_)
  refine Cx.seq (fun K5 k5 => ?_)
  refine Cx.region ?_
  refine Lx.y (mv rfl) rfl ?_
  refine Lx.y (eqI rfl rfl) rfl ?_
  refine Lx.nil ?_
  refine Xx.tn (k5 _ _ _ _ ?_)
  refine Cx.condD rfl (fun h6 => ?_) (fun h6 => ?_)
  · skip
    exact absurd h6 (by decide)
  · skip
    refine Cx.skip ?_
    refine Xx.tn (k4 _ _ _ _ ?_)
    refine Cx.seq (fun K7 k7 => ?_)
    refine Cx.region ?_
    refine Lx.y (mv rfl) rfl ?_
    refine Lx.y (lenV (ty' := 0) Try.underlying39 rfl) rfl ?_
    refine Lx.y (asg rfl) rfl ?_
    refine Lx.nil ?_
    refine Xx.tn (k7 _ _ _ _ ?_)
    refine Cx.seq (fun K8 k8 => ?_)
    refine Cx.seq (fun K9 k9 => ?_)
    refine Cx.region ?_
    refine Lx.y (mv rfl) rfl ?_
    refine Lx.y (mv rfl) rfl ?_
    refine Lx.y (eqI rfl rfl) rfl ?_
    refine Lx.nil ?_
    refine Xx.tn (k9 _ _ _ _ ?_)
    refine Cx.condD rfl (fun h10 => ?_) (fun h10 => ?_)
    · skip
      refine Cx.seq (fun K11 k11 => ?_)
      refine Cx.region ?_
      refine Lx.y (mv rfl) rfl ?_
      refine Lx.y (mv rfl) rfl ?_
      refine Lx.o (appN (et := 3) (n + 1) news (xs ++ news) Try.underlying39 Try.underlying39 ti3 rfl rfl (by rw [hns]) (by rw [List.drop_zero, List.take_of_length_le (by omega)]) hn1 (by omega) (by omega) rfl rfl) rfl (fun v B' H' hΦ hB => ?_)
      obtain ⟨A3, c3, rfl, hA3, hl3, hc3, hBB, rfl⟩ := hΦ
      obtain rfl := hBB.symm
      clear hB
      refine Lx.y (asg rfl) rfl ?_
      refine Lx.nil ?_
      refine Xx.tn (k11 _ _ _ _ ?_)
      refine Cx.ret ?_
      refine Xx.tr ?_
      exact Xx.dropB vb (Xx.ret1 rfl rfl ⟨A3, c3, rfl, rfl, rfl, hA3 (by omega), hc3⟩ (Frag.le_refl _) rfl)
    · skip
      exact absurd rfl h10

set_option maxHeartbeats 1000000 in
theorem InsI_mid (b : Nat) (sp : List Value) (i n c : Nat) (xs : List Value) (vb : Nat) (etv : TypeId) (news : List Value) (B : Frag) (hi : i < n) (hxl : xs.length = n * 1) (hnc : n ≤ c) (hcl : (xs ++ sp).length = c * 1) (hx1 : xs.all (·.oneCell') = true) (hns : news.length = 1) (hn1 : news.all (·.oneCell') = true) (hbd : (n + 1) * 8 ≤ 140737488355328) : Ct Try.prog 79 [.slice (some ⟨b, 0, none⟩) n c, i64 (i : Nat), .slice (some ⟨vb, 0, none⟩) 1 1] B (row vb etv news * row b 3 (xs ++ sp)) (fun v B' H' => ∃ b' c' sp', v = .slice (some ⟨b', 0, none⟩) (n + 1) c' ∧ B' = B ∧ H' = row b' 3 (xs.take (i * 1) ++ news ++ xs.drop (i * 1) ++ sp') ∧ (xs.take (i * 1) ++ news ++ xs.drop (i * 1) ++ sp').length = c' * 1 ∧ n + 1 ≤ c') := by
  have hxl2 := hcl
  rw [List.length_append] at hxl2
  have hDl : (xs.drop (i * 1)).length = (n - i) * 1 := by rw [List.length_drop]; omega
  have hD1 : (xs.drop (i * 1)).all (·.oneCell') = true := by rw [List.all_eq_true] at hx1 ⊢; exact fun v hv => hx1 v (List.mem_of_mem_drop hv)
  have hTl : (xs.take (i * 1)).length = i * 1 := by rw [List.length_take]; omega
  refine Ct.of_body Try.func79 rfl (nt := 95) rfl (by kernel_rfl) rfl ?_
  intro N0 w0 R
  rw [star_assoc]
  refine Cx.seq (fun K1 k1 => ?_)
  refine Cx.region ?_
  refine Lx.y (asg rfl) rfl ?_
  refine Lx.nil ?_
  refine Xx.tn (k1 _ _ _ _ ?_)
  refine Cx.seq (fun K2 k2 => ?_)
  refine Cx.region ?_
  refine Lx.y (mv rfl) rfl ?_
  refine Lx.y (mv rfl) rfl ?_
  refine Lx.y (sl1V Try.underlying39 sz3 rfl rfl (Int.toNat_natCast _) (by omega) (by omega)) rfl ?_
  refine Lx.nil ?_
  refine Xx.tn (k2 _ _ _ _ ?_)
  refine Cx.seq (fun K3 k3 => ?_)
  refine Cx.region ?_
  refine Lx.y (mv rfl) rfl ?_
  refine Lx.y (lenV (ty' := 0) Try.underlying39 rfl) rfl ?_
  refine Lx.y (asg rfl) rfl ?_
  refine Lx.nil ?_
  refine Xx.tn (k3 _ _ _ _ ?_)
  refine Cx.seq (fun K4 k4 => ?_)
  refine Cx.seq (fun K5 k5 => ?_)
  refine Cx.region ?_
  refine Lx.y (mv rfl) rfl ?_
  refine Lx.y (eqI rfl rfl) rfl ?_
  refine Lx.nil ?_
  refine Xx.tn (k5 _ _ _ _ ?_)
  refine Cx.condD rfl (fun h6 => ?_) (fun h6 => ?_)
  · skip
    exact absurd h6 (by decide)
  · skip
    refine Cx.skip ?_
    refine Xx.tn (k4 _ _ _ _ ?_)
    refine Cx.seq (fun K7 k7 => ?_)
    refine Cx.region ?_
    refine Lx.y (mv rfl) rfl ?_
    refine Lx.y (lenV (ty' := 0) Try.underlying39 rfl) rfl ?_
    refine Lx.y (asg rfl) rfl ?_
    refine Lx.nil ?_
    refine Xx.tn (k7 _ _ _ _ ?_)
    refine Cx.seq (fun K8 k8 => ?_)
    refine Cx.seq (fun K9 k9 => ?_)
    refine Cx.region ?_
    refine Lx.y (mv rfl) rfl ?_
    refine Lx.y (mv rfl) rfl ?_
    refine Lx.y (eqI rfl rfl) rfl ?_
    refine Lx.nil ?_
    refine Xx.tn (k9 _ _ _ _ ?_)
    refine Cx.condD rfl (fun h10 => ?_) (fun h10 => ?_)
    · skip
      exact absurd h10 (by omega)
    · skip
      refine Cx.skip ?_
      refine Xx.tn (k8 _ _ _ _ ?_)
      refine Cx.seq (fun K11 k11 => ?_)
      refine Cx.seq (fun K12 k12 => ?_)
      refine Cx.region ?_
      refine Lx.y (mv rfl) rfl ?_
      refine Lx.y (mv rfl) rfl ?_
      refine Lx.y (add rfl rfl (by first | exact wrap64 (by omega) (by omega) | rfl)) rfl ?_
      refine Lx.y (mv rfl) rfl ?_
      refine Lx.y (capV Try.underlying39 rfl) rfl ?_
      refine Lx.y (gtr rfl rfl) rfl ?_
      refine Lx.nil ?_
      refine Xx.tn (k12 _ _ _ _ ?_)
      refine Cx.condD rfl (fun h13 => ?_) (fun h13 => ?_)
      · skip
        have hno := h13
        refine Cx.seq (fun K14 k14 => ?_)
        refine Cx.region ?_
        refine Lx.y (mv rfl) rfl ?_
        refine Lx.y (mv rfl) rfl ?_
        refine Lx.y (sl2V Try.underlying39 sz3 rfl rfl (Int.toNat_natCast _) (by omega) (by omega)) rfl ?_
        refine Lx.y (mv rfl) rfl ?_
        refine Lx.y (mv rfl) rfl ?_
        refine Lx.y (add rfl rfl (by first | exact wrap64 (by omega) (by omega) | rfl)) rfl ?_
        refine Lx.y (mv rfl) rfl ?_
        refine Lx.y (sub rfl rfl (show IntKind.i64.wrap _ = ((n + 1 - i : Nat) : Int) by rw [wrap64 (by omega) (by omega)]; omega)) rfl ?_
        refine Lx.o (amO (olds := xs.take (i * 1)) (m := n + 1 - i) Try.underlying39 Try.underlying3 ti3 rfl rfl (SrcH.own (b := b) (o := 0) (i * 1) (by rw [List.drop_zero]; exact List.take_append_of_le_length (by omega))) hTl (by omega) (by omega) (by rw [show i + (n + 1 - i) = n + 1 by omega]; exact hbd)) rfl (fun v B' H' hΦ hB => ?_)
        obtain ⟨b9, c9, rest, rfl, hc9, hrl, hBB, rfl⟩ := hΦ
        obtain rfl := hBB.symm
        clear hB
        rw [show i + (n + 1 - i) = n + 1 by omega] at hc9 ⊢
        refine Lx.y (asg rfl) rfl ?_
        refine Lx.nil ?_
        refine Xx.tn (k14 _ _ _ _ ?_)
        refine Cx.seq (fun K15 k15 => ?_)
        refine Cx.region ?_
        refine Lx.y (mv rfl) rfl ?_
        refine Lx.y (mv rfl) rfl ?_
        refine Lx.y (sl1A i Try.underlying39 sz3 rfl rfl rfl (by omega) (by omega)) rfl ?_
        refine Lx.y (mv rfl) rfl ?_
        refine Lx.o (cpO (cs' := (xs.take (i * 1) ++ news ++ rest.drop 1)) 1 Try.underlying39 sz3 rfl rfl (show Nat.min _ _ = _ by first | rfl | (simp only [Nat.min_def]; split <;> omega)) (SrcH.own (b := vb) (o := 0) (news := news) 1 (by rw [List.drop_zero, List.take_of_length_le (by omega)])) (by rw [hns]) hn1 (by rw [Nat.zero_add, List.length_append, hTl]; omega) (by rw [Nat.zero_add]; exact ins_grow1 hTl hns (by omega))) rfl (fun v B' H' hΦ hB => ?_)
        obtain ⟨rfl, hBB, rfl⟩ := hΦ
        obtain rfl := hBB.symm
        clear hB
        refine Lx.nil ?_
        refine Xx.tn (k15 _ _ _ _ ?_)
        refine Cx.seq (fun K16 k16 => ?_)
        refine Cx.drawn (by kernel_rfl) ?_
        refine Dx.p (i := 0) rfl (by kernel_rfl) (mv rfl) rfl ?_
        refine Dx.p (i := 1) rfl (by kernel_rfl) (mv rfl) rfl ?_
        refine Dx.p (i := 2) rfl (by kernel_rfl) (mv rfl) rfl ?_
        refine Dx.p (i := 3) rfl (by kernel_rfl) (add rfl rfl (show IntKind.i64.wrap _ = ((i + 1 : Nat) : Int) by rw [wrap64 (by omega) (by omega)]; rfl)) rfl ?_
        refine Dx.p (i := 4) rfl (by kernel_rfl) (sl1A (i + 1) Try.underlying39 sz3 rfl rfl rfl (by omega) (by omega)) rfl ?_
        refine Dx.p (i := 5) rfl (by kernel_rfl) (mv rfl) rfl ?_
        refine Dx.p (i := 6) rfl (by kernel_rfl) (mv rfl) rfl ?_
        refine Dx.p (i := 7) rfl (by kernel_rfl) (sl1A i Try.underlying39 sz3 rfl rfl rfl (by omega) (by omega)) rfl ?_
        refine Dx.one (i := 8) (by kernel_rfl) ?_
        refine Dstep.o (i := 8) rfl (cpO (cs' := (xs.take (i * 1) ++ news ++ xs.drop (i * 1) ++ (rest.drop 1).drop (xs.drop (i * 1)).length)) (n - i) Try.underlying39 sz3 rfl rfl (show Nat.min _ _ = _ by first | rfl | (simp only [Nat.min_def]; split <;> omega)) (SrcH.own (b := b) (o := 0 + i * 1) (news := xs.drop (i * 1)) ((n - i) * 1) (by rw [Nat.zero_add, List.drop_append_of_le_length (by omega), List.take_append_of_le_length (by omega), List.take_of_length_le (by omega)])) hDl hD1 (by simp only [List.length_append, List.length_drop, hTl, hns, hDl]; omega) (by rw [Nat.zero_add, show (i + 1) * 1 = i * 1 + 1 by omega]; exact ins_grow2 hTl hns)) rfl (fun v B' H' hΦ hB => ?_)
        obtain ⟨rfl, rfl, rfl⟩ := hΦ
        clear hB
        refine ⟨JOk.top, ?_⟩
        refine Dx.done (by kernel_rfl) ?_
        refine Xx.tn (k16 _ _ _ _ ?_)
        refine Cx.seq (fun K17 k17 => ?_)
        refine Cx.region ?_
        refine Lx.y (mv rfl) rfl ?_
        refine Lx.y (asg rfl) rfl ?_
        refine Lx.nil ?_
        refine Xx.tn (k17 _ _ _ _ ?_)
        refine Cx.ret ?_
        refine Xx.tr ?_
        exact Xx.dropB vb (Xx.dropB b (Xx.ret1 rfl rfl ⟨b9, c9, _, rfl, rfl, rfl, by simp only [List.length_append, List.length_drop, hTl, hns, hDl]; omega, hc9⟩ (Frag.le_refl _) rfl))
      · skip
        have hno := h13
        refine Cx.skip ?_
        refine Xx.tn (k11 _ _ _ _ ?_)
        refine Cx.seq (fun K18 k18 => ?_)
        refine Cx.region ?_
        refine Lx.y (mv rfl) rfl ?_
        refine Lx.y (mv rfl) rfl ?_
        refine Lx.y (mv rfl) rfl ?_
        refine Lx.y (add rfl rfl (show IntKind.i64.wrap _ = ((n + 1 : Nat) : Int) by rw [wrap64 (by omega) (by omega)]; rfl)) rfl ?_
        refine Lx.y (sl2V Try.underlying39 sz3 rfl rfl (Int.toNat_natCast _) (by omega) (by omega)) rfl ?_
        refine Lx.y (asg rfl) rfl ?_
        refine Lx.nil ?_
        refine Xx.tn (k18 _ _ _ _ ?_)
        refine Cx.seq (fun K19 k19 => ?_)
        refine Cx.seq (fun K20 k20 => ?_)
        refine Cx.region ?_
        refine Lx.y (mv rfl) rfl ?_
        refine Lx.y (mv rfl) rfl ?_
        refine Lx.y (mv rfl) rfl ?_
        refine Lx.y (mv rfl) rfl ?_
        refine Lx.y (add rfl rfl (show IntKind.i64.wrap _ = ((i + 1 : Nat) : Int) by rw [wrap64 (by omega) (by omega)]; rfl)) rfl ?_
        refine Lx.y (sl1V Try.underlying39 sz3 rfl rfl (Int.toNat_natCast _) (by omega) (by omega)) rfl ?_
        rw [show subA (some ⟨b, 0, none⟩) c (i + 1) 1 = (if c = i + 1 then some ⟨b, 0, none⟩ else some ⟨b, 0 + (i + 1) * 1, none⟩) by unfold subA; split <;> simp [add_mk]]
        have hcne : ¬ c = i + 1 := by omega
        rw [if_neg hcne]
        refine Lx.y (extc rfl rfl (ovQ (tS := 39) (tR := 4) Try.func94 (by kernel_rfl) (by kernel_rfl) (by kernel_rfl) (by kernel_rfl) Try.underlying39 sz3 rfl (by intro z; have h9 := congrArg List.length z; rw [List.length_append, List.length_nil] at h9; omega))) rfl ?_
        refine Lx.y (not' rfl) rfl ?_
        refine Lx.nil ?_
        refine Xx.tn (k20 _ _ _ _ ?_)
        refine Cx.condT rfl ?_
        refine Cx.seq (fun K21 k21 => ?_)
        refine Cx.drawn (by kernel_rfl) ?_
        refine Dx.p (i := 0) rfl (by kernel_rfl) (mv rfl) rfl ?_
        refine Dx.p (i := 1) rfl (by kernel_rfl) (mv rfl) rfl ?_
        refine Dx.p (i := 2) rfl (by kernel_rfl) (mv rfl) rfl ?_
        refine Dx.p (i := 3) rfl (by kernel_rfl) (add rfl rfl (show IntKind.i64.wrap _ = ((i + 1 : Nat) : Int) by rw [wrap64 (by omega) (by omega)]; rfl)) rfl ?_
        refine Dx.p (i := 4) rfl (by kernel_rfl) (sl1A (i + 1) Try.underlying39 sz3 rfl rfl rfl (by omega) (by omega)) rfl ?_
        refine Dx.p (i := 5) rfl (by kernel_rfl) (mv rfl) rfl ?_
        refine Dx.p (i := 6) rfl (by kernel_rfl) (mv rfl) rfl ?_
        refine Dx.p (i := 7) rfl (by kernel_rfl) (sl1A i Try.underlying39 sz3 rfl rfl rfl (by omega) (by omega)) rfl ?_
        refine Dx.one (i := 8) (by kernel_rfl) ?_
        refine Dstep.o (i := 8) rfl (cpO (cs' := ((xs ++ sp).take (i * 1 + 1) ++ xs.drop (i * 1) ++ (xs ++ sp).drop ((n + 1) * 1))) (n - i) Try.underlying39 sz3 rfl rfl (show Nat.min _ _ = _ by first | rfl | (simp only [Nat.min_def]; split <;> omega)) (SrcH.own (b := b) (o := 0 + i * 1) (news := xs.drop (i * 1)) ((n - i) * 1) (by rw [Nat.zero_add, List.drop_append_of_le_length (by omega), List.take_append_of_le_length (by omega), List.take_of_length_le (by omega)])) hDl hD1 (by rw [List.length_append]; omega) (by rw [Nat.zero_add, hDl, show (i + 1) * 1 = i * 1 + 1 by omega, show i * 1 + 1 + (n - i) * 1 = (n + 1) * 1 by omega])) rfl (fun v B' H' hΦ hB => ?_)
        obtain ⟨rfl, rfl, rfl⟩ := hΦ
        clear hB
        refine ⟨JOk.top, ?_⟩
        refine Dx.done (by kernel_rfl) ?_
        refine Xx.tn (k21 _ _ _ _ ?_)
        refine Cx.seq (fun K22 k22 => ?_)
        refine Cx.region ?_
        refine Lx.y (mv rfl) rfl ?_
        refine Lx.y (mv rfl) rfl ?_
        refine Lx.y (sl1A i Try.underlying39 sz3 rfl rfl rfl (by omega) (by omega)) rfl ?_
        refine Lx.y (mv rfl) rfl ?_
        refine Lx.o (cpO (cs' := (xs.take (i * 1) ++ news ++ xs.drop (i * 1) ++ (xs ++ sp).drop ((n + 1) * 1))) 1 Try.underlying39 sz3 rfl rfl (show Nat.min _ _ = _ by first | rfl | (simp only [Nat.min_def]; split <;> omega)) (SrcH.own (b := vb) (o := 0) (news := news) 1 (by rw [List.drop_zero, List.take_of_length_le (by omega)])) (by rw [hns]) hn1 (by simp only [List.length_append, List.length_take, List.length_drop, hDl]; omega) (by rw [Nat.zero_add]; exact ins_room (by omega) hns (by rw [List.length_append]; omega) (List.take_append_of_le_length (by omega)) rfl (by omega))) rfl (fun v B' H' hΦ hB => ?_)
        obtain ⟨rfl, hBB, rfl⟩ := hΦ
        obtain rfl := hBB.symm
        clear hB
        refine Lx.nil ?_
        refine Xx.tn (k22 _ _ _ _ ?_)
        refine Cx.seq (fun K23 k23 => ?_)
        refine Cx.region ?_
        refine Lx.y (mv rfl) rfl ?_
        refine Lx.y (asg rfl) rfl ?_
        refine Lx.nil ?_
        refine Xx.tn (k23 _ _ _ _ ?_)
        refine Cx.ret ?_
        refine Xx.tr ?_
        exact Xx.dropB vb (Xx.ret1 rfl rfl ⟨b, c, _, rfl, rfl, rfl, by simp only [List.length_append, List.length_drop, hTl, hns, hDl]; omega, by omega⟩ (Frag.le_refl _) rfl)

theorem InsI_ct (A : Option Addr) (i n c : Nat) (xs : List Value) (vb : Nat) (etv : TypeId) (news : List Value) (B : Frag) (hi : i ≤ n) (hxl : xs.length = n * 1) (hx1 : xs.all (·.oneCell') = true) (hns : news.length = 1) (hn1 : news.all (·.oneCell') = true) (hbd : (n + 1) * 8 ≤ 140737488355328) :
    Ct Try.prog 79 [.slice A n c, i64 (i : Nat), .slice (some ⟨vb, 0, none⟩) 1 1] B (sbuf 3 1 A n c xs * row vb etv news) (fun v B' H' => ∃ A' c', v = .slice A' (n + 1) c' ∧ B' = B ∧ H' = sbuf 3 1 A' (n + 1) c' (xs.take (i * 1) ++ news ++ xs.drop (i * 1)) ∧ (∃ b, A' = some ⟨b, 0, none⟩) ∧ n + 1 ≤ c') := by
  by_cases h : i = n
  · subst h
    have h1 : xs.take (i * 1) = xs := List.take_of_length_le (by omega)
    have h2 : xs.drop (i * 1) = [] := List.drop_of_length_le (by omega)
    rw [h1, h2, List.append_nil]
    exact InsI_end A i c xs vb etv news B hns hn1 hbd
  · refine Ct.of_sbuf (by omega) (fun b sp hA hx hnc hcl => ?_) (Go.SL.enters_of Try.func79 rfl (by kernel_rfl))
    subst hA
    have hm := InsI_mid b sp i n c xs vb etv news B (by omega) hxl hnc hcl hx1 hns hn1 hbd
    refine ⟨hm.1, fun N0 w R s => (hm.2 N0 w R s).mono ?_⟩
    rintro x w' ⟨v, B', _, hx', ⟨b', c', sp', hv, hB, rfl, hl, hc'⟩, hBB, hb, s'⟩
    refine ⟨v, B', _, hx', ⟨some ⟨b', 0, none⟩, c', hv, hB, rfl, ⟨b', rfl⟩, hc'⟩, hBB, hb, row_sbuf ?_ hc' hl s'⟩
    simp only [List.length_append, List.length_take, List.length_drop, hns, hxl]; omega

set_option maxHeartbeats 4000000 in
theorem DelS_row (b i n c : Nat) (xs sp : List Value) (B : Frag) (hi : i < n) (hxl : xs.length = n * 3) (hnc : n ≤ c) (hcl : (xs ++ sp).length = c * 3) (hx1 : xs.all (·.oneCell') = true) (hbd : n ≤ 4611686018427387904) : Ct Try.prog 77 [.slice (some ⟨b, 0, none⟩) n c, i64 (i : Nat), i64 (i + 1 : Nat)] B (row b 25 (xs ++ sp)) (fun v B' H' => v = .slice (some ⟨b, 0, none⟩) (n - 1) c ∧ B' = B ∧ ∃ sp', H' = row b 25 ((xs.take (i * 3) ++ xs.drop ((i + 1) * 3)) ++ sp') ∧ ((xs.take (i * 3) ++ xs.drop ((i + 1) * 3)) ++ sp').length = c * 3) := by
  have hcl2 := hcl
  rw [List.length_append] at hcl2
  have hT : (xs.take (i * 3)).length = i * 3 := by rw [List.length_take]; omega
  have hD : (xs.drop ((i + 1) * 3)).length = (n - (i + 1)) * 3 := by rw [List.length_drop]; omega
  have hD1 : (xs.drop ((i + 1) * 3)).all (·.oneCell') = true := by rw [List.all_eq_true] at hx1 ⊢; exact fun v hv => hx1 v (List.mem_of_mem_drop hv)
  refine Ct.of_body Try.func77 rfl (nt := 33) rfl (by kernel_rfl) rfl ?_
  intro N0 w0 R
  refine Cx.seq (fun K1 k1 => ?_)
  refine Cx.region ?_
  refine Lx.y (asg rfl) rfl ?_
  refine Lx.nil ?_
  refine Xx.tn (k1 _ _ _ _ ?_)
  refine Cx.seq (fun K2 k2 => ?_)
  refine Cx.region ?_
  refine Lx.y (mv rfl) rfl ?_
  refine Lx.y (mv rfl) rfl ?_
  refine Lx.y (mv rfl) rfl ?_
  refine Lx.y (mv rfl) rfl ?_
  refine Lx.y (lenV (ty' := 0) Try.underlying54 rfl) rfl ?_
  refine Lx.y (sl4V Try.underlying54 sz25 rfl rfl rfl rfl (by omega) (by omega) (by omega) (by omega)) rfl ?_
  refine Lx.nil ?_
  refine Xx.tn (k2 _ _ _ _ ?_)
  refine Cx.seq (fun K3 k3 => ?_)
  refine Cx.seq (fun K4 k4 => ?_)
  refine Cx.region ?_
  refine Lx.y (mv rfl) rfl ?_
  refine Lx.y (mv rfl) rfl ?_
  refine Lx.y (eqI rfl rfl) rfl ?_
  refine Lx.nil ?_
  refine Xx.tn (k4 _ _ _ _ ?_)
  refine Cx.condD rfl (fun h5 => ?_) (fun h5 => ?_)
  · skip
    exact absurd h5 (by omega)
  · skip
    refine Cx.skip ?_
    refine Xx.tn (k3 _ _ _ _ ?_)
    refine Cx.seq (fun K6 k6 => ?_)
    refine Cx.region ?_
    refine Lx.y (mv rfl) rfl ?_
    refine Lx.y (lenV (ty' := 0) Try.underlying54 rfl) rfl ?_
    refine Lx.y (asg rfl) rfl ?_
    refine Lx.nil ?_
    refine Xx.tn (k6 _ _ _ _ ?_)
    refine Cx.seq (fun K7 k7 => ?_)
    refine Cx.drawn (by kernel_rfl) ?_
    refine Dx.p (i := 0) rfl (by kernel_rfl) (mv rfl) rfl ?_
    refine Dx.p (i := 1) rfl (by kernel_rfl) (mv rfl) rfl ?_
    refine Dx.p (i := 2) rfl (by kernel_rfl) (sl2V Try.underlying54 sz25 rfl rfl (Int.toNat_natCast _) (by omega) (by omega)) rfl ?_
    refine Dx.p (i := 3) rfl (by kernel_rfl) (mv rfl) rfl ?_
    refine Dx.p (i := 4) rfl (by kernel_rfl) (mv rfl) rfl ?_
    refine Dx.p (i := 5) rfl (by kernel_rfl) (sl1V Try.underlying54 sz25 rfl rfl (Int.toNat_natCast _) (by omega) (by omega)) rfl ?_
    refine Dx.one (i := 6) (by kernel_rfl) ?_
    refine Dstep.o (i := 6) rfl (apR (cs' := (xs.take (i * 3) ++ xs.drop ((i + 1) * 3)) ++ (xs ++ sp).drop (i * 3 + (n - (i + 1)) * 3)) Try.underlying54 Try.underlying54 ti25 rfl rfl (SrcH.sub (N0 := N0) (B := B) (H := row b 25 (xs ++ sp) * R) (c := c) (j := i + 1) (size := 3) (b := b) hxl (by omega) hnc) hD hD1 (by omega) (by rw [hD, List.length_append]; omega) (by rw [hD, List.take_append_of_le_length (by omega), Nat.zero_add])) rfl (fun v B' H' hΦ hB => ?_)
    obtain ⟨rfl, hBB, rfl⟩ := hΦ
    subst hBB
    rename Frag => B
    clear hB
    rw [show i + (n - (i + 1)) = n - 1 by omega]
    refine ⟨JOk.top, ?_⟩
    refine Dx.p (i := 7) rfl (by kernel_rfl) (asg rfl) rfl ?_
    refine Dx.done (by kernel_rfl) ?_
    refine Xx.tn (k7 _ _ _ _ ?_)
    refine Cx.seq (fun K8 k8 => ?_)
    refine Cx.region ?_
    refine Lx.y (mv rfl) rfl ?_
    refine Lx.y (mv rfl) rfl ?_
    refine Lx.y (lenV (ty' := 0) Try.underlying54 rfl) rfl ?_
    refine Lx.y (mv rfl) rfl ?_
    refine Lx.y (sl3A (n - 1) n Try.underlying54 sz25 rfl rfl rfl rfl rfl (by omega) (by omega) (by omega)) rfl ?_
    refine Lx.o0 (clO Try.underlying54 ti25 rfl (by omega) rfl (by simp only [List.length_append, List.length_drop, hT]; omega)) (fun v B' H' hΦ hB => ?_)
    obtain ⟨rfl, hBB, zz, hzl, rfl⟩ := hΦ
    subst hBB
    rename Frag => B
    clear hB
    refine Lx.nil ?_
    refine Xx.tn (k8 _ _ _ _ ?_)
    refine Cx.seq (fun K9 k9 => ?_)
    refine Cx.region ?_
    refine Lx.y (mv rfl) rfl ?_
    refine Lx.y (asg rfl) rfl ?_
    refine Lx.nil ?_
    refine Xx.tn (k9 _ _ _ _ ?_)
    refine Cx.ret ?_
    have e1 : ((xs.take (i * 3) ++ xs.drop ((i + 1) * 3)) ++ (xs ++ sp).drop (i * 3 + (n - (i + 1)) * 3)).take (0 + (n - 1) * 3) = (xs.take (i * 3) ++ xs.drop ((i + 1) * 3)) := by rw [List.take_append_of_le_length (by rw [List.length_append, hT, hD]; omega), List.take_of_length_le (by rw [List.length_append, hT, hD]; omega)]
    rw [e1, List.append_assoc]
    exact Xx.ret1 rfl rfl ⟨rfl, rfl, _, rfl, by simp only [List.length_append, List.length_drop, hT, hD, hzl]; omega⟩ (Frag.le_refl _) rfl

theorem DelS_ct (A : Option Addr) (i n c : Nat) (xs : List Value) (B : Frag) (hi : i < n) (hxl : xs.length = n * 3) (hx1 : xs.all (·.oneCell') = true) (hbd : n ≤ 4611686018427387904) : Ct Try.prog 77 [.slice A n c, i64 (i : Nat), i64 (i + 1 : Nat)] B (sbuf 25 3 A n c xs) (fun v B' H' => v = .slice A (n - 1) c ∧ B' = B ∧ H' = sbuf 25 3 A (n - 1) c (xs.take (i * 3) ++ xs.drop ((i + 1) * 3))) := by
  have h0 := Ct.of_sbuf (P := Try.prog) (f := 77) (args := [.slice A n c, i64 (i : Nat), i64 (i + 1 : Nat)]) (B := B) (et := 25) (size := 3) (n := n) (c := c) (A := A) (xs := xs) (q := 1) (Φ := fun v B' H' => v = .slice A (n - 1) c ∧ B' = B ∧ H' = sbuf 25 3 A (n - 1) c (xs.take (i * 3) ++ xs.drop ((i + 1) * 3))) (by omega) ?_ (Go.SL.enters_of Try.func77 rfl (by kernel_rfl))
  · rw [star_one] at h0; exact h0
  · intro b sp hA hx hnc hcl
    subst hA
    rw [one_star]
    have hm := DelS_row b i n c xs sp B hi hxl hnc (by omega) hx1 hbd
    refine ⟨hm.1, fun N0 w R s => (hm.2 N0 w R s).mono ?_⟩
    rintro x w' ⟨v, B', _, hx', ⟨rfl, rfl, sp', rfl, hl⟩, hBB, hb, s'⟩
    refine ⟨_, _, _, hx', ⟨rfl, rfl, rfl⟩, hBB, hb, row_sbuf ?_ (by omega) (by omega) s'⟩
    simp only [List.length_append, List.length_take, List.length_drop, hxl]; omega
end DkA
end Go.Proofs.Ytgcebieihmlaoaa
