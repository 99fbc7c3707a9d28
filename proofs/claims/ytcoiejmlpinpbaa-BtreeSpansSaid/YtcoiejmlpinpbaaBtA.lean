/-
  Search among strings in order.
-/
import Derived.Test.YtcoiejmlpinpbaaProg
import Derived.Test.YtcoiejmlpinpbaaSlj
import Derived.Test.YtcoiejmlpinpbaaSlk
import Derived.Test.YtcoiejmlpinpbaaSlm
import Derived.Test.YtcoiejmlpinpbaaSln
import Derived.Test.YtcoiejmlpinpbaaSlo
import Derived.Test.YtcoiejmlpinpbaaSlp
import Derived.Test.YtcoiejmlpinpbaaSlq
import Derived.Test.YtcoiejmlpinpbaaSlr
import Derived.Test.YtcoiejmlpinpbaaSls
namespace Go.Proofs.Ytcoiejmlpinpbaa
open Go.SL Go.RowKit
set_option linter.unusedVariables false
set_option linter.unusedSimpArgs false
set_option maxRecDepth 100000
namespace BtA
theorem sz9 : (Try.prog.info? 9).map (·.size) = some 1 := by kernel_rfl

theorem bless_nil (x : List UInt8) : bless x [] = false := by cases x <;> rfl
theorem bless_cons (a b : UInt8) (x y : List UInt8) : bless (a :: x) (b :: y) = (decide (a < b) || (a == b && bless x y)) := rfl
theorem bless_app (p a b : List UInt8) : bless (p ++ a) (p ++ b) = bless a b := by
  induction p with
  | nil => rfl
  | cons c p ih => simp only [List.cons_append, bless_cons, ih]; simp
theorem bless_irrefl (a : List UInt8) : bless a a = false := by
  induction a with
  | nil => rfl
  | cons x a ih => rw [bless_cons, ih]; simp
theorem bless_total {a b : List UInt8} (h1 : bless a b = false) (h2 : bless b a = false) : a = b := by
  induction a generalizing b with
  | nil => cases b with
    | nil => rfl
    | cons y b => cases h1
  | cons x a ih =>
    cases b with
    | nil => cases h2
    | cons y b =>
      rw [bless_cons] at h1 h2
      simp at h1 h2
      have e : x = y := UInt8.le_antisymm h2.1 h1.1
      subst e
      rw [ih (by simpa using h1.2 rfl) (by simpa using h2.2 rfl)]
theorem bless_trans {a b c : List UInt8} (h1 : bless a b = true) (h2 : bless b c = true) : bless a c = true := by
  induction a generalizing b c with
  | nil => cases c with
    | nil => rw [bless_nil] at h2; cases h2
    | cons z c => rfl
  | cons x a ih =>
    cases b with
    | nil => cases h1
    | cons y b =>
      cases c with
      | nil => cases h2
      | cons z c =>
        rw [bless_cons] at *
        simp at *
        rcases h1 with h1 | ⟨rfl, h1⟩ <;> rcases h2 with h2 | ⟨rfl, h2⟩
        · exact .inl (UInt8.lt_trans h1 h2)
        · exact .inl h1
        · exact .inl h2
        · exact .inr ⟨rfl, ih h1 h2⟩
theorem bless_asymm {a b : List UInt8} (h : bless a b = true) : bless b a = false := by
  cases h2 : bless b a with
  | false => rfl
  | true => have := bless_trans h h2; rw [bless_irrefl] at this; cases this
theorem RoS.part {B : Frag} {A : Option Addr} {n size : Nat} {xs : List Value} (h : RoS B size A n xs) {i : Nat} (hi : i < n) : ∃ b o l et fz, A = some ⟨b, o, none⟩ ∧ B b = some (.cells (List.toArray l) et fz) ∧ (l.drop (o + i * size)).take size = (xs.drop (i * size)).take size := by
  obtain ⟨h1, h2 | ⟨b, o, cs, et, fz, h3, h4, h5⟩⟩ := h
  · omega
  · refine ⟨b, o, cs, et, fz, h3, h4, ?_⟩
    have hle : i * size + size ≤ n * size := by rw [← Nat.succ_mul]; exact Nat.mul_le_mul_right _ hi
    rw [← h5, ← List.drop_drop, List.drop_take, List.take_take, Nat.min_eq_left (by omega)]
theorem RoS.roe {B : Frag} {A : Option Addr} {n : Nat} {xs : List Value} (h : RoS B 1 A n xs) : RoE B A n xs := by
  refine ⟨by simpa using h.1, fun k hk => ?_⟩
  obtain ⟨b, o, l, et, fz, h1, h2, h3⟩ := RoS.part h hk
  refine ⟨b, o, l, et, fz, h1, h2, ?_⟩
  have h4 := congrArg (fun z : List Value => z[0]?) h3
  simpa [List.getElem?_take, List.getElem?_drop] using h4

/-- strictly in order -/
def Srt (ks : List (List UInt8)) : Prop := ks.Pairwise (fun a b => bless a b = true)
theorem Srt.lt {ks : List (List UInt8)} (h : Srt ks) {i j : Nat} (hj : j < ks.length) (hij : i < j) : bless (ks[i]'(by omega)) ks[j] = true := List.pairwise_iff_getElem.1 h i j (by omega) hj hij
/-- how many are below -/
def lb : List (List UInt8) → List UInt8 → Nat
  | [], _ => 0
  | k :: ks, t => if bless k t = true then lb ks t + 1 else 0
theorem lb_eq : ∀ (ks : List (List UInt8)) (t : List UInt8) (i : Nat), i ≤ ks.length → (∀ j (hj : j < ks.length), j < i → bless ks[j] t = true) → (∀ h : i < ks.length, bless ks[i] t = false) → lb ks t = i := by
  intro ks t
  induction ks with
  | nil => intro i h _ _; simp at h; subst h; rfl
  | cons k ks ih =>
    intro i h h1 h2
    unfold lb
    cases i with
    | zero => rw [if_neg]; have := h2 (by simp); simp at this; simp [this]
    | succ i =>
      rw [if_pos (by have := h1 0 (by simp) (by omega); simpa using this)]
      rw [ih i (by simpa using h) (fun j hj hji => by have := h1 (j + 1) (by simp; omega) (by omega); simpa using this) (fun h => by have := h2 (by simp; omega); simpa using this)]
theorem mem_at {ks : List (List UInt8)} {t : List UInt8} {i : Nat} (hs : Srt ks) (h1 : ∀ j (hj : j < ks.length), j < i → bless ks[j] t = true) (h2 : ∀ j (hj : j < ks.length), i ≤ j → bless ks[j] t = false) : t ∈ ks ↔ ∃ h : i < ks.length, ks[i] = t := by
  constructor
  · intro hm
    obtain ⟨j, hj, rfl⟩ := List.getElem_of_mem hm
    rcases Nat.lt_trichotomy j i with h | h | h
    · have := h1 j hj h; rw [bless_irrefl] at this; cases this
    · subst h; exact ⟨hj, rfl⟩
    · have e1 := hs.lt hj h
      have e2 := h2 i (by omega) (Nat.le_refl _)
      rw [e1] at e2; cases e2
  · rintro ⟨h, rfl⟩; exact List.getElem_mem h
theorem mid_val {i j : Nat} (h : i + j < 9223372036854775808) : IntKind.i64.wrap ((((BitVec.ofInt 64 ((i + j : Nat) : Int)) >>> 1).toNat : Nat) : Int) = (((i + j) / 2 : Nat) : Int) := by
  have e : (BitVec.ofInt 64 ((i + j : Nat) : Int)).toNat = i + j := by rw [BitVec.toNat_ofInt]; simp only [Nat.reducePow]; omega
  rw [BitVec.toNat_ushiftRight, Nat.shiftRight_eq_div_pow, e, wrap64 (by omega) (by omega)]
theorem roe_str {B : Frag} {A : Option Addr} {n : Nat} {ks : List (List UInt8)} (h : RoE B A n (ks.map str)) {k : Nat} (hk : k < ks.length) (hn : ks.length = n) : ∃ b o cs et fz, A = some ⟨b, o, none⟩ ∧ B b = some (.cells (List.toArray cs) et fz) ∧ cs[o + k * 1]? = some (str ks[k]) := by
  obtain ⟨b, o, cs, et, fz, h1, h2, h3⟩ := h.at1 (k := k) (by omega)
  exact ⟨b, o, cs, et, fz, h1, h2, by rw [h3]; simp [hk]⟩

set_option maxHeartbeats 1000000 in
theorem NaN_ct (s : List UInt8) (B : Frag) : CtP Try.prog 69 [str s] B (.bool false) := by
  refine CtB.of_body Try.func69 rfl (nt := 6) rfl (by kernel_rfl) rfl ?_
  intro N0 w0 R
  refine Cx.seq (fun K1 k1 => ?_)
  refine Cx.region ?_
  refine Lx.y (asg rfl) rfl ?_
  refine Lx.nil ?_
  refine Xx.tn (k1 _ _ _ _ ?_)
  refine Cx.seq (fun K2 k2 => ?_)
  refine Cx.region ?_
  refine Lx.y (mv rfl) rfl ?_
  refine Lx.y (mv rfl) rfl ?_
  refine Lx.y (Yx.ff (neS rfl rfl) (by simp)) rfl ?_
  refine Lx.y (asg rfl) rfl ?_
  refine Lx.nil ?_
  refine Xx.tn (k2 _ _ _ _ ?_)
  refine Cx.ret ?_
  exact Xx.rB1 rfl rfl ⟨rfl, rfl⟩ (Frag.le_refl _) rfl

set_option maxHeartbeats 1000000 in
theorem nanS_ct (s : List UInt8) (B : Frag) : CtP Try.prog 105 [str s] B (.bool false) := by
  refine CtB.of_body Try.func105 rfl (nt := 6) rfl (by kernel_rfl) rfl ?_
  intro N0 w0 R
  refine Cx.seq (fun K1 k1 => ?_)
  refine Cx.region ?_
  refine Lx.y (asg rfl) rfl ?_
  refine Lx.nil ?_
  refine Xx.tn (k1 _ _ _ _ ?_)
  refine Cx.seq (fun K2 k2 => ?_)
  refine Cx.region ?_
  refine Lx.y (mv rfl) rfl ?_
  refine Lx.y (mv rfl) rfl ?_
  refine Lx.y (Yx.ff (neS rfl rfl) (by simp)) rfl ?_
  refine Lx.y (asg rfl) rfl ?_
  refine Lx.nil ?_
  refine Xx.tn (k2 _ _ _ _ ?_)
  refine Cx.ret ?_
  exact Xx.rB1 rfl rfl ⟨rfl, rfl⟩ (Frag.le_refl _) rfl

set_option maxHeartbeats 1000000 in
theorem Less_ct (s t : List UInt8) (r : Bool) (B : Frag) (h : bless s t = r) : CtP Try.prog 68 [str s, str t] B (.bool r) := by
  refine CtB.of_body Try.func68 rfl (nt := 17) rfl (by kernel_rfl) rfl ?_
  intro N0 w0 R
  refine Cx.seq (fun K1 k1 => ?_)
  refine Cx.region ?_
  refine Lx.y (asg rfl) rfl ?_
  refine Lx.nil ?_
  refine Xx.tn (k1 _ _ _ _ ?_)
  refine Cx.seq (fun K2 k2 => ?_)
  refine Cx.region ?_
  refine Lx.y (mv rfl) rfl ?_
  refine Lx.cp rfl rfl rfl (nanS_ct _ _) rfl ?_
  refine Lx.y (mv rfl) rfl ?_
  refine Lx.gF rfl rfl rfl rfl ?_
  refine Lx.gF rfl rfl rfl rfl ?_
  refine Lx.gF rfl rfl rfl rfl ?_
  refine Lx.y (pickF rfl rfl) rfl ?_
  refine Lx.y (mv rfl) rfl ?_
  refine Lx.gT rfl rfl rfl ?_
  refine Lx.y (mv rfl) rfl ?_
  refine Lx.gT rfl rfl rfl ?_
  refine Lx.y (mv rfl) rfl ?_
  refine Lx.gT rfl rfl rfl ?_
  refine Lx.y (lssS rfl rfl) rfl ?_
  refine Lx.y (pickF rfl rfl) rfl ?_
  refine Lx.y (asg rfl) rfl ?_
  refine Lx.nil ?_
  refine Xx.tn (k2 _ _ _ _ ?_)
  refine Cx.ret ?_
  exact Xx.rB1 rfl rfl ⟨congrArg Value.bool h, rfl⟩ (Frag.le_refl _) rfl

set_option maxHeartbeats 1000000 in
theorem BS_ct (ks : List (List UInt8)) (t : List UInt8) (A : Option Addr) (c : Nat) (B : Frag) (hR : RoE B A ks.length (ks.map str)) (hs : Srt ks) (hn : ks.length ≤ 4611686018427387904) : CtP Try.prog 37 [.slice A ks.length c, str t] B (.tuple #[i64 (lb ks t : Nat), .bool (decide (t ∈ ks))]) := by
  refine CtB.of_body Try.func37 rfl (nt := 54) rfl (by kernel_rfl) rfl ?_
  intro N0 w0 R
  refine Cx.seq (fun K1 k1 => ?_)
  refine Cx.region ?_
  refine Lx.y (asg rfl) rfl ?_
  refine Lx.y (asg rfl) rfl ?_
  refine Lx.nil ?_
  refine Xx.tn (k1 _ _ _ _ ?_)
  refine Cx.seq (fun K2 k2 => ?_)
  refine Cx.region ?_
  refine Lx.y (mv rfl) rfl ?_
  refine Lx.y (lenV (ty' := 0) Try.underlying22 rfl) rfl ?_
  refine Lx.y (asg rfl) rfl ?_
  refine Lx.nil ?_
  refine Xx.tn (k2 _ _ _ _ ?_)
  refine Cx.seq (fun K3 k3 => ?_)
  refine Cx.region ?_
  refine Lx.y (mv rfl) rfl ?_
  refine Lx.y (asg rfl) rfl ?_
  refine Lx.y (asg rfl) rfl ?_
  refine Lx.nil ?_
  refine Xx.tn (k3 _ _ _ _ ?_)
  refine Cx.seq (fun K4 k4 => ?_)
  refine Cx.block ?_
  refine Cx.loopK (Sub.cons (s := 0) rfl (Sub.cons (s := 1) rfl (Sub.cons (s := 4) rfl (Sub.cons (s := 5) rfl (Sub.cons (s := 6) rfl (Sub.cons (s := 10) rfl (Sub.cons (s := 11) rfl (Sub.cons (s := 12) rfl (Sub.nil _))))))))) (fun m ρ' B' H' => ∃ (i j : Nat), (i ≤ j ∧ j ≤ ks.length ∧ (∀ k (hk : k < ks.length), k < i → bless ks[k] t = true) ∧ (∀ k (hk : k < ks.length), j ≤ k → bless ks[k] t = false)) ∧ m = j - i ∧ ρ' = [(7, i64 i), (8, i64 j)] ∧ B = B' ∧ R = H') ⟨0, ks.length, ⟨Nat.zero_le _, Nat.le_refl _, fun k _ h => absurd h (by omega), fun k hk h => absurd h (by omega)⟩, rfl, rfl, rfl, rfl⟩ (Sub.cons (s := 7) rfl (Sub.cons (s := 8) rfl (Sub.cons (s := 0) rfl (Sub.cons (s := 1) rfl (Sub.cons (s := 4) rfl (Sub.cons (s := 5) rfl (Sub.cons (s := 6) rfl (Sub.cons (s := 10) rfl (Sub.cons (s := 11) rfl (Sub.cons (s := 12) rfl (Sub.nil _))))))))))) ?_
  rintro m ρ' B' H' ⟨i, j, ⟨hij, hjn, hlo, hhi⟩, rfl, rfl, rfl, rfl⟩
  refine Cx.seq (fun K5 k5 => ?_)
  refine Cx.seq (fun K6 k6 => ?_)
  refine Cx.region ?_
  refine Lx.y (mv rfl) rfl ?_
  refine Lx.y (mv rfl) rfl ?_
  refine Lx.y (lss rfl rfl) rfl ?_
  refine Lx.nil ?_
  refine Xx.tn (k6 _ _ _ _ ?_)
  refine Cx.condD rfl (fun h7 => ?_) (fun h7 => ?_)
  · skip
    have hlt := h7
    have hm : (i + j) / 2 < ks.length := by omega
    obtain ⟨b, o, cs0, et0, fz0, rfl, hB0, hv0⟩ := roe_str hR hm rfl
    refine Cx.skip ?_
    refine Xx.tn (k5 _ _ _ _ ?_)
    refine Cx.block ?_
    refine Cx.seq (fun K8 k8 => ?_)
    refine Cx.region ?_
    refine Lx.y (mv rfl) rfl ?_
    refine Lx.y (mv rfl) rfl ?_
    refine Lx.y (Yx.val (add rfl rfl (by first | exact wrap64 (by omega) (by omega) | rfl)) (show _ = i64 (i + j : Nat) from rfl)) rfl ?_
    refine Lx.y (cvW64 rfl Try.underlying3 Try.underlying112) rfl ?_
    refine Lx.y (shrW64 (c := 1) rfl rfl rfl) rfl ?_
    refine Lx.y (Yx.val (cvI rfl Try.underlying112 Try.underlying3 (mid_val (by omega))) (show _ = i64 ((i + j) / 2 : Nat) from rfl)) rfl ?_
    refine Lx.y (asg rfl) rfl ?_
    refine Lx.nil ?_
    refine Xx.tn (k8 _ _ _ _ ?_)
    refine Cx.seq (fun K9 k9 => ?_)
    refine Cx.region ?_
    refine Lx.y (mv rfl) rfl ?_
    refine Lx.y (mv rfl) rfl ?_
    refine Lx.y (ia Try.underlying22 sz9 rfl rfl (by first | exact Int.toNat_natCast _ | rfl) (by omega) (by omega)) rfl ?_
    refine Lx.y (ldB Try.underlying9 rfl rfl hB0 hv0) rfl ?_
    refine Lx.y (mv rfl) rfl ?_
    refine Lx.cp rfl rfl rfl (Less_ct ks[(i + j) / 2] t _ _ rfl) rfl ?_
    refine Lx.nil ?_
    refine Xx.tn (k9 _ _ _ _ ?_)
    refine Cx.condB rfl (fun h10 => ?_) (fun h10 => ?_)
    · skip
      have hb := h10
      refine Cx.region ?_
      refine Lx.y (mv rfl) rfl ?_
      refine Lx.y (Yx.val (add rfl rfl (by first | exact wrap64 (by omega) (by omega) | rfl)) (show _ = i64 ((i + j) / 2 + 1 : Nat) from rfl)) rfl ?_
      refine Lx.y (asg rfl) rfl ?_
      refine Lx.nil ?_
      refine Xx.bn ?_
      exact Xx.againK ⟨(i + j) / 2 + 1, j, ⟨by omega, hjn, fun k hk hki => by
  by_cases e : k = (i + j) / 2
  · subst e; exact hb
  · exact bless_trans (hs.lt hm (by omega)) hb, hhi⟩, rfl, rfl, rfl, rfl⟩ (by omega) (Sub.cons (s := 7) rfl (Sub.consE (s := 8) rfl (rfl) (Sub.cons (s := 0) rfl (Sub.cons (s := 1) rfl (Sub.cons (s := 4) rfl (Sub.cons (s := 5) rfl (Sub.cons (s := 6) rfl (Sub.cons (s := 10) rfl (Sub.cons (s := 11) rfl (Sub.cons (s := 12) rfl (Sub.nil _)))))))))))
    · skip
      have hb := h10
      refine Cx.region ?_
      refine Lx.y (mv rfl) rfl ?_
      refine Lx.y (asg rfl) rfl ?_
      refine Lx.nil ?_
      refine Xx.bn ?_
      exact Xx.againK ⟨i, (i + j) / 2, ⟨by omega, by omega, hlo, fun k hk hki => by
  by_cases e : k = (i + j) / 2
  · subst e; exact hb
  · cases h2 : bless ks[k] t with
    | false => rfl
    | true => rw [bless_trans (hs.lt hk (show (i + j) / 2 < k by omega)) h2] at hb; cases hb⟩, rfl, rfl, rfl, rfl⟩ (by omega) (Sub.consE (s := 7) rfl (rfl) (Sub.cons (s := 8) rfl (Sub.cons (s := 0) rfl (Sub.cons (s := 1) rfl (Sub.cons (s := 4) rfl (Sub.cons (s := 5) rfl (Sub.cons (s := 6) rfl (Sub.cons (s := 10) rfl (Sub.cons (s := 11) rfl (Sub.cons (s := 12) rfl (Sub.nil _)))))))))))
  · skip
    obtain rfl : i = j := by have := h7; omega
    have hlb := lb_eq ks t i hjn hlo (fun h => hhi i h (Nat.le_refl _))
    have hmem := mem_at hs hlo hhi
    refine Cx.exit ?_
    refine Xx.te ?_
    refine Xx.te ?_
    refine Xx.bh ?_
    refine Xx.tn (k4 _ _ _ _ ?_)
    refine Cx.seq (fun K11 k11 => ?_)
    refine Cx.region ?_
    refine Lx.y (mv rfl) rfl ?_
    refine Lx.y (mv rfl) rfl ?_
    refine Lx.y (mv rfl) rfl ?_
    refine Lx.y (lss rfl rfl) rfl ?_
    refine Lx.y (mv rfl) rfl ?_
    refine Xx.ifD (t := 35) rfl (fun h12 => ?_) (fun h12 => ?_)
    · skip
      have hin := h12
      have hin : i < ks.length := by omega
      obtain ⟨b, o, cs0, et0, fz0, rfl, hB0, hv0⟩ := roe_str hR hin rfl
      refine Lx.gT rfl rfl rfl ?_
      refine Lx.y (mv rfl) rfl ?_
      refine Lx.gT rfl rfl rfl ?_
      refine Lx.y (mv rfl) rfl ?_
      refine Lx.gT rfl rfl rfl ?_
      refine Lx.y (ia Try.underlying22 sz9 rfl rfl (by first | exact Int.toNat_natCast _ | rfl) (by omega) (by omega)) rfl ?_
      refine Lx.gT rfl rfl rfl ?_
      refine Lx.y (ldB Try.underlying9 rfl rfl hB0 hv0) rfl ?_
      refine Lx.gT rfl rfl rfl ?_
      refine Lx.y (mv rfl) rfl ?_
      refine Lx.gT rfl rfl rfl ?_
      refine Lx.y (eqS rfl rfl) rfl ?_
      refine Lx.gT rfl rfl rfl ?_
      refine Lx.y (mv rfl) rfl ?_
      refine Xx.ifD (t := 42) rfl (fun h13 => ?_) (fun h13 => ?_)
      · skip
        have he := h13
        refine Lx.gF rfl rfl rfl rfl ?_
        refine Lx.gF rfl rfl rfl rfl ?_
        refine Lx.gF rfl rfl rfl rfl ?_
        refine Lx.gF rfl rfl rfl rfl ?_
        refine Lx.gF rfl rfl rfl rfl ?_
        refine Lx.gF rfl rfl rfl rfl ?_
        refine Lx.gU rfl rfl rfl rfl ?_
        refine Lx.gU rfl rfl rfl rfl ?_
        refine Lx.gF rfl rfl rfl rfl ?_
        refine Lx.gT rfl rfl rfl ?_
        refine Lx.y (pickT rfl rfl) rfl ?_
        refine Lx.y (pickT rfl rfl) rfl ?_
        refine Lx.y (asg rfl) rfl ?_
        refine Lx.y (asg rfl) rfl ?_
        refine Lx.nil ?_
        refine Xx.tn (k11 _ _ _ _ ?_)
        refine Cx.ret ?_
        exact Xx.rB2 rfl rfl rfl ⟨by rw [hlb, decide_eq_true (hmem.2 ⟨hin, he⟩)], rfl⟩ (Frag.le_refl _) rfl
      · skip
        have he := h13
        refine Lx.gT rfl rfl rfl ?_
        refine Lx.y (mv rfl) rfl ?_
        refine Lx.gT rfl rfl rfl ?_
        refine Lx.y (mv rfl) rfl ?_
        refine Lx.gT rfl rfl rfl ?_
        refine Lx.y (ia Try.underlying22 sz9 rfl rfl (by first | exact Int.toNat_natCast _ | rfl) (by omega) (by omega)) rfl ?_
        refine Lx.gT rfl rfl rfl ?_
        refine Lx.y (ldB Try.underlying9 rfl rfl hB0 hv0) rfl ?_
        refine Lx.gT rfl rfl rfl ?_
        refine Lx.cp rfl rfl rfl ((show CtP _ _ _ _ (.bool false) from NaN_ct _ _)) rfl ?_
        refine Lx.gT rfl rfl rfl ?_
        refine Lx.y (mv rfl) rfl ?_
        refine Lx.gF rfl rfl rfl rfl ?_
        refine Lx.gF rfl rfl rfl rfl ?_
        refine Lx.gT rfl rfl rfl ?_
        refine Lx.y (pickF rfl rfl) rfl ?_
        refine Lx.gT rfl rfl rfl ?_
        refine Lx.y (pickF rfl rfl) rfl ?_
        refine Lx.y (pickT rfl rfl) rfl ?_
        refine Lx.y (asg rfl) rfl ?_
        refine Lx.y (asg rfl) rfl ?_
        refine Lx.nil ?_
        refine Xx.tn (k11 _ _ _ _ ?_)
        refine Cx.ret ?_
        exact Xx.rB2 rfl rfl rfl ⟨by rw [hlb, decide_eq_false (fun z => he (hmem.1 z).2)], rfl⟩ (Frag.le_refl _) rfl
    · skip
      have hin := h12
      refine Lx.gF rfl rfl rfl rfl ?_
      refine Lx.gF rfl rfl rfl rfl ?_
      refine Lx.gF rfl rfl rfl rfl ?_
      refine Lx.gF rfl rfl rfl rfl ?_
      refine Lx.gF rfl rfl rfl rfl ?_
      refine Lx.gF rfl rfl rfl rfl ?_
      refine Lx.gF rfl rfl rfl rfl ?_
      refine Lx.gU rfl rfl rfl rfl ?_
      refine Lx.gU rfl rfl rfl rfl ?_
      refine Lx.gU rfl rfl rfl rfl ?_
      refine Lx.gU rfl rfl rfl rfl ?_
      refine Lx.gU rfl rfl rfl rfl ?_
      refine Lx.gU rfl rfl rfl rfl ?_
      refine Lx.gU rfl rfl rfl rfl ?_
      refine Lx.gU rfl rfl rfl rfl ?_
      refine Lx.gU rfl rfl rfl rfl ?_
      refine Lx.gF rfl rfl rfl rfl ?_
      refine Lx.y (pickF rfl rfl) rfl ?_
      refine Lx.y (asg rfl) rfl ?_
      refine Lx.y (asg rfl) rfl ?_
      refine Lx.nil ?_
      refine Xx.tn (k11 _ _ _ _ ?_)
      refine Cx.ret ?_
      exact Xx.rB2 rfl rfl rfl ⟨by rw [hlb, decide_eq_false (fun z => hin (by have := (hmem.1 z).1; omega))], rfl⟩ (Frag.le_refl _) rfl
end BtA
end Go.Proofs.Ytcoiejmlpinpbaa
