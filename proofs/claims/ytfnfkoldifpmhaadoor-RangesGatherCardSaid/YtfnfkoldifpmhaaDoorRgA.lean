/-
  Parts of a struct, by name: the program, the reference.
-/
import Derived.Test.YtfnfkoldifpmhaaDoorProg
import Derived.Test.YtfnfkoldifpmhaaDoorSlj
import Derived.Test.YtfnfkoldifpmhaaDoorKeI
import Derived.Test.YtfnfkoldifpmhaaDoorSlt
namespace Go.Proofs.YtfnfkoldifpmhaaDoor
open Go.SL Go.RowKit
set_option linter.unusedVariables false
set_option linter.unusedSimpArgs false
set_option maxRecDepth 100000
open Ke1 Ke3 Ke4 Ke5 Ke6 Ke7 Ke8 Ke9 KeA KeB KeC KeD KeE KeF KeG KeI
namespace RgA
theorem sz9 : (Tryd.prog.info? 9).map (·.size) = some 1 := by kernel_rfl
theorem sz26 : (Tryd.prog.info? 26).map (·.size) = some 6 := by kernel_rfl
theorem sz87 : (Tryd.prog.info? 87).map (·.size) = some 6 := by kernel_rfl
theorem ti26 : TI Tryd.prog 26 [.int .i64 0, .bool false, .int .i64 0, str [], .slice none 0 0, .slice none 0 0] 6 88 := TI.of (by kernel_rfl) rfl rfl
theorem ti87 : TI Tryd.prog 87 [.int .i64 0, .bool false, .int .i64 0, str [], .slice none 0 0, .slice none 0 0] 6 88 := TI.of (by kernel_rfl) rfl rfl
theorem fo26_0 : FO Tryd.prog 26 0 0 1 false := FO.of Tryd.underlying26 rfl rfl (by kernel_rfl) Tryd.underlying3 rfl rfl
theorem fo26_4 : FO Tryd.prog 26 4 4 1 false := FO.of Tryd.underlying26 rfl rfl (by kernel_rfl) Tryd.underlying23 rfl rfl
theorem fo26_5 : FO Tryd.prog 26 5 5 1 false := FO.of Tryd.underlying26 rfl rfl (by kernel_rfl) Tryd.underlying24 rfl rfl
theorem fo87_0 : FO Tryd.prog 87 0 0 1 false := FO.of Tryd.underlying87 rfl rfl (by kernel_rfl) Tryd.underlying3 rfl rfl
theorem fo87_4 : FO Tryd.prog 87 4 4 1 false := FO.of Tryd.underlying87 rfl rfl (by kernel_rfl) Tryd.underlying85 rfl rfl
theorem fo87_5 : FO Tryd.prog 87 5 5 1 false := FO.of Tryd.underlying87 rfl rfl (by kernel_rfl) Tryd.underlying24 rfl rfl
theorem pl26 : PL Tryd.prog 26 [(0, 1), (1, 1), (2, 1), (3, 1), (4, 1), (5, 1)] := PL.of Tryd.underlying26 (by kernel_rfl)
theorem pl87 : PL Tryd.prog 87 [(0, 1), (1, 1), (2, 1), (3, 1), (4, 1), (5, 1)] := PL.of Tryd.underlying87 (by kernel_rfl)

/-- strictly in order -/
def Srt (ks : List (List UInt8)) : Prop := ks.Pairwise (fun a b => bless a b = true)
theorem Srt.lt {ks : List (List UInt8)} (h : Srt ks) {i j : Nat} (hj : j < ks.length) (hij : i < j) : bless (ks[i]'(by omega)) ks[j] = true := List.pairwise_iff_getElem.1 h i j (by omega) hj hij
/-- how many are below -/
def lb : List (List UInt8) → List UInt8 → Nat
  | [], _ => 0
  | k :: ks, t => if bless k t = true then lb ks t + 1 else 0
theorem lb_eq : ∀ (ks : List (List UInt8)) (t : List UInt8) (i : Nat), i ≤ ks.length → (∀ j (hj : j < ks.length), j < i → bless ks[j] t = true) → (∀ h : i < ks.length, bless ks[i] t = false) → lb ks t = i := by
  intro ks t
  induction ks with
  | nil => intro i h _ _; simp at h; subst h; rfl
  | cons k ks ih =>
    intro i h h1 h2
    unfold lb
    cases i with
    | zero => rw [if_neg]; have := h2 (by simp); simp at this; simp [this]
    | succ i =>
      rw [if_pos (by have := h1 0 (by simp) (by omega); simpa using this)]
      rw [ih i (by simpa using h) (fun j hj hji => by have := h1 (j + 1) (by simp; omega) (by omega); simpa using this) (fun h => by have := h2 (by simp; omega); simpa using this)]
theorem mem_at {ks : List (List UInt8)} {t : List UInt8} {i : Nat} (hs : Srt ks) (h1 : ∀ j (hj : j < ks.length), j < i → bless ks[j] t = true) (h2 : ∀ j (hj : j < ks.length), i ≤ j → bless ks[j] t = false) : t ∈ ks ↔ ∃ h : i < ks.length, ks[i] = t := by
  constructor
  · intro hm
    obtain ⟨j, hj, rfl⟩ := List.getElem_of_mem hm
    rcases Nat.lt_trichotomy j i with h | h | h
    · have := h1 j hj h; rw [bless_irrefl] at this; cases this
    · subst h; exact ⟨hj, rfl⟩
    · have e1 := hs.lt hj h
      have e2 := h2 i (by omega) (Nat.le_refl _)
      rw [e1] at e2; cases e2
  · rintro ⟨h, rfl⟩; exact List.getElem_mem h
theorem mid_val {i j : Nat} (h : i + j < 9223372036854775808) : IntKind.i64.wrap ((((BitVec.ofInt 64 ((i + j : Nat) : Int)) >>> 1).toNat : Nat) : Int) = (((i + j) / 2 : Nat) : Int) := by
  have e : (BitVec.ofInt 64 ((i + j : Nat) : Int)).toNat = i + j := by rw [BitVec.toNat_ofInt]; simp only [Nat.reducePow]; omega
  rw [BitVec.toNat_ushiftRight, Nat.shiftRight_eq_div_pow, e, wrap64 (by omega) (by omega)]
theorem roe_str {B : Frag} {A : Option Addr} {n : Nat} {ks : List (List UInt8)} (h : RoE B A n (ks.map str)) {k : Nat} (hk : k < ks.length) (hn : ks.length = n) : ∃ b o cs et fz, A = some ⟨b, o, none⟩ ∧ B b = some (.cells (List.toArray cs) et fz) ∧ cs[o + k * 1]? = some (str ks[k]) := by
  obtain ⟨b, o, cs, et, fz, h1, h2, h3⟩ := h.at1 (k := k) (by omega)
  exact ⟨b, o, cs, et, fz, h1, h2, by rw [h3]; simp [hk]⟩

set_option maxHeartbeats 1000000 in
theorem NaN_ct (s : List UInt8) (B : Frag) : CtP Tryd.prog 69 [str s] B (.bool false) := by
  refine CtB.of_body Tryd.func69 rfl (nt := 6) rfl (by kernel_rfl) rfl ?_
  intro N0 w0 R
  refine Cx.seq (fun K1 k1 => ?_)
  refine Cx.region ?_
  refine Lx.y (asg rfl) rfl ?_
  refine Lx.nil ?_
  refine Xx.tn (k1 _ _ _ _ ?_)
  refine Cx.seq (fun K2 k2 => ?_)
  refine Cx.region ?_
  refine Lx.y (mv rfl) rfl ?_
  refine Lx.y (mv rfl) rfl ?_
  refine Lx.y (Yx.ff (neS rfl rfl) (by simp)) rfl ?_
  refine Lx.y (asg rfl) rfl ?_
  refine Lx.nil ?_
  refine Xx.tn (k2 _ _ _ _ ?_)
  refine Cx.ret ?_
  exact Xx.rB1 rfl rfl ⟨rfl, rfl⟩ (Frag.le_refl _) rfl

set_option maxHeartbeats 1000000 in
theorem nanS_ct (s : List UInt8) (B : Frag) : CtP Tryd.prog 72 [str s] B (.bool false) := by
  refine CtB.of_body Tryd.func72 rfl (nt := 6) rfl (by kernel_rfl) rfl ?_
  intro N0 w0 R
  refine Cx.seq (fun K1 k1 => ?_)
  refine Cx.region ?_
  refine Lx.y (asg rfl) rfl ?_
  refine Lx.nil ?_
  refine Xx.tn (k1 _ _ _ _ ?_)
  refine Cx.seq (fun K2 k2 => ?_)
  refine Cx.region ?_
  refine Lx.y (mv rfl) rfl ?_
  refine Lx.y (mv rfl) rfl ?_
  refine Lx.y (Yx.ff (neS rfl rfl) (by simp)) rfl ?_
  refine Lx.y (asg rfl) rfl ?_
  refine Lx.nil ?_
  refine Xx.tn (k2 _ _ _ _ ?_)
  refine Cx.ret ?_
  exact Xx.rB1 rfl rfl ⟨rfl, rfl⟩ (Frag.le_refl _) rfl

set_option maxHeartbeats 1000000 in
theorem Less_ct (s t : List UInt8) (r : Bool) (B : Frag) (h : bless s t = r) : CtP Tryd.prog 68 [str s, str t] B (.bool r) := by
  refine CtB.of_body Tryd.func68 rfl (nt := 17) rfl (by kernel_rfl) rfl ?_
  intro N0 w0 R
  refine Cx.seq (fun K1 k1 => ?_)
  refine Cx.region ?_
  refine Lx.y (asg rfl) rfl ?_
  refine Lx.nil ?_
  refine Xx.tn (k1 _ _ _ _ ?_)
  refine Cx.seq (fun K2 k2 => ?_)
  refine Cx.region ?_
  refine Lx.y (mv rfl) rfl ?_
  refine Lx.cp rfl rfl rfl (nanS_ct _ _) rfl ?_
  refine Lx.y (mv rfl) rfl ?_
  refine Lx.gF rfl rfl rfl rfl ?_
  refine Lx.gF rfl rfl rfl rfl ?_
  refine Lx.gF rfl rfl rfl rfl ?_
  refine Lx.y (pickF rfl rfl) rfl ?_
  refine Lx.y (mv rfl) rfl ?_
  refine Lx.gT rfl rfl rfl ?_
  refine Lx.y (mv rfl) rfl ?_
  refine Lx.gT rfl rfl rfl ?_
  refine Lx.y (mv rfl) rfl ?_
  refine Lx.gT rfl rfl rfl ?_
  refine Lx.y (lssS rfl rfl) rfl ?_
  refine Lx.y (pickF rfl rfl) rfl ?_
  refine Lx.y (asg rfl) rfl ?_
  refine Lx.nil ?_
  refine Xx.tn (k2 _ _ _ _ ?_)
  refine Cx.ret ?_
  exact Xx.rB1 rfl rfl ⟨congrArg Value.bool h, rfl⟩ (Frag.le_refl _) rfl

set_option maxHeartbeats 1000000 in
theorem BS_ct (ks : List (List UInt8)) (t : List UInt8) (A : Option Addr) (c : Nat) (B : Frag) (hR : RoE B A ks.length (ks.map str)) (hs : Srt ks) (hn : ks.length ≤ 4611686018427387904) : CtP Tryd.prog 56 [.slice A ks.length c, str t] B (.tuple #[i64 (lb ks t : Nat), .bool (decide (t ∈ ks))]) := by
  refine CtB.of_body Tryd.func56 rfl (nt := 54) rfl (by kernel_rfl) rfl ?_
  intro N0 w0 R
  refine Cx.seq (fun K1 k1 => ?_)
  refine Cx.region ?_
  refine Lx.y (asg rfl) rfl ?_
  refine Lx.y (asg rfl) rfl ?_
  refine Lx.nil ?_
  refine Xx.tn (k1 _ _ _ _ ?_)
  refine Cx.seq (fun K2 k2 => ?_)
  refine Cx.region ?_
  refine Lx.y (mv rfl) rfl ?_
  refine Lx.y (lenV (ty' := 0) Tryd.underlying24 rfl) rfl ?_
  refine Lx.y (asg rfl) rfl ?_
  refine Lx.nil ?_
  refine Xx.tn (k2 _ _ _ _ ?_)
  refine Cx.seq (fun K3 k3 => ?_)
  refine Cx.region ?_
  refine Lx.y (mv rfl) rfl ?_
  refine Lx.y (asg rfl) rfl ?_
  refine Lx.y (asg rfl) rfl ?_
  refine Lx.nil ?_
  refine Xx.tn (k3 _ _ _ _ ?_)
  refine Cx.seq (fun K4 k4 => ?_)
  refine Cx.block ?_
  refine Cx.loopK (Sub.cons (s := 0) rfl (Sub.cons (s := 1) rfl (Sub.cons (s := 4) rfl (Sub.cons (s := 5) rfl (Sub.cons (s := 6) rfl (Sub.cons (s := 10) rfl (Sub.cons (s := 11) rfl (Sub.cons (s := 12) rfl (Sub.nil _))))))))) (fun m ρ' B' H' => ∃ (i j : Nat), (i ≤ j ∧ j ≤ ks.length ∧ (∀ k (hk : k < ks.length), k < i → bless ks[k] t = true) ∧ (∀ k (hk : k < ks.length), j ≤ k → bless ks[k] t = false)) ∧ m = j - i ∧ ρ' = [(7, i64 i), (8, i64 j)] ∧ B = B' ∧ R = H') ⟨0, ks.length, ⟨Nat.zero_le _, Nat.le_refl _, fun k _ h => absurd h (by omega), fun k hk h => absurd h (by omega)⟩, rfl, rfl, rfl, rfl⟩ (Sub.cons (s := 7) rfl (Sub.cons (s := 8) rfl (Sub.cons (s := 0) rfl (Sub.cons (s := 1) rfl (Sub.cons (s := 4) rfl (Sub.cons (s := 5) rfl (Sub.cons (s := 6) rfl (Sub.cons (s := 10) rfl (Sub.cons (s := 11) rfl (Sub.cons (s := 12) rfl (Sub.nil _))))))))))) ?_
  rintro m ρ' B' H' ⟨i, j, ⟨hij, hjn, hlo, hhi⟩, rfl, rfl, rfl, rfl⟩
  refine Cx.seq (fun K5 k5 => ?_)
  refine Cx.seq (fun K6 k6 => ?_)
  refine Cx.region ?_
  refine Lx.y (mv rfl) rfl ?_
  refine Lx.y (mv rfl) rfl ?_
  refine Lx.y (lss rfl rfl) rfl ?_
  refine Lx.nil ?_
  refine Xx.tn (k6 _ _ _ _ ?_)
  refine Cx.condD rfl (fun h7 => ?_) (fun h7 => ?_)
  · skip
    have hlt := h7
    have hm : (i + j) / 2 < ks.length := by omega
    obtain ⟨b, o, cs0, et0, fz0, rfl, hB0, hv0⟩ := roe_str hR hm rfl
    refine Cx.skip ?_
    refine Xx.tn (k5 _ _ _ _ ?_)
    refine Cx.block ?_
    refine Cx.seq (fun K8 k8 => ?_)
    refine Cx.region ?_
    refine Lx.y (mv rfl) rfl ?_
    refine Lx.y (mv rfl) rfl ?_
    refine Lx.y (Yx.val (add rfl rfl (by first | exact wrap64 (by omega) (by omega) | rfl)) (show _ = i64 (i + j : Nat) from rfl)) rfl ?_
    refine Lx.y (cvW64 rfl Tryd.underlying3 Tryd.underlying73) rfl ?_
    refine Lx.y (shrW64 (c := 1) rfl rfl rfl) rfl ?_
    refine Lx.y (Yx.val (cvI rfl Tryd.underlying73 Tryd.underlying3 (mid_val (by omega))) (show _ = i64 ((i + j) / 2 : Nat) from rfl)) rfl ?_
    refine Lx.y (asg rfl) rfl ?_
    refine Lx.nil ?_
    refine Xx.tn (k8 _ _ _ _ ?_)
    refine Cx.seq (fun K9 k9 => ?_)
    refine Cx.region ?_
    refine Lx.y (mv rfl) rfl ?_
    refine Lx.y (mv rfl) rfl ?_
    refine Lx.y (ia Tryd.underlying24 sz9 rfl rfl (by first | exact Int.toNat_natCast _ | rfl) (by omega) (by omega)) rfl ?_
    refine Lx.y (ldB Tryd.underlying9 rfl rfl hB0 hv0) rfl ?_
    refine Lx.y (mv rfl) rfl ?_
    refine Lx.cp rfl rfl rfl (Less_ct ks[(i + j) / 2] t _ _ rfl) rfl ?_
    refine Lx.nil ?_
    refine Xx.tn (k9 _ _ _ _ ?_)
    refine Cx.condB rfl (fun h10 => ?_) (fun h10 => ?_)
    · skip
      have hb := h10
      refine Cx.region ?_
      refine Lx.y (mv rfl) rfl ?_
      refine Lx.y (Yx.val (add rfl rfl (by first | exact wrap64 (by omega) (by omega) | rfl)) (show _ = i64 ((i + j) / 2 + 1 : Nat) from rfl)) rfl ?_
      refine Lx.y (asg rfl) rfl ?_
      refine Lx.nil ?_
      refine Xx.bn ?_
      exact Xx.againK ⟨(i + j) / 2 + 1, j, ⟨by omega, hjn, fun k hk hki => by
  by_cases e : k = (i + j) / 2
  · subst e; exact hb
  · exact bless_trans (hs.lt hm (by omega)) hb, hhi⟩, rfl, rfl, rfl, rfl⟩ (by omega) (Sub.cons (s := 7) rfl (Sub.consE (s := 8) rfl (rfl) (Sub.cons (s := 0) rfl (Sub.cons (s := 1) rfl (Sub.cons (s := 4) rfl (Sub.cons (s := 5) rfl (Sub.cons (s := 6) rfl (Sub.cons (s := 10) rfl (Sub.cons (s := 11) rfl (Sub.cons (s := 12) rfl (Sub.nil _)))))))))))
    · skip
      have hb := h10
      refine Cx.region ?_
      refine Lx.y (mv rfl) rfl ?_
      refine Lx.y (asg rfl) rfl ?_
      refine Lx.nil ?_
      refine Xx.bn ?_
      exact Xx.againK ⟨i, (i + j) / 2, ⟨by omega, by omega, hlo, fun k hk hki => by
  by_cases e : k = (i + j) / 2
  · subst e; exact hb
  · cases h2 : bless ks[k] t with
    | false => rfl
    | true => rw [bless_trans (hs.lt hk (show (i + j) / 2 < k by omega)) h2] at hb; cases hb⟩, rfl, rfl, rfl, rfl⟩ (by omega) (Sub.consE (s := 7) rfl (rfl) (Sub.cons (s := 8) rfl (Sub.cons (s := 0) rfl (Sub.cons (s := 1) rfl (Sub.cons (s := 4) rfl (Sub.cons (s := 5) rfl (Sub.cons (s := 6) rfl (Sub.cons (s := 10) rfl (Sub.cons (s := 11) rfl (Sub.cons (s := 12) rfl (Sub.nil _)))))))))))
  · skip
    obtain rfl : i = j := by have := h7; omega
    have hlb := lb_eq ks t i hjn hlo (fun h => hhi i h (Nat.le_refl _))
    have hmem := mem_at hs hlo hhi
    refine Cx.exit ?_
    refine Xx.te ?_
    refine Xx.te ?_
    refine Xx.bh ?_
    refine Xx.tn (k4 _ _ _ _ ?_)
    refine Cx.seq (fun K11 k11 => ?_)
    refine Cx.region ?_
    refine Lx.y (mv rfl) rfl ?_
    refine Lx.y (mv rfl) rfl ?_
    refine Lx.y (mv rfl) rfl ?_
    refine Lx.y (lss rfl rfl) rfl ?_
    refine Lx.y (mv rfl) rfl ?_
    refine Xx.ifD (t := 35) rfl (fun h12 => ?_) (fun h12 => ?_)
    · skip
      have hin := h12
      have hin : i < ks.length := by omega
      obtain ⟨b, o, cs0, et0, fz0, rfl, hB0, hv0⟩ := roe_str hR hin rfl
      refine Lx.gT rfl rfl rfl ?_
      refine Lx.y (mv rfl) rfl ?_
      refine Lx.gT rfl rfl rfl ?_
      refine Lx.y (mv rfl) rfl ?_
      refine Lx.gT rfl rfl rfl ?_
      refine Lx.y (ia Tryd.underlying24 sz9 rfl rfl (by first | exact Int.toNat_natCast _ | rfl) (by omega) (by omega)) rfl ?_
      refine Lx.gT rfl rfl rfl ?_
      refine Lx.y (ldB Tryd.underlying9 rfl rfl hB0 hv0) rfl ?_
      refine Lx.gT rfl rfl rfl ?_
      refine Lx.y (mv rfl) rfl ?_
      refine Lx.gT rfl rfl rfl ?_
      refine Lx.y (eqS rfl rfl) rfl ?_
      refine Lx.gT rfl rfl rfl ?_
      refine Lx.y (mv rfl) rfl ?_
      refine Xx.ifD (t := 42) rfl (fun h13 => ?_) (fun h13 => ?_)
      · skip
        have he := h13
        refine Lx.gF rfl rfl rfl rfl ?_
        refine Lx.gF rfl rfl rfl rfl ?_
        refine Lx.gF rfl rfl rfl rfl ?_
        refine Lx.gF rfl rfl rfl rfl ?_
        refine Lx.gF rfl rfl rfl rfl ?_
        refine Lx.gF rfl rfl rfl rfl ?_
        refine Lx.gU rfl rfl rfl rfl ?_
        refine Lx.gU rfl rfl rfl rfl ?_
        refine Lx.gF rfl rfl rfl rfl ?_
        refine Lx.gT rfl rfl rfl ?_
        refine Lx.y (pickT rfl rfl) rfl ?_
        refine Lx.y (pickT rfl rfl) rfl ?_
        refine Lx.y (asg rfl) rfl ?_
        refine Lx.y (asg rfl) rfl ?_
        refine Lx.nil ?_
        refine Xx.tn (k11 _ _ _ _ ?_)
        refine Cx.ret ?_
        exact Xx.rB2 rfl rfl rfl ⟨by rw [hlb, decide_eq_true (hmem.2 ⟨hin, he⟩)], rfl⟩ (Frag.le_refl _) rfl
      · skip
        have he := h13
        refine Lx.gT rfl rfl rfl ?_
        refine Lx.y (mv rfl) rfl ?_
        refine Lx.gT rfl rfl rfl ?_
        refine Lx.y (mv rfl) rfl ?_
        refine Lx.gT rfl rfl rfl ?_
        refine Lx.y (ia Tryd.underlying24 sz9 rfl rfl (by first | exact Int.toNat_natCast _ | rfl) (by omega) (by omega)) rfl ?_
        refine Lx.gT rfl rfl rfl ?_
        refine Lx.y (ldB Tryd.underlying9 rfl rfl hB0 hv0) rfl ?_
        refine Lx.gT rfl rfl rfl ?_
        refine Lx.cp rfl rfl rfl ((show CtP _ _ _ _ (.bool false) from NaN_ct _ _)) rfl ?_
        refine Lx.gT rfl rfl rfl ?_
        refine Lx.y (mv rfl) rfl ?_
        refine Lx.gF rfl rfl rfl rfl ?_
        refine Lx.gF rfl rfl rfl rfl ?_
        refine Lx.gT rfl rfl rfl ?_
        refine Lx.y (pickF rfl rfl) rfl ?_
        refine Lx.gT rfl rfl rfl ?_
        refine Lx.y (pickF rfl rfl) rfl ?_
        refine Lx.y (pickT rfl rfl) rfl ?_
        refine Lx.y (asg rfl) rfl ?_
        refine Lx.y (asg rfl) rfl ?_
        refine Lx.nil ?_
        refine Xx.tn (k11 _ _ _ _ ?_)
        refine Cx.ret ?_
        exact Xx.rB2 rfl rfl rfl ⟨by rw [hlb, decide_eq_false (fun z => he (hmem.1 z).2)], rfl⟩ (Frag.le_refl _) rfl
    · skip
      have hin := h12
      refine Lx.gF rfl rfl rfl rfl ?_
      refine Lx.gF rfl rfl rfl rfl ?_
      refine Lx.gF rfl rfl rfl rfl ?_
      refine Lx.gF rfl rfl rfl rfl ?_
      refine Lx.gF rfl rfl rfl rfl ?_
      refine Lx.gF rfl rfl rfl rfl ?_
      refine Lx.gF rfl rfl rfl rfl ?_
      refine Lx.gU rfl rfl rfl rfl ?_
      refine Lx.gU rfl rfl rfl rfl ?_
      refine Lx.gU rfl rfl rfl rfl ?_
      refine Lx.gU rfl rfl rfl rfl ?_
      refine Lx.gU rfl rfl rfl rfl ?_
      refine Lx.gU rfl rfl rfl rfl ?_
      refine Lx.gU rfl rfl rfl rfl ?_
      refine Lx.gU rfl rfl rfl rfl ?_
      refine Lx.gU rfl rfl rfl rfl ?_
      refine Lx.gF rfl rfl rfl rfl ?_
      refine Lx.y (pickF rfl rfl) rfl ?_
      refine Lx.y (asg rfl) rfl ?_
      refine Lx.y (asg rfl) rfl ?_
      refine Lx.nil ?_
      refine Xx.tn (k11 _ _ _ _ ?_)
      refine Cx.ret ?_
      exact Xx.rB2 rfl rfl rfl ⟨by rw [hlb, decide_eq_false (fun z => hin (by have := (hmem.1 z).1; omega))], rfl⟩ (Frag.le_refl _) rfl

abbrev Str8 := List UInt8
theorem lb_spec {ks : List Str8} {t : Str8} (hs : Srt ks) : (∀ j (hj : j < ks.length), j < lb ks t → bless ks[j] t = true) ∧ (∀ h : lb ks t < ks.length, bless ks[lb ks t] t = false) := by
  induction ks with
  | nil => exact ⟨fun j hj => absurd hj (by simp), fun h => absurd h (by simp)⟩
  | cons k ks ih =>
    have hs2 : Srt ks := (List.pairwise_cons.1 hs).2
    obtain ⟨g1, g2⟩ := ih hs2
    by_cases hk : bless k t = true
    · have e : lb (k :: ks) t = lb ks t + 1 := by
        conv => lhs; unfold lb
        rw [if_pos hk]
      refine ⟨fun j hj hjl => ?_, fun h => ?_⟩
      · cases j with
        | zero => exact hk
        | succ j => exact g1 j (by simpa using hj) (by omega)
      · have h' : lb ks t < ks.length := by rw [e] at h; simpa using h
        have e2 : (k :: ks)[lb (k :: ks) t] = ks[lb ks t] := by simp [e]
        rw [e2]; exact g2 h'
    · have e : lb (k :: ks) t = 0 := by unfold lb; rw [if_neg hk]
      refine ⟨fun j hj hjl => absurd hjl (by omega), fun h => ?_⟩
      have e2 : (k :: ks)[lb (k :: ks) t] = k := by simp [e]
      rw [e2]; simpa using hk
theorem lb_le : ∀ (ks : List Str8) (t : Str8), lb ks t ≤ ks.length := by
  intro ks t
  induction ks with
  | nil => exact Nat.le_refl _
  | cons x ks ih => unfold lb; split; simpa using ih; exact Nat.zero_le _
theorem lb_mem {ks : List Str8} {t : Str8} (hs : Srt ks) (hm : t ∈ ks) : ∃ h : lb ks t < ks.length, ks[lb ks t] = t := by
  obtain ⟨j, hj, rfl⟩ := List.getElem_of_mem hm
  have e : lb ks ks[j] = j := lb_eq ks ks[j] j (by omega) (fun i hi hij => hs.lt hj hij) (fun _ => bless_irrefl _)
  exact ⟨by omega, by simp [e]⟩
theorem RoS.roe {B : Frag} {A : Option Addr} {n : Nat} {xs : List Value} (h : RoS B 1 A n xs) : RoE B A n xs := by
  refine ⟨by simpa using h.1, fun k hk => ?_⟩
  obtain ⟨b, o, l, et, fz, h1, h2, h3⟩ := RoS.part h hk
  refine ⟨b, o, l, et, fz, h1, h2, ?_⟩
  have h4 := congrArg (fun z : List Value => z[0]?) h3
  simpa [List.getElem?_take, List.getElem?_drop] using h4
def V0 : V := .mk 0 false 0 [] [] []
theorem ValR.leaf {B : Frag} {d : Nat} {k : Int} {b : Bool} {n : Int} {s : List UInt8} (h : s.length ≤ 4611686018427387904 ∧ -9223372036854775808 ≤ n ∧ n ≤ 9223372036854775807) : ValR B (d + 1) (.mk k b n s [] []) (vcs (.mk k b n s [] []) none 0 none 0) :=
  ⟨none, 0, none, 0, rfl, ⟨h.1, h.2.1, h.2.2, Nat.le_refl _, Nat.le_refl _⟩, by show 0 ≤ _; omega, by show 0 ≤ _; omega, ⟨rfl, fun k hk => absurd hk (by show ¬ k < 0; omega)⟩, (fun x hx => (by cases hx)), fun i hi => absurd hi (by show ¬ i < 0; omega)⟩
theorem V0_R {B : Frag} {d : Nat} : ValR B (d + 1) V0 (vcs V0 none 0 none 0) := ValR.leaf ⟨by decide, by decide, by decide⟩

theorem ValR.le {B : Frag} {d e : Nat} {v : V} {cs : List Value} (h : ValR B d v cs) (hde : d ≤ e) : ValR B e v cs := by
  obtain ⟨k, rfl⟩ : ∃ k, e = d + k := ⟨e - d, by omega⟩
  clear hde
  induction k with
  | zero => exact h
  | succ k ih => exact ValR.up ih
/-- the part of a name -/
noncomputable def getV (v : V) (f : List UInt8) : V := if f ∈ v.names then v.parts.getD (lb v.names f) V0 else V0
theorem names_srt {v : V} (h : namesB v = true) : Srt v.names := by
  have hn := (namesP h).1
  have hstep : ∀ i (hi : i + 1 < v.names.length), bless v.names[i] v.names[i + 1] = true := fun i hi => by
    have := (hn (i + 1) hi).2 (by omega)
    simpa [List.getD, show i + 1 - 1 = i by omega, hi, show i < v.names.length by omega] using this
  refine List.pairwise_iff_getElem.2 fun i j hi hj hij => ?_
  obtain ⟨k, rfl⟩ : ∃ k, j = i + 1 + k := ⟨j - (i + 1), by omega⟩
  clear hij
  induction k with
  | zero => exact hstep i hj
  | succ k ih => exact bless_trans (ih (by omega)) (hstep (i + 1 + k) hj)
/-- a value that may be, looked into -/
theorem getV_in {d : Nat} {v : V} {deep : Int} {f : List UInt8} (hok : checkF (d + 1) v deep = 0) (hf : f ∈ v.names) : v.kind = 6 ∧ ∃ h : lb v.names f < v.parts.length, ∃ h2 : lb v.names f < v.names.length, v.names[lb v.names f] = f ∧ getV v f = v.parts[lb v.names f] := by
  obtain ⟨h6, h0⟩ := names_many hok
  obtain ⟨_, _, _, _, _, hnb, _⟩ := chk_ok hok
  have hk : v.kind = 6 := by
    by_cases hk : v.kind = 6
    · exact hk
    · have := h0 hk; rw [List.length_eq_zero_iff.1 this] at hf; cases hf
  obtain ⟨h2, hat⟩ := lb_mem (names_srt hnb) hf
  have h1 : lb v.names f < v.parts.length := by have := h6 hk; omega
  refine ⟨hk, h1, h2, hat, ?_⟩
  unfold getV; rw [if_pos hf]; simp [List.getD, h1]
theorem getV_out {v : V} {f : List UInt8} (hf : f ∉ v.names) : getV v f = V0 := by unfold getV; rw [if_neg hf]
theorem V0_check {d : Nat} {deep : Int} (h : deep ≤ 8) : checkF (d + 1) V0 deep = 0 := chk6 (by omega) (by decide) (by decide) (namesB_yes ⟨fun i hi => absurd hi (by show ¬ i < 0; omega), fun z => absurd z (by decide)⟩) fun k hk => absurd hk (by show ¬ k < 0; omega)
/-- what is found may be, too, and has no more bytes -/
theorem getV_ok {d : Nat} {v : V} {deep : Int} (f : List UInt8) (h8 : deep < 8) (hok : checkF (d + 2) v deep = 0) : checkF (d + 1) (getV v f) (deep + 1) = 0 := by
  by_cases hf : f ∈ v.names
  · obtain ⟨_, h1, _, _, e⟩ := getV_in hok hf
    obtain ⟨_, _, _, _, _, _, hps⟩ := chk_ok hok
    rw [e]; exact hps _ h1
  · rw [getV_out hf]; exact V0_check (by omega)
theorem getV_bytes {d : Nat} {v : V} {deep : Int} (f : List UInt8) (hok : checkF (d + 2) v deep = 0) : (bytesF (d + 1) (getV v f)).length ≤ (bytesF (d + 2) v).length + 1 := by
  by_cases hf : f ∈ v.names
  · obtain ⟨hk, h1, _, _, e⟩ := getV_in hok hf
    rw [e]
    have hb : bytesF (d + 2) v = preB (bytesF (d + 1)) v v.parts.length := by
      show bytesF (d + 1 + 1) v = _
      unfold bytesF; rw [if_neg (by omega), if_neg (by omega), if_neg (by omega), if_pos (by omega)]
    have hm := preB_mono (bytesF (d + 1)) v (show lb v.names f + 1 ≤ v.parts.length by omega)
    rw [preB_succ, List.length_append] at hm
    have hp : (bytesF (d + 1) v.parts[lb v.names f]).length ≤ (partB (bytesF (d + 1)) v (lb v.names f)).length := by unfold partB; rw [List.length_append, getDp h1]; omega
    rw [hb]; omega
  · rw [getV_out hf]
    have : bytesF (d + 1) V0 = [toB 0] := by unfold bytesF; rw [if_neg (by decide), if_neg (by decide), if_neg (by decide), if_neg (by decide)]; rfl
    rw [this]; show 1 ≤ _; omega

set_option maxHeartbeats 1000000 in
theorem None_ct (B : Frag) : CtP Tryd.prog 57 [] B (.agg (vcs V0 none 0 none 0).toArray) := by
  refine CtB.of_body Tryd.func57 rfl (nt := 2) rfl (by kernel_rfl) rfl ?_
  intro N0 w0 R
  refine Cx.seq (fun K1 k1 => ?_)
  refine Cx.region ?_
  refine Lx.new (allocO ti26) rfl (fun b => ?_)
  refine Lx.nil ?_
  refine Xx.tn (k1 _ _ _ _ ?_)
  refine Cx.seq (fun K2 k2 => ?_)
  refine Cx.region ?_
  refine Lx.y (bld ti26 pl26 rfl rfl) rfl ?_
  refine Lx.st (stA (d := .bool) sz26 rfl rfl rfl rfl (by show 0 + 6 ≤ 6; omega) rfl) ?_
  refine Lx.nil ?_
  refine Xx.tn (k2 _ _ _ _ ?_)
  refine Cx.ret ?_
  exact Xx.rBa rfl Tryd.underlying26 rfl sz26 rfl rfl ⟨rfl, rfl⟩ (Frag.le_refl _)

set_option maxHeartbeats 1000000 in
theorem Get_ct (d : Nat) (v : V) (f : List UInt8) (deep : Int) (cs : List Value) (B : Frag) (h : ValR B (d + 2) v cs) (hok : checkF (d + 2) v deep = 0) : CtB Tryd.prog 44 [.agg cs.toArray, str f] B (fun r B' => B' = B ∧ ∃ cs', r = .agg cs'.toArray ∧ ValR B' (d + 1) (getV v f) cs') := by
  obtain ⟨Ap, cp, An, cn, rfl, _, hpl, hnl, hns, _, hps⟩ := h
  obtain ⟨_, _, _, _, _, hnb, _⟩ := chk_ok hok
  have hs := names_srt hnb
  obtain ⟨hn6, hn0⟩ := names_many hok
  refine CtB.of_body Tryd.func44 rfl (nt := 34) rfl (by kernel_rfl) rfl ?_
  intro N0 w0 R
  refine Cx.seq (fun K1 k1 => ?_)
  refine Cx.region ?_
  refine Lx.new (boxA rfl) rfl (fun b2 => ?_)
  refine Lx.new (allocO ti26) rfl (fun b4 => ?_)
  refine Lx.nil ?_
  refine Xx.tn (k1 _ _ _ _ ?_)
  refine Cx.seq (fun K2 k2 => ?_)
  refine Cx.region ?_
  refine Lx.y (fa' fo26_5 rfl) rfl ?_
  refine Lx.y (ld Tryd.underlying24 rfl rfl rfl) rfl ?_
  refine Lx.y (mv rfl) rfl ?_
  refine Lx.cp rfl rfl rfl (BS_ct v.names f An cn _ hns hs (by omega)) rfl ?_
  refine Lx.y (mv rfl) rfl ?_
  refine Lx.y (ext rfl rfl) rfl ?_
  refine Lx.y (ext rfl rfl) rfl ?_
  refine Lx.y (asg rfl) rfl ?_
  refine Lx.y (asg rfl) rfl ?_
  refine Lx.nil ?_
  refine Xx.tn (k2 _ _ _ _ ?_)
  refine Cx.seq (fun K3 k3 => ?_)
  refine Cx.seq (fun K4 k4 => ?_)
  refine Cx.region ?_
  refine Lx.y (fa' fo26_0 rfl) rfl ?_
  refine Lx.y (ld Tryd.underlying3 rfl rfl rfl) rfl ?_
  refine Lx.y (neI rfl rfl) rfl ?_
  refine Lx.y (mv rfl) rfl ?_
  refine Xx.ifN (t := 17) rfl (fun h5 => ?_) (fun h5 => ?_)
  · skip
    have hk := h5
    have hf : f ∉ v.names := fun z => by rw [List.length_eq_zero_iff.1 (hn0 hk)] at z; cases z
    refine Lx.gF rfl rfl rfl rfl ?_
    refine Lx.gF rfl rfl rfl rfl ?_
    refine Lx.y (pickT rfl rfl) rfl ?_
    refine Lx.y (mv rfl) rfl ?_
    refine Lx.gF rfl rfl rfl rfl ?_
    refine Lx.gF rfl rfl rfl rfl ?_
    refine Lx.gF rfl rfl rfl rfl ?_
    refine Lx.gF rfl rfl rfl rfl ?_
    refine Lx.gF rfl rfl rfl rfl ?_
    refine Lx.y (pickT rfl rfl) rfl ?_
    refine Lx.nil ?_
    refine Xx.tn (k4 _ _ _ _ ?_)
    refine Cx.condT rfl ?_
    refine Cx.seq (fun K6 k6 => ?_)
    refine Cx.region ?_
    refine Lx.cp rfl rfl rfl (None_ct _) rfl ?_
    refine Lx.st (stA (d := .bool) sz26 rfl rfl rfl rfl (by show 0 + 6 ≤ 6; omega) rfl) ?_
    refine Lx.nil ?_
    refine Xx.tn (k6 _ _ _ _ ?_)
    refine Cx.ret ?_
    refine Xx.tr ?_
    refine Xx.dropB b2 ?_
    first | exact Xx.rBa rfl Tryd.underlying26 rfl sz26 rfl rfl ⟨rfl, _, rfl, by rw [hgv]; exact hv2⟩ (Frag.le_refl _) | exact Xx.rBa rfl Tryd.underlying26 rfl sz26 rfl rfl ⟨rfl, _, rfl, by rw [getV_out hf]; exact V0_R⟩ (Frag.le_refl _)
  · skip
    have hk := h5
    refine Lx.gT rfl rfl rfl ?_
    refine Lx.y (mv rfl) rfl ?_
    refine Lx.gT rfl rfl rfl ?_
    refine Lx.y (not' rfl) rfl ?_
    refine Lx.y (pickF rfl rfl) rfl ?_
    refine Lx.y (mv rfl) rfl ?_
    refine Xx.ifN (t := 21) rfl (fun h7 => ?_) (fun h7 => ?_)
    · skip
      have hf : f ∉ v.names := by simpa using h7
      refine Lx.gF rfl rfl rfl rfl ?_
      refine Lx.gF rfl rfl rfl rfl ?_
      refine Lx.gF rfl rfl rfl rfl ?_
      refine Lx.gF rfl rfl rfl rfl ?_
      refine Lx.gF rfl rfl rfl rfl ?_
      refine Lx.y (pickT rfl rfl) rfl ?_
      refine Lx.nil ?_
      refine Xx.tn (k4 _ _ _ _ ?_)
      refine Cx.condT rfl ?_
      refine Cx.seq (fun K8 k8 => ?_)
      refine Cx.region ?_
      refine Lx.cp rfl rfl rfl (None_ct _) rfl ?_
      refine Lx.st (stA (d := .bool) sz26 rfl rfl rfl rfl (by show 0 + 6 ≤ 6; omega) rfl) ?_
      refine Lx.nil ?_
      refine Xx.tn (k8 _ _ _ _ ?_)
      refine Cx.ret ?_
      refine Xx.tr ?_
      refine Xx.dropB b2 ?_
      first | exact Xx.rBa rfl Tryd.underlying26 rfl sz26 rfl rfl ⟨rfl, _, rfl, by rw [hgv]; exact hv2⟩ (Frag.le_refl _) | exact Xx.rBa rfl Tryd.underlying26 rfl sz26 rfl rfl ⟨rfl, _, rfl, by rw [getV_out hf]; exact V0_R⟩ (Frag.le_refl _)
    · skip
      have hf : f ∈ v.names := by simpa using h7
      obtain ⟨_, hlp, hln, hat, hgv⟩ := getV_in hok hf
      obtain ⟨bq, oq, lq, eq, fq, xs, rfl, hBq, hxs, hv2⟩ := hps _ hlp
      obtain ⟨Ap2, cp2, An2, cn2, rfl⟩ := ValR.shape hv2
      refine Lx.gT rfl rfl rfl ?_
      refine Lx.y (mv rfl) rfl ?_
      refine Lx.gT rfl rfl rfl ?_
      refine Lx.y (fa' fo26_4 rfl) rfl ?_
      refine Lx.gT rfl rfl rfl ?_
      refine Lx.y (ld Tryd.underlying23 rfl rfl rfl) rfl ?_
      refine Lx.gT rfl rfl rfl ?_
      refine Lx.y (lenV (ty' := 0) Tryd.underlying23 rfl) rfl ?_
      refine Lx.gT rfl rfl rfl ?_
      refine Lx.y (Yx.ff (geq rfl rfl) (decide_eq_false (by omega))) rfl ?_
      refine Lx.y (pickF rfl rfl) rfl ?_
      refine Lx.nil ?_
      refine Xx.tn (k4 _ _ _ _ ?_)
      refine Cx.condF rfl ?_
      refine Cx.skip ?_
      refine Xx.tn (k3 _ _ _ _ ?_)
      refine Cx.seq (fun K9 k9 => ?_)
      refine Cx.region ?_
      refine Lx.y (fa' fo26_4 rfl) rfl ?_
      refine Lx.y (ld Tryd.underlying23 rfl rfl rfl) rfl ?_
      refine Lx.y (mv rfl) rfl ?_
      refine Lx.y (ia Tryd.underlying23 sz26 rfl rfl (Int.toNat_natCast _) (by omega) (by omega)) rfl ?_
      refine Lx.y (ldA Tryd.underlying26 rfl sz26 rfl (Cells.base (n := 6) hBq hxs) rfl) rfl ?_
      refine Lx.st (stA (d := .bool) sz26 rfl rfl rfl rfl (by show 0 + 6 ≤ 6; omega) rfl) ?_
      refine Lx.nil ?_
      refine Xx.tn (k9 _ _ _ _ ?_)
      refine Cx.ret ?_
      refine Xx.dropB b2 ?_
      first | exact Xx.rBa rfl Tryd.underlying26 rfl sz26 rfl rfl ⟨rfl, _, rfl, by rw [hgv]; exact hv2⟩ (Frag.le_refl _) | exact Xx.rBa rfl Tryd.underlying26 rfl sz26 rfl rfl ⟨rfl, _, rfl, by rw [getV_out hf]; exact V0_R⟩ (Frag.le_refl _)

set_option maxHeartbeats 2000000 in
theorem RGet_ct (d : Nat) (v : V) (f : List UInt8) (deep : Int) (cs : List Value) (B : Frag) (h : ValR B (d + 2) v cs) (hok : checkF (d + 2) v deep = 0) : CtB Tryd.prog 52 [.agg cs.toArray, str f] B (fun r B' => B' = B ∧ ∃ cs', r = .agg cs'.toArray ∧ ValR B' (d + 1) (getV v f) cs') := by
  obtain ⟨Ap, cp, An, cn, rfl, _, hpl, hnl, hns, _, hps⟩ := h
  obtain ⟨_, _, _, _, _, hnb, _⟩ := chk_ok hok
  have hs := names_srt hnb
  obtain ⟨hn6, hn0⟩ := names_many hok
  refine CtB.of_body Tryd.func52 rfl (nt := 38) rfl (by kernel_rfl) rfl ?_
  intro N0 w0 R
  refine Cx.seq (fun K1 k1 => ?_)
  refine Cx.region ?_
  refine Lx.new (boxA rfl) rfl (fun b2 => ?_)
  refine Lx.new (allocO ti87) rfl (fun b4 => ?_)
  refine Lx.nil ?_
  refine Xx.tn (k1 _ _ _ _ ?_)
  refine Cx.seq (fun K2 k2 => ?_)
  refine Cx.seq (fun K3 k3 => ?_)
  refine Cx.region ?_
  refine Lx.y (asg rfl) rfl ?_
  refine Lx.nil ?_
  refine Xx.tn (k3 _ _ _ _ ?_)
  refine Cx.block ?_
  refine Cx.loopK (Sub.cons (s := 0) rfl (Sub.cons (s := 1) rfl (Sub.cons (s := 2) rfl (Sub.cons (s := 4) rfl (Sub.nil _))))) (fun m ρ' B' H' => ∃ (i : Nat), (i ≤ v.names.length ∧ ∀ k (hk : k < v.names.length), k < i → v.names[k] ≠ f) ∧ m = v.names.length - i ∧ ρ' = [(5, i64 i)] ∧ B = B' ∧ row b4 87 [i64 0, .bool false, i64 0, str [], .slice none 0 0, .slice none 0 0] * (row b2 87 (vcs v Ap cp An cn) * R) = H') ⟨0, ⟨Nat.zero_le _, fun k _ h => absurd h (by omega)⟩, rfl, rfl, rfl, rfl⟩ (Sub.cons (s := 5) rfl (Sub.cons (s := 0) rfl (Sub.cons (s := 1) rfl (Sub.cons (s := 2) rfl (Sub.cons (s := 4) rfl (Sub.nil _)))))) ?_
  rintro m ρ' B' H' ⟨i, ⟨hi, hall⟩, rfl, rfl, rfl, rfl⟩
  refine Cx.seq (fun K4 k4 => ?_)
  refine Cx.seq (fun K5 k5 => ?_)
  refine Cx.region ?_
  refine Lx.y (mv rfl) rfl ?_
  refine Lx.y (fa' fo87_5 rfl) rfl ?_
  refine Lx.y (ld Tryd.underlying24 rfl rfl rfl) rfl ?_
  refine Lx.y (lenV (ty' := 0) Tryd.underlying24 rfl) rfl ?_
  refine Lx.y (lss rfl rfl) rfl ?_
  refine Lx.y (mv rfl) rfl ?_
  refine Xx.ifD (t := 11) rfl (fun h6 => ?_) (fun h6 => ?_)
  · skip
    have hlt := h6
    have hlt : i < v.names.length := by omega
    have hk6 : v.kind = 6 := by
      by_cases hk : v.kind = 6
      · exact hk
      · have := hn0 hk; omega
    have hip : i < v.parts.length := by have := hn6 hk6; omega
    obtain ⟨bn, on, ln, en, fn, rfl, hBn, hln⟩ := roe_str hns hlt rfl
    refine Lx.gT rfl rfl rfl ?_
    refine Lx.y (mv rfl) rfl ?_
    refine Lx.gT rfl rfl rfl ?_
    refine Lx.y (fa' fo87_4 rfl) rfl ?_
    refine Lx.gT rfl rfl rfl ?_
    refine Lx.y (ld Tryd.underlying85 rfl rfl rfl) rfl ?_
    refine Lx.gT rfl rfl rfl ?_
    refine Lx.y (lenV (ty' := 0) Tryd.underlying85 rfl) rfl ?_
    refine Lx.gT rfl rfl rfl ?_
    refine Lx.y (Yx.tt (lss rfl rfl) (decide_eq_true (by omega))) rfl ?_
    refine Lx.y (pickT rfl rfl) rfl ?_
    refine Lx.y (mv rfl) rfl ?_
    refine Lx.gT rfl rfl rfl ?_
    refine Lx.y (fa' fo87_0 rfl) rfl ?_
    refine Lx.gT rfl rfl rfl ?_
    refine Lx.y (ld Tryd.underlying3 rfl rfl rfl) rfl ?_
    refine Lx.gT rfl rfl rfl ?_
    refine Lx.y (Yx.tt (eqI rfl rfl) (decide_eq_true hk6)) rfl ?_
    refine Lx.y (pickT rfl rfl) rfl ?_
    refine Lx.nil ?_
    refine Xx.tn (k5 _ _ _ _ ?_)
    refine Cx.condT rfl ?_
    refine Cx.skip ?_
    refine Xx.tn (k4 _ _ _ _ ?_)
    refine Cx.seq (fun K7 k7 => ?_)
    refine Cx.block ?_
    refine Cx.seq (fun K8 k8 => ?_)
    refine Cx.region ?_
    refine Lx.y (fa' fo87_5 rfl) rfl ?_
    refine Lx.y (ld Tryd.underlying24 rfl rfl rfl) rfl ?_
    refine Lx.y (mv rfl) rfl ?_
    refine Lx.y (ia Tryd.underlying24 sz9 rfl rfl (by first | exact Int.toNat_natCast _ | rfl) (by omega) (by omega)) rfl ?_
    refine Lx.y (ldB Tryd.underlying9 rfl rfl hBn hln) rfl ?_
    refine Lx.y (mv rfl) rfl ?_
    refine Lx.y (eqS rfl rfl) rfl ?_
    refine Lx.nil ?_
    refine Xx.tn (k8 _ _ _ _ ?_)
    refine Cx.condD rfl (fun h9 => ?_) (fun h9 => ?_)
    · skip
      have heq : v.names[i] = f := h9
      obtain ⟨bq, oq, lq, eq, fq, xs, rfl, hBq, hxs, hv2⟩ := hps _ hip
      obtain ⟨Ap2, cp2, An2, cn2, rfl⟩ := ValR.shape hv2
      have hgv : getV v f = v.parts[i] := by
        have hf : f ∈ v.names := by rw [← heq]; exact List.getElem_mem hlt
        obtain ⟨_, h1, h2, hat, e⟩ := getV_in hok hf
        have : lb v.names f = i := lb_eq v.names f i (by omega) (fun j hj hji => by rw [← heq]; exact hs.lt hlt hji) (fun _ => by rw [heq, bless_irrefl])
        rw [e]; simp [this]
      refine Cx.seq (fun K10 k10 => ?_)
      refine Cx.region ?_
      refine Lx.y (fa' fo87_4 rfl) rfl ?_
      refine Lx.y (ld Tryd.underlying85 rfl rfl rfl) rfl ?_
      refine Lx.y (mv rfl) rfl ?_
      refine Lx.y (ia Tryd.underlying85 sz87 rfl rfl (Int.toNat_natCast _) (by omega) (by omega)) rfl ?_
      refine Lx.y (ldA Tryd.underlying87 rfl sz87 rfl (Cells.base (n := 6) hBq hxs) rfl) rfl ?_
      refine Lx.st (stA (d := .bool) sz87 rfl rfl rfl rfl (by show 0 + 6 ≤ 6; omega) rfl) ?_
      refine Lx.nil ?_
      refine Xx.tn (k10 _ _ _ _ ?_)
      refine Cx.ret ?_
      refine Xx.br ?_
      refine Xx.tr ?_
      refine Xx.tr ?_
      refine Xx.br ?_
      refine Xx.tr ?_
      refine Xx.dropB b2 ?_
      exact Xx.rBa rfl Tryd.underlying87 rfl sz87 rfl rfl ⟨rfl, _, rfl, by rw [hgv]; exact hv2⟩ (Frag.le_refl _)
    · skip
      have hne : v.names[i] ≠ f := h9
      refine Cx.skip ?_
      refine Xx.bn ?_
      refine Xx.tn (k7 _ _ _ _ ?_)
      refine Cx.region ?_
      refine Lx.y (mv rfl) rfl ?_
      refine Lx.y (Yx.val (add rfl rfl (by first | exact wrap64 (by omega) (by omega) | rfl)) (show _ = i64 ((i + 1 : Nat) : Int) from rfl)) rfl ?_
      refine Lx.y (asg rfl) rfl ?_
      refine Lx.nil ?_
      exact Xx.againK ⟨i + 1, ⟨by omega, fun k hk hki => by
  by_cases e : k = i
  · subst e; exact hne
  · exact hall k hk (by omega)⟩, rfl, rfl, rfl, rfl⟩ (by omega) (Sub.cons (s := 5) rfl (Sub.cons (s := 0) rfl (Sub.cons (s := 1) rfl (Sub.cons (s := 2) rfl (Sub.cons (s := 4) rfl (Sub.nil _))))))
  · skip
    have hge := h6
    refine Lx.gF rfl rfl rfl rfl ?_
    refine Lx.gF rfl rfl rfl rfl ?_
    refine Lx.gF rfl rfl rfl rfl ?_
    refine Lx.gF rfl rfl rfl rfl ?_
    refine Lx.gF rfl rfl rfl rfl ?_
    refine Lx.y (pickF rfl rfl) rfl ?_
    refine Lx.y (mv rfl) rfl ?_
    refine Lx.gF rfl rfl rfl rfl ?_
    refine Lx.gF rfl rfl rfl rfl ?_
    refine Lx.gF rfl rfl rfl rfl ?_
    refine Lx.y (pickF rfl rfl) rfl ?_
    refine Lx.nil ?_
    refine Xx.tn (k5 _ _ _ _ ?_)
    refine Cx.condF rfl ?_
    refine Cx.exit ?_
    refine Xx.te ?_
    refine Xx.te ?_
    refine Xx.bh ?_
    refine Xx.tn (k2 _ _ _ _ ?_)
    refine Cx.seq (fun K11 k11 => ?_)
    refine Cx.region ?_
    refine Lx.y (bld ti87 pl87 rfl rfl) rfl ?_
    refine Lx.st (stA (d := .bool) sz87 rfl rfl rfl rfl (by show 0 + 6 ≤ 6; omega) rfl) ?_
    refine Lx.nil ?_
    refine Xx.tn (k11 _ _ _ _ ?_)
    refine Cx.ret ?_
    have hf : f ∉ v.names := fun z => by
      obtain ⟨k, hk, e⟩ := List.getElem_of_mem z
      exact hall k hk (by omega) e
    refine Xx.dropB b2 ?_
    exact Xx.rBa rfl Tryd.underlying87 rfl sz87 rfl rfl ⟨rfl, _, rfl, by rw [getV_out hf]; exact V0_R⟩ (Frag.le_refl _)
end RgA
end Go.Proofs.YtfnfkoldifpmhaaDoor
