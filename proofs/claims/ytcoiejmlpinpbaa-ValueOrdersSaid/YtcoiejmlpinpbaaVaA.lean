/-
  The order of values: the program.
-/
import Derived.Test.YtcoiejmlpinpbaaProg
import Derived.Test.YtcoiejmlpinpbaaSlj
import Derived.Test.YtcoiejmlpinpbaaKeH
import Derived.Test.YtcoiejmlpinpbaaSlo
namespace Go.Proofs.Ytcoiejmlpinpbaa
open Go.SL Go.RowKit
set_option linter.unusedVariables false
set_option linter.unusedSimpArgs false
set_option maxRecDepth 100000
open Ke5 Ke6 Ke7 Ke8 Ke9 KeA KeB KeE KeF KeG KeH
namespace VaA
theorem sz9 : (Try.prog.info? 9).map (·.size) = some 1 := by kernel_rfl
theorem sz46 : (Try.prog.info? 46).map (·.size) = some 6 := by kernel_rfl
theorem fo46_0 : FO Try.prog 46 0 0 1 false := FO.of Try.underlying46 rfl rfl (by kernel_rfl) Try.underlying3 rfl rfl
theorem fo46_1 : FO Try.prog 46 1 1 1 false := FO.of Try.underlying46 rfl rfl (by kernel_rfl) Try.underlying4 rfl rfl
theorem fo46_2 : FO Try.prog 46 2 2 1 false := FO.of Try.underlying46 rfl rfl (by kernel_rfl) Try.underlying2 rfl rfl
theorem fo46_3 : FO Try.prog 46 3 3 1 false := FO.of Try.underlying46 rfl rfl (by kernel_rfl) Try.underlying9 rfl rfl
theorem fo46_4 : FO Try.prog 46 4 4 1 false := FO.of Try.underlying46 rfl rfl (by kernel_rfl) Try.underlying44 rfl rfl
theorem fo46_5 : FO Try.prog 46 5 5 1 false := FO.of Try.underlying46 rfl rfl (by kernel_rfl) Try.underlying22 rfl rfl

def ordI : Ordering → Int
  | .lt => -1
  | .eq => 0
  | .gt => 1
theorem ordI_zero {o : Ordering} : ordI o = 0 ↔ o = .eq := by cases o <;> simp [ordI]
abbrev i64v (n : Int) : Value := i64 n
theorem cmpI_1 {m n : Int} (h : m < n) : ordI (cmpI m n) = -1 := by unfold cmpI; rw [if_pos h]; rfl
theorem cmpI_2 {m n : Int} (h : n < m) : ordI (cmpI m n) = 1 := by unfold cmpI; rw [if_neg (by omega), if_pos h]; rfl
theorem cmpI_3 {m n : Int} (h : m = n) : ordI (cmpI m n) = 0 := by unfold cmpI; rw [if_neg (by omega), if_neg (by omega)]; rfl
theorem cmpB_I (a b : Bool) : cmpI (if a then 1 else 0) (if b then 1 else 0) = cmpB a b := by cases a <;> cases b <;> rfl
theorem compareBytes_eq : ∀ a b : List UInt8, Lib.compareBytes a b = ordI (cmpL a b) := by
  intro a
  induction a with
  | nil => intro b; cases b <;> rfl
  | cons x a ih =>
    intro b
    cases b with
    | nil => rfl
    | cons y b =>
      rw [cmpL_cons]
      unfold Lib.compareBytes
      by_cases h1 : x < y
      · rw [if_pos h1, if_pos h1]; rfl
      · by_cases h2 : y < x
        · rw [if_neg h1, if_pos h2, if_neg h1, if_pos h2]; rfl
        · rw [if_neg h1, if_neg h2, if_neg h1, if_neg h2]; exact ih b
theorem lexO_end2 {f : Nat → Ordering} {n m i : Nat} (h1 : i ≤ n) (h2 : i ≤ m) (h : i = n ∨ i = m) : lexO f (n - i) (m - i) i = cmpI (n : Int) (m : Int) := by
  unfold cmpI
  rcases h with rfl | rfl
  · rw [Nat.sub_self]
    by_cases e : m = i
    · subst e; rw [Nat.sub_self, if_neg (by omega), if_neg (by omega)]; rfl
    · obtain ⟨c, hc⟩ : ∃ c, m - i = c + 1 := ⟨m - i - 1, by omega⟩
      rw [hc, if_pos (by omega)]; rfl
  · rw [Nat.sub_self]
    by_cases e : n = i
    · subst e; rw [Nat.sub_self, if_neg (by omega), if_neg (by omega)]; rfl
    · obtain ⟨c, hc⟩ : ∃ c, n - i = c + 1 := ⟨n - i - 1, by omega⟩
      rw [hc, if_neg (by omega), if_pos (by omega)]; rfl

set_option maxHeartbeats 1000000 in
theorem nanInt_ct (n : Int) (B : Frag) : CtP Try.prog 98 [i64 n] B (.bool false) := by
  refine CtB.of_body Try.func98 rfl (nt := 6) rfl (by kernel_rfl) rfl ?_
  intro N0 w0 R
  refine Cx.seq (fun K1 k1 => ?_)
  refine Cx.region ?_
  refine Lx.y (asg rfl) rfl ?_
  refine Lx.nil ?_
  refine Xx.tn (k1 _ _ _ _ ?_)
  refine Cx.seq (fun K2 k2 => ?_)
  refine Cx.region ?_
  refine Lx.y (mv rfl) rfl ?_
  refine Lx.y (mv rfl) rfl ?_
  refine Lx.y (Yx.ff (neI rfl rfl) (by simp)) rfl ?_
  refine Lx.y (asg rfl) rfl ?_
  refine Lx.nil ?_
  refine Xx.tn (k2 _ _ _ _ ?_)
  refine Cx.ret ?_
  exact Xx.rB1 rfl rfl ⟨rfl, rfl⟩ (Frag.le_refl _) rfl

set_option maxHeartbeats 1000000 in
theorem CmpInt_ct (m n : Int) (B : Frag) : CtP Try.prog 60 [i64 m, i64 n] B (i64 (ordI (cmpI m n))) := by
  refine CtB.of_body Try.func60 rfl (nt := 20) rfl (by kernel_rfl) rfl ?_
  intro N0 w0 R
  refine Cx.seq (fun K1 k1 => ?_)
  refine Cx.region ?_
  refine Lx.y (asg rfl) rfl ?_
  refine Lx.nil ?_
  refine Xx.tn (k1 _ _ _ _ ?_)
  refine Cx.seq (fun K2 k2 => ?_)
  refine Cx.region ?_
  refine Lx.y (mv rfl) rfl ?_
  refine Lx.cp rfl rfl rfl (nanInt_ct _ _) rfl ?_
  refine Lx.y (asg rfl) rfl ?_
  refine Lx.nil ?_
  refine Xx.tn (k2 _ _ _ _ ?_)
  refine Cx.seq (fun K3 k3 => ?_)
  refine Cx.region ?_
  refine Lx.y (mv rfl) rfl ?_
  refine Lx.cp rfl rfl rfl (nanInt_ct _ _) rfl ?_
  refine Lx.y (asg rfl) rfl ?_
  refine Lx.nil ?_
  refine Xx.tn (k3 _ _ _ _ ?_)
  refine Cx.seq (fun K4 k4 => ?_)
  refine Cx.seq (fun K5 k5 => ?_)
  refine Cx.region ?_
  refine Lx.y (mv rfl) rfl ?_
  refine Lx.nil ?_
  refine Xx.tn (k5 _ _ _ _ ?_)
  refine Cx.condF rfl ?_
  refine Cx.skip ?_
  refine Xx.tn (k4 _ _ _ _ ?_)
  refine Cx.seq (fun K6 k6 => ?_)
  refine Cx.seq (fun K7 k7 => ?_)
  refine Cx.region ?_
  refine Lx.y (mv rfl) rfl ?_
  refine Lx.nil ?_
  refine Xx.tn (k7 _ _ _ _ ?_)
  refine Cx.condF rfl ?_
  refine Cx.skip ?_
  refine Xx.tn (k6 _ _ _ _ ?_)
  refine Cx.seq (fun K8 k8 => ?_)
  refine Cx.seq (fun K9 k9 => ?_)
  refine Cx.region ?_
  refine Lx.y (mv rfl) rfl ?_
  refine Lx.y (mv rfl) rfl ?_
  refine Lx.y (lss rfl rfl) rfl ?_
  refine Lx.nil ?_
  refine Xx.tn (k9 _ _ _ _ ?_)
  refine Cx.condD rfl (fun h10 => ?_) (fun h10 => ?_)
  · skip
    have z1 := h10
    refine Cx.seq (fun K11 k11 => ?_)
    refine Cx.region ?_
    refine Lx.y (asg rfl) rfl ?_
    refine Lx.nil ?_
    refine Xx.tn (k11 _ _ _ _ ?_)
    refine Cx.ret ?_
    refine Xx.tr ?_
    first | exact Xx.rB1 rfl rfl ⟨congrArg i64v (cmpI_1 (by omega)).symm, rfl⟩ (Frag.le_refl _) rfl | exact Xx.rB1 rfl rfl ⟨congrArg i64v (cmpI_2 (by omega)).symm, rfl⟩ (Frag.le_refl _) rfl | exact Xx.rB1 rfl rfl ⟨congrArg i64v (cmpI_3 (by omega)).symm, rfl⟩ (Frag.le_refl _) rfl
  · skip
    have z1 := h10
    refine Cx.skip ?_
    refine Xx.tn (k8 _ _ _ _ ?_)
    refine Cx.seq (fun K12 k12 => ?_)
    refine Cx.seq (fun K13 k13 => ?_)
    refine Cx.region ?_
    refine Lx.y (mv rfl) rfl ?_
    refine Lx.y (mv rfl) rfl ?_
    refine Lx.y (gtr rfl rfl) rfl ?_
    refine Lx.nil ?_
    refine Xx.tn (k13 _ _ _ _ ?_)
    refine Cx.condD rfl (fun h14 => ?_) (fun h14 => ?_)
    · skip
      have z2 := h14
      refine Cx.seq (fun K15 k15 => ?_)
      refine Cx.region ?_
      refine Lx.y (asg rfl) rfl ?_
      refine Lx.nil ?_
      refine Xx.tn (k15 _ _ _ _ ?_)
      refine Cx.ret ?_
      refine Xx.tr ?_
      first | exact Xx.rB1 rfl rfl ⟨congrArg i64v (cmpI_1 (by omega)).symm, rfl⟩ (Frag.le_refl _) rfl | exact Xx.rB1 rfl rfl ⟨congrArg i64v (cmpI_2 (by omega)).symm, rfl⟩ (Frag.le_refl _) rfl | exact Xx.rB1 rfl rfl ⟨congrArg i64v (cmpI_3 (by omega)).symm, rfl⟩ (Frag.le_refl _) rfl
    · skip
      have z2 := h14
      refine Cx.skip ?_
      refine Xx.tn (k12 _ _ _ _ ?_)
      refine Cx.seq (fun K16 k16 => ?_)
      refine Cx.region ?_
      refine Lx.y (asg rfl) rfl ?_
      refine Lx.nil ?_
      refine Xx.tn (k16 _ _ _ _ ?_)
      refine Cx.ret ?_
      first | exact Xx.rB1 rfl rfl ⟨congrArg i64v (cmpI_1 (by omega)).symm, rfl⟩ (Frag.le_refl _) rfl | exact Xx.rB1 rfl rfl ⟨congrArg i64v (cmpI_2 (by omega)).symm, rfl⟩ (Frag.le_refl _) rfl | exact Xx.rB1 rfl rfl ⟨congrArg i64v (cmpI_3 (by omega)).symm, rfl⟩ (Frag.le_refl _) rfl

set_option maxHeartbeats 1000000 in
theorem nanI64_ct (n : Int) (B : Frag) : CtP Try.prog 99 [i64 n] B (.bool false) := by
  refine CtB.of_body Try.func99 rfl (nt := 6) rfl (by kernel_rfl) rfl ?_
  intro N0 w0 R
  refine Cx.seq (fun K1 k1 => ?_)
  refine Cx.region ?_
  refine Lx.y (asg rfl) rfl ?_
  refine Lx.nil ?_
  refine Xx.tn (k1 _ _ _ _ ?_)
  refine Cx.seq (fun K2 k2 => ?_)
  refine Cx.region ?_
  refine Lx.y (mv rfl) rfl ?_
  refine Lx.y (mv rfl) rfl ?_
  refine Lx.y (Yx.ff (neI rfl rfl) (by simp)) rfl ?_
  refine Lx.y (asg rfl) rfl ?_
  refine Lx.nil ?_
  refine Xx.tn (k2 _ _ _ _ ?_)
  refine Cx.ret ?_
  exact Xx.rB1 rfl rfl ⟨rfl, rfl⟩ (Frag.le_refl _) rfl

set_option maxHeartbeats 1000000 in
theorem CmpI64_ct (m n : Int) (B : Frag) : CtP Try.prog 62 [i64 m, i64 n] B (i64 (ordI (cmpI m n))) := by
  refine CtB.of_body Try.func62 rfl (nt := 20) rfl (by kernel_rfl) rfl ?_
  intro N0 w0 R
  refine Cx.seq (fun K1 k1 => ?_)
  refine Cx.region ?_
  refine Lx.y (asg rfl) rfl ?_
  refine Lx.nil ?_
  refine Xx.tn (k1 _ _ _ _ ?_)
  refine Cx.seq (fun K2 k2 => ?_)
  refine Cx.region ?_
  refine Lx.y (mv rfl) rfl ?_
  refine Lx.cp rfl rfl rfl (nanI64_ct _ _) rfl ?_
  refine Lx.y (asg rfl) rfl ?_
  refine Lx.nil ?_
  refine Xx.tn (k2 _ _ _ _ ?_)
  refine Cx.seq (fun K3 k3 => ?_)
  refine Cx.region ?_
  refine Lx.y (mv rfl) rfl ?_
  refine Lx.cp rfl rfl rfl (nanI64_ct _ _) rfl ?_
  refine Lx.y (asg rfl) rfl ?_
  refine Lx.nil ?_
  refine Xx.tn (k3 _ _ _ _ ?_)
  refine Cx.seq (fun K4 k4 => ?_)
  refine Cx.seq (fun K5 k5 => ?_)
  refine Cx.region ?_
  refine Lx.y (mv rfl) rfl ?_
  refine Lx.nil ?_
  refine Xx.tn (k5 _ _ _ _ ?_)
  refine Cx.condF rfl ?_
  refine Cx.skip ?_
  refine Xx.tn (k4 _ _ _ _ ?_)
  refine Cx.seq (fun K6 k6 => ?_)
  refine Cx.seq (fun K7 k7 => ?_)
  refine Cx.region ?_
  refine Lx.y (mv rfl) rfl ?_
  refine Lx.nil ?_
  refine Xx.tn (k7 _ _ _ _ ?_)
  refine Cx.condF rfl ?_
  refine Cx.skip ?_
  refine Xx.tn (k6 _ _ _ _ ?_)
  refine Cx.seq (fun K8 k8 => ?_)
  refine Cx.seq (fun K9 k9 => ?_)
  refine Cx.region ?_
  refine Lx.y (mv rfl) rfl ?_
  refine Lx.y (mv rfl) rfl ?_
  refine Lx.y (lss rfl rfl) rfl ?_
  refine Lx.nil ?_
  refine Xx.tn (k9 _ _ _ _ ?_)
  refine Cx.condD rfl (fun h10 => ?_) (fun h10 => ?_)
  · skip
    have z1 := h10
    refine Cx.seq (fun K11 k11 => ?_)
    refine Cx.region ?_
    refine Lx.y (asg rfl) rfl ?_
    refine Lx.nil ?_
    refine Xx.tn (k11 _ _ _ _ ?_)
    refine Cx.ret ?_
    refine Xx.tr ?_
    first | exact Xx.rB1 rfl rfl ⟨congrArg i64v (cmpI_1 (by omega)).symm, rfl⟩ (Frag.le_refl _) rfl | exact Xx.rB1 rfl rfl ⟨congrArg i64v (cmpI_2 (by omega)).symm, rfl⟩ (Frag.le_refl _) rfl | exact Xx.rB1 rfl rfl ⟨congrArg i64v (cmpI_3 (by omega)).symm, rfl⟩ (Frag.le_refl _) rfl
  · skip
    have z1 := h10
    refine Cx.skip ?_
    refine Xx.tn (k8 _ _ _ _ ?_)
    refine Cx.seq (fun K12 k12 => ?_)
    refine Cx.seq (fun K13 k13 => ?_)
    refine Cx.region ?_
    refine Lx.y (mv rfl) rfl ?_
    refine Lx.y (mv rfl) rfl ?_
    refine Lx.y (gtr rfl rfl) rfl ?_
    refine Lx.nil ?_
    refine Xx.tn (k13 _ _ _ _ ?_)
    refine Cx.condD rfl (fun h14 => ?_) (fun h14 => ?_)
    · skip
      have z2 := h14
      refine Cx.seq (fun K15 k15 => ?_)
      refine Cx.region ?_
      refine Lx.y (asg rfl) rfl ?_
      refine Lx.nil ?_
      refine Xx.tn (k15 _ _ _ _ ?_)
      refine Cx.ret ?_
      refine Xx.tr ?_
      first | exact Xx.rB1 rfl rfl ⟨congrArg i64v (cmpI_1 (by omega)).symm, rfl⟩ (Frag.le_refl _) rfl | exact Xx.rB1 rfl rfl ⟨congrArg i64v (cmpI_2 (by omega)).symm, rfl⟩ (Frag.le_refl _) rfl | exact Xx.rB1 rfl rfl ⟨congrArg i64v (cmpI_3 (by omega)).symm, rfl⟩ (Frag.le_refl _) rfl
    · skip
      have z2 := h14
      refine Cx.skip ?_
      refine Xx.tn (k12 _ _ _ _ ?_)
      refine Cx.seq (fun K16 k16 => ?_)
      refine Cx.region ?_
      refine Lx.y (asg rfl) rfl ?_
      refine Lx.nil ?_
      refine Xx.tn (k16 _ _ _ _ ?_)
      refine Cx.ret ?_
      first | exact Xx.rB1 rfl rfl ⟨congrArg i64v (cmpI_1 (by omega)).symm, rfl⟩ (Frag.le_refl _) rfl | exact Xx.rB1 rfl rfl ⟨congrArg i64v (cmpI_2 (by omega)).symm, rfl⟩ (Frag.le_refl _) rfl | exact Xx.rB1 rfl rfl ⟨congrArg i64v (cmpI_3 (by omega)).symm, rfl⟩ (Frag.le_refl _) rfl

set_option maxHeartbeats 1000000 in
theorem number_ct (b : Bool) (B : Frag) : CtP Try.prog 61 [.bool b] B (i64 (if b then 1 else 0)) := by
  refine CtB.of_body Try.func61 rfl (nt := 4) rfl (by kernel_rfl) rfl ?_
  intro N0 w0 R
  refine Cx.seq (fun K1 k1 => ?_)
  refine Cx.region ?_
  refine Lx.y (asg rfl) rfl ?_
  refine Lx.nil ?_
  refine Xx.tn (k1 _ _ _ _ ?_)
  refine Cx.seq (fun K2 k2 => ?_)
  refine Cx.seq (fun K3 k3 => ?_)
  refine Cx.region ?_
  refine Lx.y (mv rfl) rfl ?_
  refine Lx.nil ?_
  refine Xx.tn (k3 _ _ _ _ ?_)
  refine Cx.condB rfl (fun h4 => ?_) (fun h4 => ?_)
  · skip
    have z := h4
    refine Cx.seq (fun K5 k5 => ?_)
    refine Cx.region ?_
    refine Lx.y (asg rfl) rfl ?_
    refine Lx.nil ?_
    refine Xx.tn (k5 _ _ _ _ ?_)
    refine Cx.ret ?_
    refine Xx.tr ?_
    exact Xx.rB1 rfl rfl ⟨by rw [z]; rfl, rfl⟩ (Frag.le_refl _) rfl
  · skip
    have z := h4
    refine Cx.skip ?_
    refine Xx.tn (k2 _ _ _ _ ?_)
    refine Cx.seq (fun K6 k6 => ?_)
    refine Cx.region ?_
    refine Lx.y (asg rfl) rfl ?_
    refine Lx.nil ?_
    refine Xx.tn (k6 _ _ _ _ ?_)
    refine Cx.ret ?_
    exact Xx.rB1 rfl rfl ⟨by rw [z]; rfl, rfl⟩ (Frag.le_refl _) rfl

set_option maxHeartbeats 1000000 in
theorem CompareString_ct (a b : List UInt8) (B : Frag) : CtP Try.prog 100 [str a, str b] B (i64 (ordI (cmpL a b))) := by
  refine CtB.of_body Try.func100 rfl (nt := 8) rfl (by kernel_rfl) rfl ?_
  intro N0 w0 R
  refine Cx.seq (fun K1 k1 => ?_)
  refine Cx.region ?_
  refine Lx.y (asg rfl) rfl ?_
  refine Lx.nil ?_
  refine Xx.tn (k1 _ _ _ _ ?_)
  refine Cx.seq (fun K2 k2 => ?_)
  refine Cx.region ?_
  refine Lx.y (mv rfl) rfl ?_
  refine Lx.y (mv rfl) rfl ?_
  refine Lx.y (extc rfl rfl (fun w _ => run_cmp Try.func114 (by kernel_rfl) (by kernel_rfl) (by kernel_rfl) (by kernel_rfl) a b w)) rfl ?_
  refine Lx.y (asg rfl) rfl ?_
  refine Lx.nil ?_
  refine Xx.tn (k2 _ _ _ _ ?_)
  refine Cx.ret ?_
  exact Xx.rB1 rfl rfl ⟨congrArg i64v (compareBytes_eq a b), rfl⟩ (Frag.le_refl _) rfl

set_option maxHeartbeats 1000000 in
theorem StrCompare_ct (a b : List UInt8) (B : Frag) : CtP Try.prog 63 [str a, str b] B (i64 (ordI (cmpL a b))) := by
  refine CtB.of_body Try.func63 rfl (nt := 8) rfl (by kernel_rfl) rfl ?_
  intro N0 w0 R
  refine Cx.seq (fun K1 k1 => ?_)
  refine Cx.region ?_
  refine Lx.y (asg rfl) rfl ?_
  refine Lx.nil ?_
  refine Xx.tn (k1 _ _ _ _ ?_)
  refine Cx.seq (fun K2 k2 => ?_)
  refine Cx.region ?_
  refine Lx.y (mv rfl) rfl ?_
  refine Lx.y (mv rfl) rfl ?_
  refine Lx.cp rfl rfl rfl (CompareString_ct _ _ _) rfl ?_
  refine Lx.y (asg rfl) rfl ?_
  refine Lx.nil ?_
  refine Xx.tn (k2 _ _ _ _ ?_)
  refine Cx.ret ?_
  exact Xx.rB1 rfl rfl ⟨rfl, rfl⟩ (Frag.le_refl _) rfl

set_option maxHeartbeats 1000000 in
theorem Compare_step (d : Nat) (ih : ∀ (a b : V) (deep : Int) (ca cb : List Value) (B : Frag), ValR B d a ca → ValR B d b cb → checkF d a deep = 0 → checkF d b deep = 0 → CtP Try.prog 32 [.agg ca.toArray, .agg cb.toArray] B (i64 (ordI (cmpF d a b)))) (a b : V) (deep : Int) (ca cb : List Value) (B : Frag) (ha : ValR B (d + 1) a ca) (hb : ValR B (d + 1) b cb) (hoka : checkF (d + 1) a deep = 0) (hokb : checkF (d + 1) b deep = 0) : CtP Try.prog 32 [.agg ca.toArray, .agg cb.toArray] B (i64 (ordI (cmpF (d + 1) a b))) := by
  obtain ⟨ham6, ham0⟩ := names_many hoka
  obtain ⟨hbm6, hbm0⟩ := names_many hokb
  obtain ⟨_, _, _, _, hal, _, hap⟩ := chk_ok hoka
  obtain ⟨_, _, _, _, hbl, _, hbp⟩ := chk_ok hokb
  obtain ⟨Ap, cp, An, cn, rfl, ⟨hsl, hn1, hn2, hcn, hcp⟩, hpl, hnl, hns, hnx, hps⟩ := ha
  obtain ⟨Ap2, cp2, An2, cn2, rfl, ⟨hsl2, hn12, hn22, hcn2, hcp2⟩, hpl2, hnl2, hns2, hnx2, hps2⟩ := hb
  refine CtB.of_body Try.func32 rfl (nt := 106) rfl (by kernel_rfl) rfl ?_
  intro N0 w0 R
  refine Cx.seq (fun K1 k1 => ?_)
  refine Cx.region ?_
  refine Lx.new (boxA rfl) rfl (fun b2 => ?_)
  refine Lx.new (boxA rfl) rfl (fun b3 => ?_)
  refine Lx.y (asg rfl) rfl ?_
  refine Lx.nil ?_
  refine Xx.tn (k1 _ _ _ _ ?_)
  refine Cx.seq (fun K2 k2 => ?_)
  refine Cx.seq (fun K3 k3 => ?_)
  refine Cx.region ?_
  refine Lx.y (fa' fo46_0 rfl) rfl ?_
  refine Lx.y (ld Try.underlying3 rfl rfl rfl) rfl ?_
  refine Lx.y (fa' fo46_0 rfl) rfl ?_
  refine Lx.y (ld Try.underlying3 rfl rfl rfl) rfl ?_
  refine Lx.cp rfl rfl rfl (CmpInt_ct _ _ _) rfl ?_
  refine Lx.y (asg rfl) rfl ?_
  refine Lx.nil ?_
  refine Xx.tn (k3 _ _ _ _ ?_)
  refine Cx.seq (fun K4 k4 => ?_)
  refine Cx.region ?_
  refine Lx.y (mv rfl) rfl ?_
  refine Lx.y (neI rfl rfl) rfl ?_
  refine Lx.nil ?_
  refine Xx.tn (k4 _ _ _ _ ?_)
  refine Cx.condN rfl (fun h5 => ?_) (fun h5 => ?_)
  · skip
    have zk : ¬ a.kind = b.kind := fun e => h5 (cmpI_3 e)
    have hr : ordI (cmpI a.kind b.kind) = ordI (cmpF (d + 1) a b) := by rw [cmpF_diff zk]
    refine Cx.seq (fun K6 k6 => ?_)
    refine Cx.region ?_
    refine Lx.y (mv rfl) rfl ?_
    refine Lx.y (asg rfl) rfl ?_
    refine Lx.nil ?_
    refine Xx.tn (k6 _ _ _ _ ?_)
    refine Cx.ret ?_
    refine Xx.tr ?_
    exact Xx.dropB b2 (Xx.dropB b3 (Xx.rB1 rfl rfl ⟨congrArg i64v hr, rfl⟩ (Frag.le_refl _) rfl))
  · skip
    have zk : a.kind = b.kind := Classical.byContradiction fun z => by
      rcases Int.lt_or_gt_of_ne z with z | z
      · rw [cmpI_1 z] at h5; omega
      · rw [cmpI_2 z] at h5; omega
    refine Cx.skip ?_
    refine Xx.tn (k2 _ _ _ _ ?_)
    refine Cx.seq (fun K7 k7 => ?_)
    refine Cx.seq (fun K8 k8 => ?_)
    refine Cx.region ?_
    refine Lx.y (fa' fo46_0 rfl) rfl ?_
    refine Lx.y (ld Try.underlying3 rfl rfl rfl) rfl ?_
    refine Lx.nil ?_
    refine Xx.tn (k8 _ _ _ _ ?_)
    refine Cx.block ?_
    refine Cx.seq (fun K9 k9 => ?_)
    refine Cx.region ?_
    refine Lx.y (eqI rfl rfl) rfl ?_
    refine Lx.y (asg rfl) rfl ?_
    refine Lx.nil ?_
    refine Xx.tn (k9 _ _ _ _ ?_)
    refine Cx.condD rfl (fun h10 => ?_) (fun h10 => ?_)
    · skip
      have z1 : a.kind = 1 := h10
      have hr : ordI (cmpI (if a.b then 1 else 0) (if b.b then 1 else 0)) = ordI (cmpF (d + 1) a b) := by rw [cmpF_same zk, if_pos z1, cmpB_I]
      refine Cx.seq (fun K11 k11 => ?_)
      refine Cx.drawn (by kernel_rfl) ?_
      refine Dx.p (i := 0) rfl (by kernel_rfl) (fa' fo46_1 rfl) rfl ?_
      refine Dx.r (i := 1) rfl (by kernel_rfl) (ld Try.underlying4 rfl rfl rfl) rfl ?_
      refine Dx.p (i := 3) rfl (by kernel_rfl) (fa' fo46_1 rfl) rfl ?_
      refine Dx.r (i := 4) rfl (by kernel_rfl) (ld Try.underlying4 rfl rfl rfl) rfl ?_
      refine Dx.one (i := 2) (by kernel_rfl) ?_
      refine Dstep.o (i := 2) rfl (Ox.cb rfl rfl rfl (number_ct _ _)) rfl (fun v B' H' hΦ hB => ?_)
      obtain ⟨rfl, rfl, rfl⟩ := hΦ; clear hB
      refine ⟨JOk.yes (JOk.edge (JOk.top) (by kernel_rfl)) (ld Try.underlying4 rfl rfl rfl), ?_⟩
      refine Dx.one (i := 5) (by kernel_rfl) ?_
      refine Dstep.o (i := 5) rfl (Ox.cb rfl rfl rfl (number_ct _ _)) rfl (fun v B' H' hΦ hB => ?_)
      obtain ⟨rfl, rfl, rfl⟩ := hΦ; clear hB
      refine ⟨JOk.edge (JOk.yes (JOk.top) (ld Try.underlying4 rfl rfl rfl)) (by kernel_rfl), ?_⟩
      refine Dx.one (i := 6) (by kernel_rfl) ?_
      refine Dstep.o (i := 6) rfl (Ox.cb rfl rfl rfl (CmpInt_ct _ _ _)) rfl (fun v B' H' hΦ hB => ?_)
      obtain ⟨rfl, rfl, rfl⟩ := hΦ; clear hB
      refine ⟨JOk.yes (JOk.yes (JOk.top) (ld Try.underlying4 rfl rfl rfl)) (ld Try.underlying4 rfl rfl rfl), ?_⟩
      refine Dx.p (i := 7) rfl (by kernel_rfl) (asg rfl) rfl ?_
      refine Dx.done (by kernel_rfl) ?_
      refine Xx.tn (k11 _ _ _ _ ?_)
      refine Cx.ret ?_
      refine Xx.br ?_
      refine Xx.tr ?_
      exact Xx.dropB b2 (Xx.dropB b3 (Xx.rB1 rfl rfl ⟨congrArg i64v hr, rfl⟩ (Frag.le_refl _) rfl))
    · skip
      have z1 : ¬ a.kind = 1 := h10
      refine Cx.seq (fun K12 k12 => ?_)
      refine Cx.region ?_
      refine Lx.y (eqI rfl rfl) rfl ?_
      refine Lx.y (asg rfl) rfl ?_
      refine Lx.nil ?_
      refine Xx.tn (k12 _ _ _ _ ?_)
      refine Cx.condD rfl (fun h13 => ?_) (fun h13 => ?_)
      · skip
        have z2 : a.kind = 2 := h13
        have hr : ordI (cmpI a.n b.n) = ordI (cmpF (d + 1) a b) := by rw [cmpF_same zk, if_neg z1, if_pos z2]
        refine Cx.seq (fun K14 k14 => ?_)
        refine Cx.region ?_
        refine Lx.y (fa' fo46_2 rfl) rfl ?_
        refine Lx.y (ld Try.underlying2 rfl rfl rfl) rfl ?_
        refine Lx.y (fa' fo46_2 rfl) rfl ?_
        refine Lx.y (ld Try.underlying2 rfl rfl rfl) rfl ?_
        refine Lx.cp rfl rfl rfl (CmpI64_ct _ _ _) rfl ?_
        refine Lx.y (asg rfl) rfl ?_
        refine Lx.nil ?_
        refine Xx.tn (k14 _ _ _ _ ?_)
        refine Cx.ret ?_
        refine Xx.br ?_
        refine Xx.tr ?_
        exact Xx.dropB b2 (Xx.dropB b3 (Xx.rB1 rfl rfl ⟨congrArg i64v hr, rfl⟩ (Frag.le_refl _) rfl))
      · skip
        have z2 : ¬ a.kind = 2 := h13
        refine Cx.cutK (ds' := []) (Sub.cons (s := 0) rfl (Sub.cons (s := 1) rfl (Sub.cons (s := 2) rfl (Sub.cons (s := 3) rfl (Sub.cons (s := 4) rfl (Sub.cons (s := 5) rfl (Sub.cons (s := 9) rfl (Sub.cons (s := 10) rfl (Sub.cons (s := 11) rfl (Sub.cons (s := 12) rfl (Sub.cons (s := 13) rfl (Sub.cons (s := 14) rfl (Sub.cons (s := 15) rfl (Sub.cons (s := 17) rfl (Sub.cons (s := 18) rfl (Sub.cons (s := 19) rfl (Sub.cons (s := 20) rfl (Sub.cons (s := 28) rfl (Sub.cons (s := 29) rfl (Sub.nil _)))))))))))))))))))) (fun ρ' B' H' => ρ' = [(35, .bool (decide (a.kind = 3 ∨ a.kind = 4)))] ∧ B = B' ∧ row b3 46 (vcs b Ap2 cp2 An2 cn2) * (row b2 46 (vcs a Ap cp An cn) * R) = H') ?_ ?_
        · skip
          refine Cx.seq (fun K15 k15 => ?_)
          refine Cx.region ?_
          refine Lx.y (eqI rfl rfl) rfl ?_
          refine Lx.y (asg rfl) rfl ?_
          refine Lx.nil ?_
          refine Xx.tn (k15 _ _ _ _ ?_)
          refine Cx.condD rfl (fun h16 => ?_) (fun h16 => ?_)
          · skip
            have z3 := h16
            refine Cx.skip ?_
            exact Xx.mkK (⟨rfl, rfl, rfl⟩) (Sub.consE (s := 35) rfl (by first | exact congrArg Value.bool (decide_eq_true (by omega)).symm | exact congrArg Value.bool (decide_eq_decide.2 (by omega))) (Sub.cons (s := 0) rfl (Sub.cons (s := 1) rfl (Sub.cons (s := 2) rfl (Sub.cons (s := 3) rfl (Sub.cons (s := 4) rfl (Sub.cons (s := 5) rfl (Sub.cons (s := 9) rfl (Sub.cons (s := 10) rfl (Sub.cons (s := 11) rfl (Sub.cons (s := 12) rfl (Sub.cons (s := 13) rfl (Sub.cons (s := 14) rfl (Sub.cons (s := 15) rfl (Sub.cons (s := 17) rfl (Sub.cons (s := 18) rfl (Sub.cons (s := 19) rfl (Sub.cons (s := 20) rfl (Sub.cons (s := 28) rfl (Sub.cons (s := 29) rfl (Sub.nil _)))))))))))))))))))))
          · skip
            have z3 := h16
            refine Cx.region ?_
            refine Lx.y (eqI rfl rfl) rfl ?_
            refine Lx.y (asg rfl) rfl ?_
            refine Lx.nil ?_
            exact Xx.mkK (⟨rfl, rfl, rfl⟩) (Sub.consE (s := 35) rfl (by first | exact congrArg Value.bool (decide_eq_true (by omega)).symm | exact congrArg Value.bool (decide_eq_decide.2 (by omega))) (Sub.cons (s := 0) rfl (Sub.cons (s := 1) rfl (Sub.cons (s := 2) rfl (Sub.cons (s := 3) rfl (Sub.cons (s := 4) rfl (Sub.cons (s := 5) rfl (Sub.cons (s := 9) rfl (Sub.cons (s := 10) rfl (Sub.cons (s := 11) rfl (Sub.cons (s := 12) rfl (Sub.cons (s := 13) rfl (Sub.cons (s := 14) rfl (Sub.cons (s := 15) rfl (Sub.cons (s := 17) rfl (Sub.cons (s := 18) rfl (Sub.cons (s := 19) rfl (Sub.cons (s := 20) rfl (Sub.cons (s := 28) rfl (Sub.cons (s := 29) rfl (Sub.nil _)))))))))))))))))))))
        · rintro ρ' B' H' ⟨rfl, rfl, rfl⟩
          refine Cx.condD rfl (fun h17 => ?_) (fun h17 => ?_)
          · skip
            have z3 := h17
            refine Cx.seq (fun K18 k18 => ?_)
            have hr : ordI (cmpL a.s b.s) = ordI (cmpF (d + 1) a b) := by rw [cmpF_same zk, if_neg z1, if_neg z2, if_pos z3]
            refine Cx.region ?_
            refine Lx.y (fa' fo46_3 rfl) rfl ?_
            refine Lx.y (ld Try.underlying9 rfl rfl rfl) rfl ?_
            refine Lx.y (fa' fo46_3 rfl) rfl ?_
            refine Lx.y (ld Try.underlying9 rfl rfl rfl) rfl ?_
            refine Lx.cp rfl rfl rfl (StrCompare_ct _ _ _) rfl ?_
            refine Lx.y (asg rfl) rfl ?_
            refine Lx.nil ?_
            refine Xx.tn (k18 _ _ _ _ ?_)
            refine Cx.ret ?_
            refine Xx.br ?_
            refine Xx.tr ?_
            exact Xx.dropB b2 (Xx.dropB b3 (Xx.rB1 rfl rfl ⟨congrArg i64v hr, rfl⟩ (Frag.le_refl _) rfl))
          · skip
            have z3 := h17
            refine Cx.skip ?_
            refine Xx.bn ?_
            refine Xx.tn (k7 _ _ _ _ ?_)
            refine Cx.seq (fun K19 k19 => ?_)
            refine Cx.seq (fun K20 k20 => ?_)
            refine Cx.region ?_
            refine Lx.y (fa' fo46_4 rfl) rfl ?_
            refine Lx.y (ld Try.underlying44 rfl rfl rfl) rfl ?_
            refine Lx.y (lenV (ty' := 0) Try.underlying44 rfl) rfl ?_
            refine Lx.y (fa' fo46_4 rfl) rfl ?_
            refine Lx.y (ld Try.underlying44 rfl rfl rfl) rfl ?_
            refine Lx.y (lenV (ty' := 0) Try.underlying44 rfl) rfl ?_
            refine Lx.y (minN rfl rfl) rfl ?_
            refine Lx.y (mv rfl) rfl ?_
            refine Lx.nil ?_
            refine Xx.tn (k20 _ _ _ _ ?_)
            refine Cx.block ?_
            refine Cx.loopK (Sub.cons (s := 0) rfl (Sub.cons (s := 1) rfl (Sub.cons (s := 2) rfl (Sub.cons (s := 3) rfl (Sub.cons (s := 5) rfl (Sub.cons (s := 9) rfl (Sub.cons (s := 10) rfl (Sub.cons (s := 11) rfl (Sub.cons (s := 12) rfl (Sub.cons (s := 13) rfl (Sub.cons (s := 14) rfl (Sub.cons (s := 15) rfl (Sub.cons (s := 17) rfl (Sub.cons (s := 18) rfl (Sub.cons (s := 19) rfl (Sub.cons (s := 20) rfl (Sub.cons (s := 28) rfl (Sub.cons (s := 29) rfl (Sub.cons (s := 35) rfl (Sub.cons (s := 43) rfl (Sub.cons (s := 44) rfl (Sub.cons (s := 45) rfl (Sub.cons (s := 46) rfl (Sub.cons (s := 47) rfl (Sub.cons (s := 48) rfl (Sub.cons (s := 49) rfl (Sub.nil _))))))))))))))))))))))))))) (fun m ρ' B' H' => ∃ (i : Nat), (i ≤ min a.parts.length b.parts.length ∧ cmpF (d + 1) a b = lexO (prtO (cmpF d) a b) (a.parts.length - i) (b.parts.length - i) i) ∧ m = a.parts.length - i ∧ ρ' = [(50, i64 i)] ∧ B = B' ∧ row b3 46 (vcs b Ap2 cp2 An2 cn2) * (row b2 46 (vcs a Ap cp An cn) * R) = H') ⟨0, ⟨by omega, by rw [cmpF_same zk, if_neg z1, if_neg z2, if_neg z3]; rfl⟩, rfl, rfl, rfl, rfl⟩ (Sub.cons (s := 50) rfl (Sub.cons (s := 0) rfl (Sub.cons (s := 1) rfl (Sub.cons (s := 2) rfl (Sub.cons (s := 3) rfl (Sub.cons (s := 5) rfl (Sub.cons (s := 9) rfl (Sub.cons (s := 10) rfl (Sub.cons (s := 11) rfl (Sub.cons (s := 12) rfl (Sub.cons (s := 13) rfl (Sub.cons (s := 14) rfl (Sub.cons (s := 15) rfl (Sub.cons (s := 17) rfl (Sub.cons (s := 18) rfl (Sub.cons (s := 19) rfl (Sub.cons (s := 20) rfl (Sub.cons (s := 28) rfl (Sub.cons (s := 29) rfl (Sub.cons (s := 35) rfl (Sub.cons (s := 43) rfl (Sub.cons (s := 44) rfl (Sub.cons (s := 45) rfl (Sub.cons (s := 46) rfl (Sub.cons (s := 47) rfl (Sub.cons (s := 48) rfl (Sub.cons (s := 49) rfl (Sub.nil _)))))))))))))))))))))))))))) ?_
            rintro m ρ' B' H' ⟨i, ⟨hi1, hlex⟩, rfl, rfl, rfl, rfl⟩
            refine Cx.seq (fun K21 k21 => ?_)
            refine Cx.region ?_
            refine Lx.y (lss rfl rfl) rfl ?_
            refine Lx.nil ?_
            refine Xx.tn (k21 _ _ _ _ ?_)
            refine Cx.seq (fun K22 k22 => ?_)
            refine Cx.condD rfl (fun h23 => ?_) (fun h23 => ?_)
            · skip
              have hlt := h23
              have hia : i < a.parts.length := by omega
              have hib : i < b.parts.length := by omega
              have hstep := hlex.trans (lexO_step hia hib)
              obtain ⟨bq, oq, lq, eq, fq, xs, hAp, hBq, hxs, hv2⟩ := hps i hia
              subst hAp
              obtain ⟨Ap3, cp3, An3, cn3, rfl⟩ := ValR.shape hv2
              obtain ⟨bq2, oq2, lq2, eq2, fq2, xs2, hAp2, hBq2, hxs2, hv22⟩ := hps2 i hib
              subst hAp2
              obtain ⟨Ap4, cp4, An4, cn4, rfl⟩ := ValR.shape hv22
              refine Cx.skip ?_
              refine Xx.tn (k22 _ _ _ _ ?_)
              refine Cx.seq (fun K24 k24 => ?_)
              refine Cx.block ?_
              refine Cx.seq (fun K25 k25 => ?_)
              refine Cx.region ?_
              refine Lx.y (mv rfl) rfl ?_
              refine Lx.y (asg rfl) rfl ?_
              refine Lx.nil ?_
              refine Xx.tn (k25 _ _ _ _ ?_)
              refine Cx.cutK (ds' := []) (Sub.cons (s := 0) rfl (Sub.cons (s := 1) rfl (Sub.cons (s := 2) rfl (Sub.cons (s := 3) rfl (Sub.cons (s := 5) rfl (Sub.cons (s := 6) rfl (Sub.cons (s := 9) rfl (Sub.cons (s := 10) rfl (Sub.cons (s := 11) rfl (Sub.cons (s := 12) rfl (Sub.cons (s := 13) rfl (Sub.cons (s := 14) rfl (Sub.cons (s := 15) rfl (Sub.cons (s := 17) rfl (Sub.cons (s := 18) rfl (Sub.cons (s := 19) rfl (Sub.cons (s := 20) rfl (Sub.cons (s := 28) rfl (Sub.cons (s := 29) rfl (Sub.cons (s := 35) rfl (Sub.cons (s := 43) rfl (Sub.cons (s := 44) rfl (Sub.cons (s := 45) rfl (Sub.cons (s := 46) rfl (Sub.cons (s := 47) rfl (Sub.cons (s := 48) rfl (Sub.cons (s := 49) rfl (Sub.cons (s := 50) rfl (Sub.cons (s := 51) rfl (Sub.cons (s := 52) rfl (Sub.nil _))))))))))))))))))))))))))))))) (fun ρ' B' H' => ρ' = [(6, i64 i)] ∧ B = B' ∧ prtO (cmpF d) a b i = cmpF d a.parts[i] b.parts[i] ∧ row b3 46 (vcs b (some ⟨bq2, oq2, none⟩) cp2 An2 cn2) * (row b2 46 (vcs a (some ⟨bq, oq, none⟩) cp An cn) * R) = H') ?_ ?_
              · skip
                refine Cx.seq (fun K26 k26 => ?_)
                refine Cx.region ?_
                refine Lx.y (fa' fo46_0 rfl) rfl ?_
                refine Lx.y (ld Try.underlying3 rfl rfl rfl) rfl ?_
                refine Lx.y (eqI rfl rfl) rfl ?_
                refine Lx.y (mv rfl) rfl ?_
                refine Xx.ifD (t := 56) rfl (fun h27 => ?_) (fun h27 => ?_)
                · skip
                  have k6 : a.kind = 6 := h27
                  have hna := ham6 k6
                  have hnb := hbm6 (by omega)
                  refine Lx.gT rfl rfl rfl ?_
                  refine Lx.y (mv rfl) rfl ?_
                  refine Lx.gT rfl rfl rfl ?_
                  refine Lx.y (fa' fo46_5 rfl) rfl ?_
                  refine Lx.gT rfl rfl rfl ?_
                  refine Lx.y (ld Try.underlying22 rfl rfl rfl) rfl ?_
                  refine Lx.gT rfl rfl rfl ?_
                  refine Lx.y (lenV (ty' := 0) Try.underlying22 rfl) rfl ?_
                  refine Lx.gT rfl rfl rfl ?_
                  refine Lx.y (lss rfl rfl) rfl ?_
                  refine Lx.y (pickT rfl rfl) rfl ?_
                  refine Lx.y (mv rfl) rfl ?_
                  refine Xx.ifD (t := 63) rfl (fun h28 => ?_) (fun h28 => ?_)
                  · skip
                    refine Lx.gT rfl rfl rfl ?_
                    refine Lx.y (mv rfl) rfl ?_
                    refine Lx.gT rfl rfl rfl ?_
                    refine Lx.y (fa' fo46_5 rfl) rfl ?_
                    refine Lx.gT rfl rfl rfl ?_
                    refine Lx.y (ld Try.underlying22 rfl rfl rfl) rfl ?_
                    refine Lx.gT rfl rfl rfl ?_
                    refine Lx.y (lenV (ty' := 0) Try.underlying22 rfl) rfl ?_
                    refine Lx.gT rfl rfl rfl ?_
                    refine Lx.y (lss rfl rfl) rfl ?_
                    refine Lx.y (pickT rfl rfl) rfl ?_
                    refine Lx.nil ?_
                    refine Xx.tn (k26 _ _ _ _ ?_)
                    refine Cx.condD rfl (fun h29 => ?_) (fun h29 => ?_)
                    · skip
                      obtain ⟨bn, on, ln, en, fn, hAn, hBn, hln⟩ := hns.at1 (k := i) (by omega)
                      subst hAn
                      rw [get_map (by omega)] at hln
                      obtain ⟨bn2, on2, ln2, en2, fn2, hAn2, hBn2, hln2⟩ := hns2.at1 (k := i) (by omega)
                      subst hAn2
                      rw [get_map (by omega)] at hln2
                      refine Cx.seq (fun K30 k30 => ?_)
                      refine Cx.drawn (by kernel_rfl) ?_
                      refine Dx.p (i := 0) rfl (by kernel_rfl) (fa' fo46_5 rfl) rfl ?_
                      refine Dx.r (i := 1) rfl (by kernel_rfl) (ld Try.underlying22 rfl rfl rfl) rfl ?_
                      refine Dx.p (i := 2) rfl (by kernel_rfl) (mv rfl) rfl ?_
                      refine Dx.p (i := 3) rfl (by kernel_rfl) (ia Try.underlying22 sz9 rfl rfl (by first | exact Int.toNat_natCast _ | rfl) (by omega) (by omega)) rfl ?_
                      refine Dx.r (i := 4) rfl (by kernel_rfl) (ldB Try.underlying9 rfl rfl hBn hln) rfl ?_
                      refine Dx.p (i := 5) rfl (by kernel_rfl) (fa' fo46_5 rfl) rfl ?_
                      refine Dx.r (i := 6) rfl (by kernel_rfl) (ld Try.underlying22 rfl rfl rfl) rfl ?_
                      refine Dx.p (i := 7) rfl (by kernel_rfl) (mv rfl) rfl ?_
                      refine Dx.p (i := 8) rfl (by kernel_rfl) (ia Try.underlying22 sz9 rfl rfl (by first | exact Int.toNat_natCast _ | rfl) (by omega) (by omega)) rfl ?_
                      refine Dx.r (i := 9) rfl (by kernel_rfl) (ldB Try.underlying9 rfl rfl hBn2 hln2) rfl ?_
                      refine Dx.one (i := 10) (by kernel_rfl) ?_
                      refine Dstep.o (i := 10) rfl (Ox.cb rfl rfl rfl (StrCompare_ct _ _ _)) rfl (fun v B' H' hΦ hB => ?_)
                      obtain ⟨rfl, rfl, rfl⟩ := hΦ; clear hB
                      refine ⟨JOk.edge (JOk.yes (JOk.edge (JOk.yes (JOk.top) (ld Try.underlying22 rfl rfl rfl)) (by kernel_rfl)) (ld Try.underlying22 rfl rfl rfl)) (by kernel_rfl), ?_⟩
                      refine Dx.p (i := 11) rfl (by kernel_rfl) (asg rfl) rfl ?_
                      refine Dx.done (by kernel_rfl) ?_
                      refine Xx.tn (k30 _ _ _ _ ?_)
                      refine Cx.seq (fun K31 k31 => ?_)
                      refine Cx.region ?_
                      refine Lx.y (mv rfl) rfl ?_
                      refine Lx.y (neI rfl rfl) rfl ?_
                      refine Lx.nil ?_
                      refine Xx.tn (k31 _ _ _ _ ?_)
                      refine Cx.condN rfl (fun h32 => ?_) (fun h32 => ?_)
                      · skip
                        have hne : ¬ cmpL (a.names.getD i []) (b.names.getD i []) = .eq := fun e => h32 (ordI_zero.2 e)
                        have hr : ordI (cmpL (a.names.getD i []) (b.names.getD i [])) = ordI (cmpF (d + 1) a b) := by
                          rw [hstep]
                          unfold prtO
                          rw [if_pos k6]
                          cases hc : cmpL (a.names.getD i []) (b.names.getD i []) with
                          | lt => rfl
                          | eq => exact absurd hc hne
                          | gt => rfl
                        refine Cx.seq (fun K33 k33 => ?_)
                        refine Cx.region ?_
                        refine Lx.y (mv rfl) rfl ?_
                        refine Lx.y (asg rfl) rfl ?_
                        refine Lx.nil ?_
                        refine Xx.tn (k33 _ _ _ _ ?_)
                        refine Cx.ret ?_
                        refine Xx.tr ?_
                        refine Xx.br ?_
                        refine Xx.tr ?_
                        refine Xx.tr ?_
                        refine Xx.br ?_
                        refine Xx.tr ?_
                        exact Xx.dropB b2 (Xx.dropB b3 (Xx.rB1 rfl rfl ⟨congrArg i64v hr, rfl⟩ (Frag.le_refl _) rfl))
                      · skip
                        have hpo : prtO (cmpF d) a b i = cmpF d a.parts[i] b.parts[i] := by unfold prtO; rw [if_pos k6, ordI_zero.1 h32, getDp hia, getDp hib]; rfl
                        refine Cx.skip ?_
                        exact Xx.mkK (⟨rfl, rfl, hpo, rfl⟩) (Sub.cons (s := 6) rfl (Sub.cons (s := 0) rfl (Sub.cons (s := 1) rfl (Sub.cons (s := 2) rfl (Sub.cons (s := 3) rfl (Sub.cons (s := 5) rfl (Sub.cons (s := 6) rfl (Sub.cons (s := 9) rfl (Sub.cons (s := 10) rfl (Sub.cons (s := 11) rfl (Sub.cons (s := 12) rfl (Sub.cons (s := 13) rfl (Sub.cons (s := 14) rfl (Sub.cons (s := 15) rfl (Sub.cons (s := 17) rfl (Sub.cons (s := 18) rfl (Sub.cons (s := 19) rfl (Sub.cons (s := 20) rfl (Sub.cons (s := 28) rfl (Sub.cons (s := 29) rfl (Sub.cons (s := 35) rfl (Sub.cons (s := 43) rfl (Sub.cons (s := 44) rfl (Sub.cons (s := 45) rfl (Sub.cons (s := 46) rfl (Sub.cons (s := 47) rfl (Sub.cons (s := 48) rfl (Sub.cons (s := 49) rfl (Sub.cons (s := 50) rfl (Sub.cons (s := 51) rfl (Sub.cons (s := 52) rfl (Sub.nil _))))))))))))))))))))))))))))))))
                    · skip
                      exact absurd h29 (by omega)
                  · skip
                    exact absurd h28 (by omega)
                · skip
                  have k6 : ¬ a.kind = 6 := h27
                  have hpo : prtO (cmpF d) a b i = cmpF d a.parts[i] b.parts[i] := by unfold prtO; rw [if_neg k6, getDp hia, getDp hib]; rfl
                  refine Lx.gF rfl rfl rfl rfl ?_
                  refine Lx.gF rfl rfl rfl rfl ?_
                  refine Lx.gF rfl rfl rfl rfl ?_
                  refine Lx.gF rfl rfl rfl rfl ?_
                  refine Lx.gF rfl rfl rfl rfl ?_
                  refine Lx.y (pickF rfl rfl) rfl ?_
                  refine Lx.y (mv rfl) rfl ?_
                  refine Lx.gF rfl rfl rfl rfl ?_
                  refine Lx.gF rfl rfl rfl rfl ?_
                  refine Lx.gF rfl rfl rfl rfl ?_
                  refine Lx.gF rfl rfl rfl rfl ?_
                  refine Lx.gF rfl rfl rfl rfl ?_
                  refine Lx.y (pickF rfl rfl) rfl ?_
                  refine Lx.nil ?_
                  refine Xx.tn (k26 _ _ _ _ ?_)
                  refine Cx.condF rfl ?_
                  refine Cx.skip ?_
                  exact Xx.mkK (⟨rfl, rfl, hpo, rfl⟩) (Sub.cons (s := 6) rfl (Sub.cons (s := 0) rfl (Sub.cons (s := 1) rfl (Sub.cons (s := 2) rfl (Sub.cons (s := 3) rfl (Sub.cons (s := 5) rfl (Sub.cons (s := 6) rfl (Sub.cons (s := 9) rfl (Sub.cons (s := 10) rfl (Sub.cons (s := 11) rfl (Sub.cons (s := 12) rfl (Sub.cons (s := 13) rfl (Sub.cons (s := 14) rfl (Sub.cons (s := 15) rfl (Sub.cons (s := 17) rfl (Sub.cons (s := 18) rfl (Sub.cons (s := 19) rfl (Sub.cons (s := 20) rfl (Sub.cons (s := 28) rfl (Sub.cons (s := 29) rfl (Sub.cons (s := 35) rfl (Sub.cons (s := 43) rfl (Sub.cons (s := 44) rfl (Sub.cons (s := 45) rfl (Sub.cons (s := 46) rfl (Sub.cons (s := 47) rfl (Sub.cons (s := 48) rfl (Sub.cons (s := 49) rfl (Sub.cons (s := 50) rfl (Sub.cons (s := 51) rfl (Sub.cons (s := 52) rfl (Sub.nil _))))))))))))))))))))))))))))))))
              · rintro ρ' B' H' ⟨rfl, rfl, hpo, rfl⟩
                refine Cx.seq (fun K34 k34 => ?_)
                refine Cx.drawn (by kernel_rfl) ?_
                refine Dx.p (i := 0) rfl (by kernel_rfl) (fa' fo46_4 rfl) rfl ?_
                refine Dx.r (i := 1) rfl (by kernel_rfl) (ld Try.underlying44 rfl rfl rfl) rfl ?_
                refine Dx.p (i := 2) rfl (by kernel_rfl) (mv rfl) rfl ?_
                refine Dx.p (i := 3) rfl (by kernel_rfl) (ia Try.underlying44 sz46 rfl rfl (by first | exact Int.toNat_natCast _ | rfl) (by omega) (by omega)) rfl ?_
                refine Dx.r (i := 4) rfl (by kernel_rfl) (ldA Try.underlying46 rfl sz46 rfl (Cells.base (n := 6) hBq hxs) rfl) rfl ?_
                refine Dx.p (i := 5) rfl (by kernel_rfl) (fa' fo46_4 rfl) rfl ?_
                refine Dx.r (i := 6) rfl (by kernel_rfl) (ld Try.underlying44 rfl rfl rfl) rfl ?_
                refine Dx.p (i := 7) rfl (by kernel_rfl) (mv rfl) rfl ?_
                refine Dx.p (i := 8) rfl (by kernel_rfl) (ia Try.underlying44 sz46 rfl rfl (by first | exact Int.toNat_natCast _ | rfl) (by omega) (by omega)) rfl ?_
                refine Dx.r (i := 9) rfl (by kernel_rfl) (ldA Try.underlying46 rfl sz46 rfl (Cells.base (n := 6) hBq2 hxs2) rfl) rfl ?_
                refine Dx.one (i := 10) (by kernel_rfl) ?_
                refine Dstep.o (i := 10) rfl (Ox.cb rfl rfl rfl (ih _ _ _ _ _ _ hv2 hv22 (hap i hia) (hbp i hib))) rfl (fun v B' H' hΦ hB => ?_)
                obtain ⟨rfl, rfl, rfl⟩ := hΦ; clear hB
                refine ⟨JOk.edge (JOk.yes (JOk.edge (JOk.yes (JOk.top) (ld Try.underlying44 rfl rfl rfl)) (by kernel_rfl)) (ld Try.underlying44 rfl rfl rfl)) (by kernel_rfl), ?_⟩
                refine Dx.p (i := 11) rfl (by kernel_rfl) (asg rfl) rfl ?_
                refine Dx.done (by kernel_rfl) ?_
                refine Xx.tn (k34 _ _ _ _ ?_)
                refine Cx.seq (fun K35 k35 => ?_)
                refine Cx.region ?_
                refine Lx.y (mv rfl) rfl ?_
                refine Lx.y (neI rfl rfl) rfl ?_
                refine Lx.nil ?_
                refine Xx.tn (k35 _ _ _ _ ?_)
                refine Cx.condN rfl (fun h36 => ?_) (fun h36 => ?_)
                · skip
                  have hne : ¬ cmpF d a.parts[i] b.parts[i] = .eq := fun e => h36 (ordI_zero.2 e)
                  have hr : ordI (cmpF d a.parts[i] b.parts[i]) = ordI (cmpF (d + 1) a b) := by
                    rw [hstep, hpo]
                    cases hc : cmpF d a.parts[i] b.parts[i] with
                    | lt => rfl
                    | eq => exact absurd hc hne
                    | gt => rfl
                  refine Cx.seq (fun K37 k37 => ?_)
                  refine Cx.region ?_
                  refine Lx.y (mv rfl) rfl ?_
                  refine Lx.y (asg rfl) rfl ?_
                  refine Lx.nil ?_
                  refine Xx.tn (k37 _ _ _ _ ?_)
                  refine Cx.ret ?_
                  refine Xx.br ?_
                  refine Xx.tr ?_
                  refine Xx.tr ?_
                  refine Xx.br ?_
                  refine Xx.tr ?_
                  exact Xx.dropB b2 (Xx.dropB b3 (Xx.rB1 rfl rfl ⟨congrArg i64v hr, rfl⟩ (Frag.le_refl _) rfl))
                · skip
                  have c3 : cmpF d a.parts[i] b.parts[i] = .eq := ordI_zero.1 h36
                  refine Cx.skip ?_
                  refine Xx.bn ?_
                  refine Xx.tn (k24 _ _ _ _ ?_)
                  refine Cx.region ?_
                  refine Lx.y (add rfl rfl (by first | exact wrap64 (by omega) (by omega) | rfl)) rfl ?_
                  refine Lx.y (mv rfl) rfl ?_
                  refine Lx.nil ?_
                  exact Xx.againK ⟨i + 1, ⟨by omega, by rw [hstep, hpo, c3]; rfl⟩, rfl, rfl, rfl, rfl⟩ (by omega) (Sub.cons (s := 50) rfl (Sub.cons (s := 0) rfl (Sub.cons (s := 1) rfl (Sub.cons (s := 2) rfl (Sub.cons (s := 3) rfl (Sub.cons (s := 5) rfl (Sub.cons (s := 9) rfl (Sub.cons (s := 10) rfl (Sub.cons (s := 11) rfl (Sub.cons (s := 12) rfl (Sub.cons (s := 13) rfl (Sub.cons (s := 14) rfl (Sub.cons (s := 15) rfl (Sub.cons (s := 17) rfl (Sub.cons (s := 18) rfl (Sub.cons (s := 19) rfl (Sub.cons (s := 20) rfl (Sub.cons (s := 28) rfl (Sub.cons (s := 29) rfl (Sub.cons (s := 35) rfl (Sub.cons (s := 43) rfl (Sub.cons (s := 44) rfl (Sub.cons (s := 45) rfl (Sub.cons (s := 46) rfl (Sub.cons (s := 47) rfl (Sub.cons (s := 48) rfl (Sub.cons (s := 49) rfl (Sub.nil _))))))))))))))))))))))))))))
            · skip
              have hend : i = a.parts.length ∨ i = b.parts.length := by have := h23; omega
              have hr : ordI (cmpI (a.parts.length : Nat) (b.parts.length : Nat)) = ordI (cmpF (d + 1) a b) := by rw [hlex, lexO_end2 (by omega) (by omega) hend]
              refine Cx.exit ?_
              refine Xx.te ?_
              refine Xx.te ?_
              refine Xx.bh ?_
              refine Xx.tn (k19 _ _ _ _ ?_)
              refine Cx.seq (fun K38 k38 => ?_)
              refine Cx.region ?_
              refine Lx.y (fa' fo46_4 rfl) rfl ?_
              refine Lx.y (ld Try.underlying44 rfl rfl rfl) rfl ?_
              refine Lx.y (lenV (ty' := 0) Try.underlying44 rfl) rfl ?_
              refine Lx.y (fa' fo46_4 rfl) rfl ?_
              refine Lx.y (ld Try.underlying44 rfl rfl rfl) rfl ?_
              refine Lx.y (lenV (ty' := 0) Try.underlying44 rfl) rfl ?_
              refine Lx.cp rfl rfl rfl (CmpInt_ct _ _ _) rfl ?_
              refine Lx.y (asg rfl) rfl ?_
              refine Lx.nil ?_
              refine Xx.tn (k38 _ _ _ _ ?_)
              refine Cx.ret ?_
              exact Xx.dropB b2 (Xx.dropB b3 (Xx.rB1 rfl rfl ⟨congrArg i64v hr, rfl⟩ (Frag.le_refl _) rfl))

theorem Compare_ct : ∀ (d : Nat) (a b : V) (deep : Int) (ca cb : List Value) (B : Frag), ValR B d a ca → ValR B d b cb → checkF d a deep = 0 → checkF d b deep = 0 → CtP Try.prog 32 [.agg ca.toArray, .agg cb.toArray] B (i64 (ordI (cmpF d a b))) := by
  intro d
  induction d with
  | zero => intro a b deep ca cb B h; exact h.elim
  | succ d ih => intro a b deep ca cb B ha hb h1 h2; exact Compare_step d ih a b deep ca cb B ha hb h1 h2

set_option maxHeartbeats 1000000 in
theorem VSame_ct (d : Nat) (a b : V) (deep : Int) (ca cb : List Value) (B : Frag) (ha : ValR B d a ca) (hb : ValR B d b cb) (h1 : checkF d a deep = 0) (h2 : checkF d b deep = 0) : CtP Try.prog 30 [.agg ca.toArray, .agg cb.toArray] B (.bool (decide (cmpF d a b = .eq))) := by
  obtain ⟨Ap, cp, An, cn, rfl⟩ := ValR.shape ha
  obtain ⟨Ap2, cp2, An2, cn2, rfl⟩ := ValR.shape hb
  refine CtB.of_body Try.func30 rfl (nt := 9) rfl (by kernel_rfl) rfl ?_
  intro N0 w0 R
  refine Cx.seq (fun K1 k1 => ?_)
  refine Cx.region ?_
  refine Lx.new (boxA rfl) rfl (fun b2 => ?_)
  refine Lx.new (boxA rfl) rfl (fun b3 => ?_)
  refine Lx.y (asg rfl) rfl ?_
  refine Lx.nil ?_
  refine Xx.tn (k1 _ _ _ _ ?_)
  refine Cx.seq (fun K2 k2 => ?_)
  refine Cx.region ?_
  refine Lx.y (ldA Try.underlying46 rfl sz46 rfl (Cells.own (n := 6) PickB.eq rfl) rfl) rfl ?_
  refine Lx.y (ldA Try.underlying46 rfl sz46 rfl (Cells.own (n := 6) PickB.eq rfl) rfl) rfl ?_
  refine Lx.cp rfl rfl rfl (Compare_ct d _ _ _ _ _ _ ha hb h1 h2) rfl ?_
  refine Lx.y (eqI rfl rfl) rfl ?_
  refine Lx.y (asg rfl) rfl ?_
  refine Lx.nil ?_
  refine Xx.tn (k2 _ _ _ _ ?_)
  refine Cx.ret ?_
  exact Xx.dropB b2 (Xx.dropB b3 (Xx.rB1 rfl rfl ⟨congrArg Value.bool (decide_eq_decide.2 ordI_zero), rfl⟩ (Frag.le_refl _) rfl))

set_option maxHeartbeats 1000000 in
theorem Encode_ct (d : Nat) (v : V) (cs : List Value) (B : Frag) (h : ValR B d v cs) (hb : checkF d v 1 = 0 → (bytesF d v).length ≤ 1152921504606846976) : CtP Try.prog 27 [.agg cs.toArray] B (.tuple #[str (if CheckF d v = 0 then bytesF d v else []), i64 (CheckF d v)]) := by
  obtain ⟨Ap, cp, An, cn, rfl⟩ := ValR.shape h
  refine CtB.of_body Try.func27 rfl (nt := 12) rfl (by kernel_rfl) rfl ?_
  intro N0 w0 R
  refine Cx.seq (fun K1 k1 => ?_)
  refine Cx.region ?_
  refine Lx.new (boxA rfl) rfl (fun b1 => ?_)
  refine Lx.y (asg rfl) rfl ?_
  refine Lx.y (asg rfl) rfl ?_
  refine Lx.nil ?_
  refine Xx.tn (k1 _ _ _ _ ?_)
  refine Cx.seq (fun K2 k2 => ?_)
  refine Cx.seq (fun K3 k3 => ?_)
  refine Cx.region ?_
  refine Lx.y (ldA Try.underlying46 rfl sz46 rfl (Cells.own (n := 6) PickB.eq rfl) rfl) rfl ?_
  refine Lx.cp rfl rfl rfl (Check_ct d v _ _ h hb) rfl ?_
  refine Lx.y (asg rfl) rfl ?_
  refine Lx.nil ?_
  refine Xx.tn (k3 _ _ _ _ ?_)
  refine Cx.seq (fun K4 k4 => ?_)
  refine Cx.region ?_
  refine Lx.y (mv rfl) rfl ?_
  refine Lx.y (neI rfl rfl) rfl ?_
  refine Lx.nil ?_
  refine Xx.tn (k4 _ _ _ _ ?_)
  refine Cx.condN rfl (fun h5 => ?_) (fun h5 => ?_)
  · skip
    have z1 := h5
    refine Cx.seq (fun K6 k6 => ?_)
    refine Cx.region ?_
    refine Lx.y (mv rfl) rfl ?_
    refine Lx.y (asg rfl) rfl ?_
    refine Lx.y (asg rfl) rfl ?_
    refine Lx.nil ?_
    refine Xx.tn (k6 _ _ _ _ ?_)
    refine Cx.ret ?_
    refine Xx.tr ?_
    refine Xx.dropB b1 ?_
    first | exact Xx.rB2 rfl rfl rfl ⟨by rw [if_neg z1], rfl⟩ (Frag.le_refl _) rfl | exact Xx.rB2 rfl rfl rfl ⟨by rw [if_pos z1, z1], rfl⟩ (Frag.le_refl _) rfl
  · skip
    have z1 : CheckF d v = 0 := h5
    refine Cx.skip ?_
    refine Xx.tn (k2 _ _ _ _ ?_)
    refine Cx.seq (fun K7 k7 => ?_)
    refine Cx.region ?_
    refine Lx.y (ldA Try.underlying46 rfl sz46 rfl (Cells.own (n := 6) PickB.eq rfl) rfl) rfl ?_
    refine Lx.cp rfl rfl rfl (bytes_ct d v _ _ h (hb (CheckF_zero z1).1)) rfl ?_
    refine Lx.y (asg rfl) rfl ?_
    refine Lx.y (asg rfl) rfl ?_
    refine Lx.nil ?_
    refine Xx.tn (k7 _ _ _ _ ?_)
    refine Cx.ret ?_
    refine Xx.dropB b1 ?_
    first | exact Xx.rB2 rfl rfl rfl ⟨by rw [if_neg z1], rfl⟩ (Frag.le_refl _) rfl | exact Xx.rB2 rfl rfl rfl ⟨by rw [if_pos z1, z1], rfl⟩ (Frag.le_refl _) rfl
end VaA
end Go.Proofs.Ytcoiejmlpinpbaa
