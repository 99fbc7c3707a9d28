/-
  Values that may be.
-/
import Derived.Test.YtfnfkoldifpmhaaDoorProg
import Derived.Test.YtfnfkoldifpmhaaDoorSlj
import Derived.Test.YtfnfkoldifpmhaaDoorKe7
namespace Go.Proofs.YtfnfkoldifpmhaaDoor
open Go.SL Go.RowKit
set_option linter.unusedVariables false
set_option linter.unusedSimpArgs false
set_option maxRecDepth 100000
open Ke1 Ke3 Ke4 Ke5 Ke6 Ke7
namespace Ke8
theorem sz26 : (Tryd.prog.info? 26).map (·.size) = some 6 := by kernel_rfl
theorem ti26 : TI Tryd.prog 26 [.int .i64 0, .bool false, .int .i64 0, str [], .slice none 0 0, .slice none 0 0] 6 88 := TI.of (by kernel_rfl) rfl rfl
theorem fo26_0 : FO Tryd.prog 26 0 0 1 false := FO.of Tryd.underlying26 rfl rfl (by kernel_rfl) Tryd.underlying3 rfl rfl
theorem fo26_4 : FO Tryd.prog 26 4 4 1 false := FO.of Tryd.underlying26 rfl rfl (by kernel_rfl) Tryd.underlying23 rfl rfl

/-- the first that is not 0 -/
def firstE : List Int → Int
  | [] => 0
  | e :: l => if e = 0 then firstE l else e
theorem firstE_zero {l : List Int} (h : ∀ e ∈ l, e = 0) : firstE l = 0 := by
  induction l with
  | nil => rfl
  | cons e l ih => unfold firstE; rw [if_pos (h e (by simp))]; exact ih fun x hx => h x (by simp [hx])
theorem firstE_at {l : List Int} {i : Nat} (hi : i < l.length) (h : ∀ k (hk : k < l.length), k < i → l[k] = 0) (hn : l[i] ≠ 0) : firstE l = l[i] := by
  induction l generalizing i with
  | nil => simp at hi
  | cons e l ih =>
    cases i with
    | zero => unfold firstE; rw [if_neg (by simpa using hn)]; rfl
    | succ i =>
      have h0 : e = 0 := h 0 (by simp) (by omega)
      unfold firstE
      rw [if_pos h0]
      exact ih (by simpa using hi) (fun k hk hki => h (k + 1) (by simpa using hk) (by omega)) (by simpa using hn)
noncomputable def checkF : Nat → V → Int → Int
  | 0, _, _ => 0
  | d + 1, v, deep => if 8 < deep then 30 else if v.kind < 0 ∨ 6 < v.kind ∨ ¬ BareP v then 6 else if 32 < v.parts.length then 3 else if namesB v = false then 31 else firstE (v.parts.map fun p => checkF d p (deep + 1))
theorem chk1 {d : Nat} {v : V} {deep : Int} (h : 8 < deep) : checkF (d + 1) v deep = 30 := by unfold checkF; rw [if_pos h]
theorem chk2 {d : Nat} {v : V} {deep : Int} (h : ¬ 8 < deep) (h2 : v.kind < 0 ∨ 6 < v.kind ∨ ¬ BareP v) : checkF (d + 1) v deep = 6 := by unfold checkF; rw [if_neg h, if_pos h2]
theorem chk3 {d : Nat} {v : V} {deep : Int} (h : ¬ 8 < deep) (h2 : ¬ (v.kind < 0 ∨ 6 < v.kind ∨ ¬ BareP v)) (h3 : 32 < v.parts.length) : checkF (d + 1) v deep = 3 := by unfold checkF; rw [if_neg h, if_neg h2, if_pos h3]
theorem chk4 {d : Nat} {v : V} {deep : Int} (h : ¬ 8 < deep) (h2 : ¬ (v.kind < 0 ∨ 6 < v.kind ∨ ¬ BareP v)) (h3 : ¬ 32 < v.parts.length) (h4 : namesB v = false) : checkF (d + 1) v deep = 31 := by unfold checkF; rw [if_neg h, if_neg h2, if_neg h3, if_pos h4]
theorem chk5 {d : Nat} {v : V} {deep : Int} (h : ¬ 8 < deep) (h2 : ¬ (v.kind < 0 ∨ 6 < v.kind ∨ ¬ BareP v)) (h3 : ¬ 32 < v.parts.length) (h4 : namesB v = true) {i : Nat} (hi : i < v.parts.length)
    (ha : ∀ k (hk : k < v.parts.length), k < i → checkF d v.parts[k] (deep + 1) = 0) (hn : ¬ checkF d v.parts[i] (deep + 1) = 0) : checkF (d + 1) v deep = checkF d v.parts[i] (deep + 1) := by
  conv => lhs; unfold checkF
  rw [if_neg h, if_neg h2, if_neg h3, if_neg (by rw [h4]; decide)]
  have := firstE_at (l := v.parts.map fun p => checkF d p (deep + 1)) (i := i) (by simpa using hi) (fun k hk hki => by simpa using ha k (by simpa using hk) hki) (by simpa using hn)
  rw [this]; simp
theorem chk6 {d : Nat} {v : V} {deep : Int} (h : ¬ 8 < deep) (h2 : ¬ (v.kind < 0 ∨ 6 < v.kind ∨ ¬ BareP v)) (h3 : ¬ 32 < v.parts.length) (h4 : namesB v = true)
    (ha : ∀ k (hk : k < v.parts.length), checkF d v.parts[k] (deep + 1) = 0) : checkF (d + 1) v deep = 0 := by
  unfold checkF
  rw [if_neg h, if_neg h2, if_neg h3, if_neg (by rw [h4]; decide)]
  apply firstE_zero
  intro e he
  obtain ⟨p, hp, rfl⟩ := List.mem_map.1 he
  obtain ⟨k, hk, rfl⟩ := List.mem_iff_getElem.1 hp
  exact ha k hk
theorem ValR.shape {B : Frag} {d : Nat} {v : V} {cs : List Value} (h : ValR B d v cs) : ∃ Ap cp An cn, cs = vcs v Ap cp An cn := by
  cases d with
  | zero => exact h.elim
  | succ d => obtain ⟨Ap, cp, An, cn, h1, _⟩ := h; exact ⟨Ap, cp, An, cn, h1⟩

set_option maxHeartbeats 1000000 in
theorem check_step (d : Nat) (ih : ∀ (v : V) (cs : List Value) (deep : Int) (B : Frag), ValR B d v cs → 0 ≤ deep → deep ≤ 100 → CtP Tryd.prog 49 [.agg cs.toArray, i64 deep] B (i64 (checkF d v deep))) (v : V) (cs : List Value) (deep : Int) (B : Frag) (h : ValR B (d + 1) v cs) (h0 : 0 ≤ deep) (h1 : deep ≤ 100) : CtP Tryd.prog 49 [.agg cs.toArray, i64 deep] B (i64 (checkF (d + 1) v deep)) := by
  obtain ⟨Ap, cp, An, cn, rfl, hsl, hpl, hnl, hns, hnx, hps⟩ := h
  refine CtB.of_body Tryd.func49 rfl (nt := 49) rfl (by kernel_rfl) rfl ?_
  intro N0 w0 R
  refine Cx.seq (fun K1 k1 => ?_)
  refine Cx.region ?_
  refine Lx.new (boxA rfl) rfl (fun b2 => ?_)
  refine Lx.y (asg rfl) rfl ?_
  refine Lx.nil ?_
  refine Xx.tn (k1 _ _ _ _ ?_)
  refine Cx.seq (fun K2 k2 => ?_)
  refine Cx.block ?_
  refine Cx.seq (fun K3 k3 => ?_)
  refine Cx.region ?_
  refine Lx.y (mv rfl) rfl ?_
  refine Lx.y (gtr rfl rfl) rfl ?_
  refine Lx.y (asg rfl) rfl ?_
  refine Lx.nil ?_
  refine Xx.tn (k3 _ _ _ _ ?_)
  refine Cx.condD rfl (fun h4 => ?_) (fun h4 => ?_)
  · skip
    have z1 := h4
    refine Cx.seq (fun K5 k5 => ?_)
    refine Cx.region ?_
    refine Lx.y (asg rfl) rfl ?_
    refine Lx.nil ?_
    refine Xx.tn (k5 _ _ _ _ ?_)
    refine Cx.ret ?_
    refine Xx.br ?_
    refine Xx.tr ?_
    first | exact Xx.dropB b2 (Xx.rB1 rfl rfl ⟨congrArg (fun z : Int => i64 z) (chk1 (by omega)).symm, rfl⟩ (Frag.le_refl _) rfl) | exact Xx.dropB b2 (Xx.rB1 rfl rfl ⟨congrArg (fun z : Int => i64 z) (chk2 (by omega) (by first | (left; omega) | (right; left; omega) | (right; right; exact of_decide_eq_false ((Bool.not_eq_true' _).mp z2)))).symm, rfl⟩ (Frag.le_refl _) rfl) | exact Xx.dropB b2 (Xx.rB1 rfl rfl ⟨congrArg (fun z : Int => i64 z) (chk3 (by omega) hb (by omega)).symm, rfl⟩ (Frag.le_refl _) rfl) | exact Xx.dropB b2 (Xx.rB1 rfl rfl ⟨congrArg (fun z : Int => i64 z) (chk4 (by omega) hb (by omega) ((Bool.not_eq_true' _).mp z4)).symm, rfl⟩ (Frag.le_refl _) rfl) | (refine Xx.dropB b6 ?_; exact Xx.dropB b2 (Xx.rB1 rfl rfl ⟨congrArg (fun z : Int => i64 z) (chk5 (by omega) hb (by omega) ((Bool.not_eq_false' _).mp z4) hil hall hze).symm, rfl⟩ (Frag.le_refl _) rfl)) | exact Xx.dropB b2 (Xx.rB1 rfl rfl ⟨congrArg (fun z : Int => i64 z) (chk6 (by omega) hb (by omega) ((Bool.not_eq_false' _).mp z4) (fun k hk => hall k hk (by omega))).symm, rfl⟩ (Frag.le_refl _) rfl)
  · skip
    have z1 := h4
    refine Cx.seq (fun K6 k6 => ?_)
    refine Cx.region ?_
    refine Lx.y (fa' fo26_0 rfl) rfl ?_
    refine Lx.y (ld Tryd.underlying3 rfl rfl rfl) rfl ?_
    refine Lx.y (lss rfl rfl) rfl ?_
    refine Lx.y (mv rfl) rfl ?_
    refine Xx.ifD (t := 15) rfl (fun h7 => ?_) (fun h7 => ?_)
    · skip
      refine Lx.gF rfl rfl rfl rfl ?_
      refine Lx.gF rfl rfl rfl rfl ?_
      refine Lx.gF rfl rfl rfl rfl ?_
      refine Lx.y (pickT rfl rfl) rfl ?_
      refine Lx.y (mv rfl) rfl ?_
      refine Lx.gF rfl rfl rfl rfl ?_
      refine Lx.gF rfl rfl rfl rfl ?_
      refine Lx.gF rfl rfl rfl rfl ?_
      refine Lx.y (pickT rfl rfl) rfl ?_
      refine Lx.y (asg rfl) rfl ?_
      refine Lx.nil ?_
      refine Xx.tn (k6 _ _ _ _ ?_)
      refine Cx.condT rfl ?_
      refine Cx.seq (fun K8 k8 => ?_)
      refine Cx.region ?_
      refine Lx.y (asg rfl) rfl ?_
      refine Lx.nil ?_
      refine Xx.tn (k8 _ _ _ _ ?_)
      refine Cx.ret ?_
      refine Xx.br ?_
      refine Xx.tr ?_
      first | exact Xx.dropB b2 (Xx.rB1 rfl rfl ⟨congrArg (fun z : Int => i64 z) (chk1 (by omega)).symm, rfl⟩ (Frag.le_refl _) rfl) | exact Xx.dropB b2 (Xx.rB1 rfl rfl ⟨congrArg (fun z : Int => i64 z) (chk2 (by omega) (by first | (left; omega) | (right; left; omega) | (right; right; exact of_decide_eq_false ((Bool.not_eq_true' _).mp z2)))).symm, rfl⟩ (Frag.le_refl _) rfl) | exact Xx.dropB b2 (Xx.rB1 rfl rfl ⟨congrArg (fun z : Int => i64 z) (chk3 (by omega) hb (by omega)).symm, rfl⟩ (Frag.le_refl _) rfl) | exact Xx.dropB b2 (Xx.rB1 rfl rfl ⟨congrArg (fun z : Int => i64 z) (chk4 (by omega) hb (by omega) ((Bool.not_eq_true' _).mp z4)).symm, rfl⟩ (Frag.le_refl _) rfl) | (refine Xx.dropB b6 ?_; exact Xx.dropB b2 (Xx.rB1 rfl rfl ⟨congrArg (fun z : Int => i64 z) (chk5 (by omega) hb (by omega) ((Bool.not_eq_false' _).mp z4) hil hall hze).symm, rfl⟩ (Frag.le_refl _) rfl)) | exact Xx.dropB b2 (Xx.rB1 rfl rfl ⟨congrArg (fun z : Int => i64 z) (chk6 (by omega) hb (by omega) ((Bool.not_eq_false' _).mp z4) (fun k hk => hall k hk (by omega))).symm, rfl⟩ (Frag.le_refl _) rfl)
    · skip
      refine Lx.gT rfl rfl rfl ?_
      refine Lx.y (fa' fo26_0 rfl) rfl ?_
      refine Lx.gT rfl rfl rfl ?_
      refine Lx.y (ld Tryd.underlying3 rfl rfl rfl) rfl ?_
      refine Lx.gT rfl rfl rfl ?_
      refine Lx.y (gtr rfl rfl) rfl ?_
      refine Lx.y (pickF rfl rfl) rfl ?_
      refine Lx.y (mv rfl) rfl ?_
      refine Xx.ifD (t := 20) rfl (fun h9 => ?_) (fun h9 => ?_)
      · skip
        refine Lx.gF rfl rfl rfl rfl ?_
        refine Lx.gF rfl rfl rfl rfl ?_
        refine Lx.gF rfl rfl rfl rfl ?_
        refine Lx.y (pickT rfl rfl) rfl ?_
        refine Lx.y (asg rfl) rfl ?_
        refine Lx.nil ?_
        refine Xx.tn (k6 _ _ _ _ ?_)
        refine Cx.condT rfl ?_
        refine Cx.seq (fun K10 k10 => ?_)
        refine Cx.region ?_
        refine Lx.y (asg rfl) rfl ?_
        refine Lx.nil ?_
        refine Xx.tn (k10 _ _ _ _ ?_)
        refine Cx.ret ?_
        refine Xx.br ?_
        refine Xx.tr ?_
        first | exact Xx.dropB b2 (Xx.rB1 rfl rfl ⟨congrArg (fun z : Int => i64 z) (chk1 (by omega)).symm, rfl⟩ (Frag.le_refl _) rfl) | exact Xx.dropB b2 (Xx.rB1 rfl rfl ⟨congrArg (fun z : Int => i64 z) (chk2 (by omega) (by first | (left; omega) | (right; left; omega) | (right; right; exact of_decide_eq_false ((Bool.not_eq_true' _).mp z2)))).symm, rfl⟩ (Frag.le_refl _) rfl) | exact Xx.dropB b2 (Xx.rB1 rfl rfl ⟨congrArg (fun z : Int => i64 z) (chk3 (by omega) hb (by omega)).symm, rfl⟩ (Frag.le_refl _) rfl) | exact Xx.dropB b2 (Xx.rB1 rfl rfl ⟨congrArg (fun z : Int => i64 z) (chk4 (by omega) hb (by omega) ((Bool.not_eq_true' _).mp z4)).symm, rfl⟩ (Frag.le_refl _) rfl) | (refine Xx.dropB b6 ?_; exact Xx.dropB b2 (Xx.rB1 rfl rfl ⟨congrArg (fun z : Int => i64 z) (chk5 (by omega) hb (by omega) ((Bool.not_eq_false' _).mp z4) hil hall hze).symm, rfl⟩ (Frag.le_refl _) rfl)) | exact Xx.dropB b2 (Xx.rB1 rfl rfl ⟨congrArg (fun z : Int => i64 z) (chk6 (by omega) hb (by omega) ((Bool.not_eq_false' _).mp z4) (fun k hk => hall k hk (by omega))).symm, rfl⟩ (Frag.le_refl _) rfl)
      · skip
        refine Lx.gT rfl rfl rfl ?_
        refine Lx.y (ldA Tryd.underlying26 rfl sz26 rfl (Cells.own (n := 6) PickB.eq rfl) rfl) rfl ?_
        refine Lx.gT rfl rfl rfl ?_
        refine Lx.cp rfl rfl rfl (bare_ct v _ _ _ _ _) rfl ?_
        refine Lx.gT rfl rfl rfl ?_
        refine Lx.y (not' rfl) rfl ?_
        refine Lx.y (pickF rfl rfl) rfl ?_
        refine Lx.y (asg rfl) rfl ?_
        refine Lx.nil ?_
        refine Xx.tn (k6 _ _ _ _ ?_)
        refine Cx.condB rfl (fun h11 => ?_) (fun h11 => ?_)
        · skip
          have z2 := h11
          refine Cx.seq (fun K12 k12 => ?_)
          refine Cx.region ?_
          refine Lx.y (asg rfl) rfl ?_
          refine Lx.nil ?_
          refine Xx.tn (k12 _ _ _ _ ?_)
          refine Cx.ret ?_
          refine Xx.br ?_
          refine Xx.tr ?_
          first | exact Xx.dropB b2 (Xx.rB1 rfl rfl ⟨congrArg (fun z : Int => i64 z) (chk1 (by omega)).symm, rfl⟩ (Frag.le_refl _) rfl) | exact Xx.dropB b2 (Xx.rB1 rfl rfl ⟨congrArg (fun z : Int => i64 z) (chk2 (by omega) (by first | (left; omega) | (right; left; omega) | (right; right; exact of_decide_eq_false ((Bool.not_eq_true' _).mp z2)))).symm, rfl⟩ (Frag.le_refl _) rfl) | exact Xx.dropB b2 (Xx.rB1 rfl rfl ⟨congrArg (fun z : Int => i64 z) (chk3 (by omega) hb (by omega)).symm, rfl⟩ (Frag.le_refl _) rfl) | exact Xx.dropB b2 (Xx.rB1 rfl rfl ⟨congrArg (fun z : Int => i64 z) (chk4 (by omega) hb (by omega) ((Bool.not_eq_true' _).mp z4)).symm, rfl⟩ (Frag.le_refl _) rfl) | (refine Xx.dropB b6 ?_; exact Xx.dropB b2 (Xx.rB1 rfl rfl ⟨congrArg (fun z : Int => i64 z) (chk5 (by omega) hb (by omega) ((Bool.not_eq_false' _).mp z4) hil hall hze).symm, rfl⟩ (Frag.le_refl _) rfl)) | exact Xx.dropB b2 (Xx.rB1 rfl rfl ⟨congrArg (fun z : Int => i64 z) (chk6 (by omega) hb (by omega) ((Bool.not_eq_false' _).mp z4) (fun k hk => hall k hk (by omega))).symm, rfl⟩ (Frag.le_refl _) rfl)
        · skip
          have z2 := h11
          have hb : ¬ (v.kind < 0 ∨ 6 < v.kind ∨ ¬ BareP v) := (fun z => by rcases z with z | z | z; exact absurd z (by omega); exact absurd z (by omega); exact z (of_decide_eq_true ((Bool.not_eq_false' _).mp z2)))
          refine Cx.seq (fun K13 k13 => ?_)
          refine Cx.region ?_
          refine Lx.y (fa' fo26_4 rfl) rfl ?_
          refine Lx.y (ld Tryd.underlying23 rfl rfl rfl) rfl ?_
          refine Lx.y (lenV (ty' := 0) Tryd.underlying23 rfl) rfl ?_
          refine Lx.y (gtr rfl rfl) rfl ?_
          refine Lx.y (asg rfl) rfl ?_
          refine Lx.nil ?_
          refine Xx.tn (k13 _ _ _ _ ?_)
          refine Cx.condD rfl (fun h14 => ?_) (fun h14 => ?_)
          · skip
            refine Cx.seq (fun K15 k15 => ?_)
            refine Cx.region ?_
            refine Lx.y (asg rfl) rfl ?_
            refine Lx.nil ?_
            refine Xx.tn (k15 _ _ _ _ ?_)
            refine Cx.ret ?_
            refine Xx.br ?_
            refine Xx.tr ?_
            first | exact Xx.dropB b2 (Xx.rB1 rfl rfl ⟨congrArg (fun z : Int => i64 z) (chk1 (by omega)).symm, rfl⟩ (Frag.le_refl _) rfl) | exact Xx.dropB b2 (Xx.rB1 rfl rfl ⟨congrArg (fun z : Int => i64 z) (chk2 (by omega) (by first | (left; omega) | (right; left; omega) | (right; right; exact of_decide_eq_false ((Bool.not_eq_true' _).mp z2)))).symm, rfl⟩ (Frag.le_refl _) rfl) | exact Xx.dropB b2 (Xx.rB1 rfl rfl ⟨congrArg (fun z : Int => i64 z) (chk3 (by omega) hb (by omega)).symm, rfl⟩ (Frag.le_refl _) rfl) | exact Xx.dropB b2 (Xx.rB1 rfl rfl ⟨congrArg (fun z : Int => i64 z) (chk4 (by omega) hb (by omega) ((Bool.not_eq_true' _).mp z4)).symm, rfl⟩ (Frag.le_refl _) rfl) | (refine Xx.dropB b6 ?_; exact Xx.dropB b2 (Xx.rB1 rfl rfl ⟨congrArg (fun z : Int => i64 z) (chk5 (by omega) hb (by omega) ((Bool.not_eq_false' _).mp z4) hil hall hze).symm, rfl⟩ (Frag.le_refl _) rfl)) | exact Xx.dropB b2 (Xx.rB1 rfl rfl ⟨congrArg (fun z : Int => i64 z) (chk6 (by omega) hb (by omega) ((Bool.not_eq_false' _).mp z4) (fun k hk => hall k hk (by omega))).symm, rfl⟩ (Frag.le_refl _) rfl)
          · skip
            refine Cx.seq (fun K16 k16 => ?_)
            refine Cx.region ?_
            refine Lx.y (ldA Tryd.underlying26 rfl sz26 rfl (Cells.own (n := 6) PickB.eq rfl) rfl) rfl ?_
            refine Lx.cp rfl rfl rfl (names_ct v _ _ _ _ _ hns hnx hnl) rfl ?_
            refine Lx.y (not' rfl) rfl ?_
            refine Lx.y (asg rfl) rfl ?_
            refine Lx.nil ?_
            refine Xx.tn (k16 _ _ _ _ ?_)
            refine Cx.condB rfl (fun h17 => ?_) (fun h17 => ?_)
            · skip
              have z4 := h17
              refine Cx.seq (fun K18 k18 => ?_)
              refine Cx.region ?_
              refine Lx.y (asg rfl) rfl ?_
              refine Lx.nil ?_
              refine Xx.tn (k18 _ _ _ _ ?_)
              refine Cx.ret ?_
              refine Xx.br ?_
              refine Xx.tr ?_
              first | exact Xx.dropB b2 (Xx.rB1 rfl rfl ⟨congrArg (fun z : Int => i64 z) (chk1 (by omega)).symm, rfl⟩ (Frag.le_refl _) rfl) | exact Xx.dropB b2 (Xx.rB1 rfl rfl ⟨congrArg (fun z : Int => i64 z) (chk2 (by omega) (by first | (left; omega) | (right; left; omega) | (right; right; exact of_decide_eq_false ((Bool.not_eq_true' _).mp z2)))).symm, rfl⟩ (Frag.le_refl _) rfl) | exact Xx.dropB b2 (Xx.rB1 rfl rfl ⟨congrArg (fun z : Int => i64 z) (chk3 (by omega) hb (by omega)).symm, rfl⟩ (Frag.le_refl _) rfl) | exact Xx.dropB b2 (Xx.rB1 rfl rfl ⟨congrArg (fun z : Int => i64 z) (chk4 (by omega) hb (by omega) ((Bool.not_eq_true' _).mp z4)).symm, rfl⟩ (Frag.le_refl _) rfl) | (refine Xx.dropB b6 ?_; exact Xx.dropB b2 (Xx.rB1 rfl rfl ⟨congrArg (fun z : Int => i64 z) (chk5 (by omega) hb (by omega) ((Bool.not_eq_false' _).mp z4) hil hall hze).symm, rfl⟩ (Frag.le_refl _) rfl)) | exact Xx.dropB b2 (Xx.rB1 rfl rfl ⟨congrArg (fun z : Int => i64 z) (chk6 (by omega) hb (by omega) ((Bool.not_eq_false' _).mp z4) (fun k hk => hall k hk (by omega))).symm, rfl⟩ (Frag.le_refl _) rfl)
            · skip
              have z4 := h17
              refine Cx.skip ?_
              refine Xx.bn ?_
              refine Xx.tn (k2 _ _ _ _ ?_)
              refine Cx.seq (fun K19 k19 => ?_)
              refine Cx.seq (fun K20 k20 => ?_)
              refine Cx.region ?_
              refine Lx.y (fa' fo26_4 rfl) rfl ?_
              refine Lx.y (ld Tryd.underlying23 rfl rfl rfl) rfl ?_
              refine Lx.y (lenV (ty' := 0) Tryd.underlying23 rfl) rfl ?_
              refine Lx.y (mv rfl) rfl ?_
              refine Lx.nil ?_
              refine Xx.tn (k20 _ _ _ _ ?_)
              refine Cx.block ?_
              refine Cx.loopK (Sub.cons (s := 0) rfl (Sub.cons (s := 1) rfl (Sub.cons (s := 2) rfl (Sub.cons (s := 8) rfl (Sub.cons (s := 9) rfl (Sub.cons (s := 10) rfl (Sub.cons (s := 11) rfl (Sub.cons (s := 12) rfl (Sub.cons (s := 13) rfl (Sub.cons (s := 14) rfl (Sub.cons (s := 15) rfl (Sub.cons (s := 16) rfl (Sub.cons (s := 17) rfl (Sub.cons (s := 18) rfl (Sub.cons (s := 19) rfl (Sub.cons (s := 20) rfl (Sub.cons (s := 21) rfl (Sub.cons (s := 22) rfl (Sub.cons (s := 23) rfl (Sub.cons (s := 24) rfl (Sub.cons (s := 25) rfl (Sub.cons (s := 26) rfl (Sub.cons (s := 27) rfl (Sub.cons (s := 28) rfl (Sub.cons (s := 29) rfl (Sub.cons (s := 30) rfl (Sub.cons (s := 31) rfl (Sub.cons (s := 32) rfl (Sub.cons (s := 33) rfl (Sub.cons (s := 34) rfl (Sub.cons (s := 35) rfl (Sub.cons (s := 36) rfl (Sub.nil _))))))))))))))))))))))))))))))))) (fun m ρ' B' H' => ∃ (i : Nat), (i ≤ v.parts.length ∧ ∀ k (hk : k < v.parts.length), k < i → checkF d v.parts[k] (deep + 1) = 0) ∧ m = v.parts.length - i ∧ ρ' = [(37, i64 i)] ∧ B = B' ∧ row b2 26 (vcs v Ap cp An cn) * R = H') ⟨0, ⟨by omega, fun k hk h => absurd h (by omega)⟩, rfl, rfl, rfl, rfl⟩ (Sub.cons (s := 37) rfl (Sub.cons (s := 0) rfl (Sub.cons (s := 1) rfl (Sub.cons (s := 2) rfl (Sub.cons (s := 8) rfl (Sub.cons (s := 9) rfl (Sub.cons (s := 10) rfl (Sub.cons (s := 11) rfl (Sub.cons (s := 12) rfl (Sub.cons (s := 13) rfl (Sub.cons (s := 14) rfl (Sub.cons (s := 15) rfl (Sub.cons (s := 16) rfl (Sub.cons (s := 17) rfl (Sub.cons (s := 18) rfl (Sub.cons (s := 19) rfl (Sub.cons (s := 20) rfl (Sub.cons (s := 21) rfl (Sub.cons (s := 22) rfl (Sub.cons (s := 23) rfl (Sub.cons (s := 24) rfl (Sub.cons (s := 25) rfl (Sub.cons (s := 26) rfl (Sub.cons (s := 27) rfl (Sub.cons (s := 28) rfl (Sub.cons (s := 29) rfl (Sub.cons (s := 30) rfl (Sub.cons (s := 31) rfl (Sub.cons (s := 32) rfl (Sub.cons (s := 33) rfl (Sub.cons (s := 34) rfl (Sub.cons (s := 35) rfl (Sub.cons (s := 36) rfl (Sub.nil _)))))))))))))))))))))))))))))))))) ?_
              rintro m ρ' B' H' ⟨i, ⟨hi, hall⟩, rfl, rfl, rfl, rfl⟩
              refine Cx.seq (fun K21 k21 => ?_)
              refine Cx.region ?_
              refine Lx.y (lss rfl rfl) rfl ?_
              refine Lx.nil ?_
              refine Xx.tn (k21 _ _ _ _ ?_)
              refine Cx.seq (fun K22 k22 => ?_)
              refine Cx.condD rfl (fun h23 => ?_) (fun h23 => ?_)
              · skip
                refine Cx.skip ?_
                refine Xx.tn (k22 _ _ _ _ ?_)
                refine Cx.seq (fun K24 k24 => ?_)
                refine Cx.block ?_
                refine Cx.seq (fun K25 k25 => ?_)
                have hil : i < v.parts.length := by omega
                obtain ⟨bq, oq, lq, eq, fq, xs, rfl, hBq, hxs, hv2⟩ := hps i hil
                obtain ⟨Ap2, cp2, An2, cn2, rfl⟩ := ValR.shape hv2
                refine Cx.region ?_
                refine Lx.y (ia Tryd.underlying23 sz26 rfl rfl (by first | exact Int.toNat_natCast _ | rfl) (by omega) (by omega)) rfl ?_
                refine Lx.y (ldA Tryd.underlying26 rfl sz26 rfl (Cells.base (n := 6) hBq hxs) rfl) rfl ?_
                refine Lx.new (allocO ti26) rfl (fun b6 => ?_)
                refine Lx.st (stA (d := .bool) sz26 rfl rfl rfl rfl (by show 0 + 6 ≤ 6; omega) rfl) ?_
                refine Lx.nil ?_
                refine Xx.tn (k25 _ _ _ _ ?_)
                refine Cx.seq (fun K26 k26 => ?_)
                refine Cx.region ?_
                refine Lx.y (ldA Tryd.underlying26 rfl sz26 rfl (Cells.own (n := 6) PickB.eq rfl) rfl) rfl ?_
                refine Lx.y (mv rfl) rfl ?_
                refine Lx.y (add rfl rfl (by first | exact wrap64 (by omega) (by omega) | rfl)) rfl ?_
                refine Lx.cp rfl rfl rfl (ih _ _ _ _ hv2 (by omega) (by omega)) rfl ?_
                refine Lx.y (asg rfl) rfl ?_
                refine Lx.nil ?_
                refine Xx.tn (k26 _ _ _ _ ?_)
                refine Cx.seq (fun K27 k27 => ?_)
                refine Cx.region ?_
                refine Lx.y (mv rfl) rfl ?_
                refine Lx.y (neI rfl rfl) rfl ?_
                refine Lx.nil ?_
                refine Xx.tn (k27 _ _ _ _ ?_)
                refine Cx.condN rfl (fun h28 => ?_) (fun h28 => ?_)
                · skip
                  have hze := h28
                  refine Cx.seq (fun K29 k29 => ?_)
                  refine Cx.region ?_
                  refine Lx.y (mv rfl) rfl ?_
                  refine Lx.y (asg rfl) rfl ?_
                  refine Lx.nil ?_
                  refine Xx.tn (k29 _ _ _ _ ?_)
                  refine Cx.ret ?_
                  refine Xx.br ?_
                  refine Xx.tr ?_
                  refine Xx.tr ?_
                  refine Xx.br ?_
                  refine Xx.tr ?_
                  first | exact Xx.dropB b2 (Xx.rB1 rfl rfl ⟨congrArg (fun z : Int => i64 z) (chk1 (by omega)).symm, rfl⟩ (Frag.le_refl _) rfl) | exact Xx.dropB b2 (Xx.rB1 rfl rfl ⟨congrArg (fun z : Int => i64 z) (chk2 (by omega) (by first | (left; omega) | (right; left; omega) | (right; right; exact of_decide_eq_false ((Bool.not_eq_true' _).mp z2)))).symm, rfl⟩ (Frag.le_refl _) rfl) | exact Xx.dropB b2 (Xx.rB1 rfl rfl ⟨congrArg (fun z : Int => i64 z) (chk3 (by omega) hb (by omega)).symm, rfl⟩ (Frag.le_refl _) rfl) | exact Xx.dropB b2 (Xx.rB1 rfl rfl ⟨congrArg (fun z : Int => i64 z) (chk4 (by omega) hb (by omega) ((Bool.not_eq_true' _).mp z4)).symm, rfl⟩ (Frag.le_refl _) rfl) | (refine Xx.dropB b6 ?_; exact Xx.dropB b2 (Xx.rB1 rfl rfl ⟨congrArg (fun z : Int => i64 z) (chk5 (by omega) hb (by omega) ((Bool.not_eq_false' _).mp z4) hil hall hze).symm, rfl⟩ (Frag.le_refl _) rfl)) | exact Xx.dropB b2 (Xx.rB1 rfl rfl ⟨congrArg (fun z : Int => i64 z) (chk6 (by omega) hb (by omega) ((Bool.not_eq_false' _).mp z4) (fun k hk => hall k hk (by omega))).symm, rfl⟩ (Frag.le_refl _) rfl)
                · skip
                  have hze := h28
                  refine Cx.skip ?_
                  refine Xx.bn ?_
                  refine Xx.tn (k24 _ _ _ _ ?_)
                  refine Cx.region ?_
                  refine Lx.y (add rfl rfl (by first | exact wrap64 (by omega) (by omega) | rfl)) rfl ?_
                  refine Lx.y (mv rfl) rfl ?_
                  refine Lx.nil ?_
                  refine Xx.dropB b6 ?_
                  exact Xx.againK ⟨i + 1, ⟨by omega, fun k hk hki => by
  by_cases e : k = i
  · subst e; exact hze
  · exact hall k hk (by omega)⟩, rfl, rfl, rfl, rfl⟩ (by omega) (Sub.cons (s := 37) rfl (Sub.cons (s := 0) rfl (Sub.cons (s := 1) rfl (Sub.cons (s := 2) rfl (Sub.cons (s := 8) rfl (Sub.cons (s := 9) rfl (Sub.cons (s := 10) rfl (Sub.cons (s := 11) rfl (Sub.cons (s := 12) rfl (Sub.cons (s := 13) rfl (Sub.cons (s := 14) rfl (Sub.cons (s := 15) rfl (Sub.cons (s := 16) rfl (Sub.cons (s := 17) rfl (Sub.cons (s := 18) rfl (Sub.cons (s := 19) rfl (Sub.cons (s := 20) rfl (Sub.cons (s := 21) rfl (Sub.cons (s := 22) rfl (Sub.cons (s := 23) rfl (Sub.cons (s := 24) rfl (Sub.cons (s := 25) rfl (Sub.cons (s := 26) rfl (Sub.cons (s := 27) rfl (Sub.cons (s := 28) rfl (Sub.cons (s := 29) rfl (Sub.cons (s := 30) rfl (Sub.cons (s := 31) rfl (Sub.cons (s := 32) rfl (Sub.cons (s := 33) rfl (Sub.cons (s := 34) rfl (Sub.cons (s := 35) rfl (Sub.cons (s := 36) rfl (Sub.nil _))))))))))))))))))))))))))))))))))
              · skip
                refine Cx.exit ?_
                refine Xx.te ?_
                refine Xx.te ?_
                refine Xx.bh ?_
                refine Xx.tn (k19 _ _ _ _ ?_)
                refine Cx.seq (fun K30 k30 => ?_)
                refine Cx.region ?_
                refine Lx.y (asg rfl) rfl ?_
                refine Lx.nil ?_
                refine Xx.tn (k30 _ _ _ _ ?_)
                refine Cx.ret ?_
                first | exact Xx.dropB b2 (Xx.rB1 rfl rfl ⟨congrArg (fun z : Int => i64 z) (chk1 (by omega)).symm, rfl⟩ (Frag.le_refl _) rfl) | exact Xx.dropB b2 (Xx.rB1 rfl rfl ⟨congrArg (fun z : Int => i64 z) (chk2 (by omega) (by first | (left; omega) | (right; left; omega) | (right; right; exact of_decide_eq_false ((Bool.not_eq_true' _).mp z2)))).symm, rfl⟩ (Frag.le_refl _) rfl) | exact Xx.dropB b2 (Xx.rB1 rfl rfl ⟨congrArg (fun z : Int => i64 z) (chk3 (by omega) hb (by omega)).symm, rfl⟩ (Frag.le_refl _) rfl) | exact Xx.dropB b2 (Xx.rB1 rfl rfl ⟨congrArg (fun z : Int => i64 z) (chk4 (by omega) hb (by omega) ((Bool.not_eq_true' _).mp z4)).symm, rfl⟩ (Frag.le_refl _) rfl) | (refine Xx.dropB b6 ?_; exact Xx.dropB b2 (Xx.rB1 rfl rfl ⟨congrArg (fun z : Int => i64 z) (chk5 (by omega) hb (by omega) ((Bool.not_eq_false' _).mp z4) hil hall hze).symm, rfl⟩ (Frag.le_refl _) rfl)) | exact Xx.dropB b2 (Xx.rB1 rfl rfl ⟨congrArg (fun z : Int => i64 z) (chk6 (by omega) hb (by omega) ((Bool.not_eq_false' _).mp z4) (fun k hk => hall k hk (by omega))).symm, rfl⟩ (Frag.le_refl _) rfl)

theorem check_ct : ∀ (d : Nat) (v : V) (cs : List Value) (deep : Int) (B : Frag), ValR B d v cs → 0 ≤ deep → deep ≤ 100 → CtP Tryd.prog 49 [.agg cs.toArray, i64 deep] B (i64 (checkF d v deep)) := by
  intro d
  induction d with
  | zero => intro v cs deep B h; exact h.elim
  | succ d ih => intro v cs deep B h h0 h1; exact check_step d ih v cs deep B h h0 h1
end Ke8
end Go.Proofs.YtfnfkoldifpmhaaDoor
