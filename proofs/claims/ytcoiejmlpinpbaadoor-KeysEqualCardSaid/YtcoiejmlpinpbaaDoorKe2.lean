/-
  The walks of awake (keys) and of the law of the next key.
-/
import Derived.Test.YtcoiejmlpinpbaaDoorProg
import Derived.Test.YtcoiejmlpinpbaaDoorSlj
import Derived.Test.YtcoiejmlpinpbaaDoorKe1
namespace Go.Proofs.YtcoiejmlpinpbaaDoor
open Go.SL Go.RowKit
set_option linter.unusedVariables false
set_option linter.unusedSimpArgs false
set_option maxRecDepth 100000
open Ke1
namespace Ke2


theorem keys_less : bless (keyI (-1)) (keyI 0) = true := by kernel_rfl

set_option maxHeartbeats 1000000 in
theorem awake_ct (B : Frag) : CtB Tryd.prog 9 [] B (fun v B' => v = .bool true ∧ B' = B) := by
  refine CtB.of_body Tryd.func9 rfl (nt := 16) rfl (by kernel_rfl) rfl ?_
  intro N0 w0 R
  refine Cx.seq (fun K1 k1 => ?_)
  refine Cx.region ?_
  refine Lx.y (asg rfl) rfl ?_
  refine Lx.nil ?_
  refine Xx.tn (k1 _ _ _ _ ?_)
  refine Cx.seq (fun K2 k2 => ?_)
  refine Cx.region ?_
  refine Lx.cp rfl rfl rfl (Int_ct _ _) rfl ?_
  refine Lx.cp rfl rfl rfl (OfInt_ct _ _) rfl ?_
  refine Lx.cp rfl rfl rfl (Int_ct _ _) rfl ?_
  refine Lx.cp rfl rfl rfl (OfInt_ct _ _) rfl ?_
  refine Lx.y (lssS rfl rfl) rfl ?_
  refine Lx.y (mv rfl) rfl ?_
  refine Xx.ifB (t := 6) rfl (fun h3 => ?_) (fun h3 => ?_)
  · skip
    refine Lx.gT rfl rfl rfl ?_
    refine Lx.cp rfl rfl rfl (Int_ct _ _) rfl ?_
    refine Lx.gT rfl rfl rfl ?_
    refine Lx.cp rfl rfl rfl (OfInt_ct _ _) rfl ?_
    refine Lx.gT rfl rfl rfl ?_
    refine Lx.y (lenS Tryd.underlying9 rfl) rfl ?_
    refine Lx.gT rfl rfl rfl ?_
    refine Lx.y (eqI rfl rfl) rfl ?_
    refine Lx.y (pickT rfl rfl) rfl ?_
    refine Lx.y (mv rfl) rfl ?_
    refine Xx.ifD (t := 12) rfl (fun h4 => ?_) (fun h4 => ?_)
    · skip
      refine Lx.gT rfl rfl rfl ?_
      refine Lx.cb rfl rfl rfl (Next_ct [97] _ (by decide)) rfl ?_
      rintro v B2 ⟨hBB, r, rfl, hr⟩ hB2
      obtain rfl := hBB.symm
      obtain rfl := next_a hr
      refine Lx.gT rfl rfl rfl ?_
      refine Lx.y (eqS rfl rfl) rfl ?_
      refine Lx.y (pickT rfl rfl) rfl ?_
      refine Lx.y (asg rfl) rfl ?_
      refine Lx.nil ?_
      refine Xx.tn (k2 _ _ _ _ ?_)
      refine Cx.ret ?_
      exact Xx.rB1 rfl rfl ⟨rfl, rfl⟩ (Frag.le_refl _) rfl
    · skip
      exact absurd rfl h4
  · skip
    exact absurd (keys_less.symm.trans h3) (by decide)

set_option maxHeartbeats 1000000 in
theorem KeysNext_ct (s t : List UInt8) (B : Frag) : CtB Tryd.prog 3 [str s, str t] B (fun v _ => v = .bool true) := by
  refine CtB.of_body Tryd.func3 rfl (nt := 69) rfl (by kernel_rfl) rfl ?_
  intro N0 w0 R
  refine Cx.seq (fun K1 k1 => ?_)
  refine Cx.region ?_
  refine Lx.y (asg rfl) rfl ?_
  refine Lx.nil ?_
  refine Xx.tn (k1 _ _ _ _ ?_)
  refine Cx.cutK (ds' := []) (Sub.cons (s := 1) rfl (Sub.cons (s := 4) rfl (Sub.nil _))) (fun ρ' B' H' => ∃ s : List UInt8, s.length ≤ 200 ∧ ρ' = [(0, str s)] ∧ B = B' ∧ R = H') ?_ ?_
  · skip
    refine Cx.seq (fun K2 k2 => ?_)
    refine Cx.region ?_
    refine Lx.y (mv rfl) rfl ?_
    refine Lx.y (lenS Tryd.underlying9 rfl) rfl ?_
    refine Lx.y (gtr rfl rfl) rfl ?_
    refine Lx.nil ?_
    refine Xx.tn (k2 _ _ _ _ ?_)
    refine Cx.condD rfl (fun h3 => ?_) (fun h3 => ?_)
    · skip
      refine Cx.region ?_
      refine Lx.y (mv rfl) rfl ?_
      refine Lx.y (sl2S Tryd.underlying9 rfl rfl (show Int.toNat _ = 200 from rfl) (by omega) (by omega)) rfl ?_
      refine Lx.y (asg rfl) rfl ?_
      refine Lx.nil ?_
      exact Xx.mkK (⟨_, by simp; omega, rfl, rfl, rfl⟩) (Sub.cons (s := 0) rfl (Sub.cons (s := 1) rfl (Sub.cons (s := 4) rfl (Sub.nil _))))
    · skip
      refine Cx.skip ?_
      exact Xx.mkK (⟨_, by omega, rfl, rfl, rfl⟩) (Sub.cons (s := 0) rfl (Sub.cons (s := 1) rfl (Sub.cons (s := 4) rfl (Sub.nil _))))
  · rintro ρ' B' H' ⟨s, hs, rfl, rfl, rfl⟩
    refine Cx.cutK (ds' := []) (Sub.cons (s := 0) rfl (Sub.cons (s := 4) rfl (Sub.nil _))) (fun ρ' B' H' => ∃ t : List UInt8, t.length ≤ 200 ∧ ρ' = [(1, str t)] ∧ B = B' ∧ R = H') ?_ ?_
    · skip
      refine Cx.seq (fun K4 k4 => ?_)
      refine Cx.region ?_
      refine Lx.y (mv rfl) rfl ?_
      refine Lx.y (lenS Tryd.underlying9 rfl) rfl ?_
      refine Lx.y (gtr rfl rfl) rfl ?_
      refine Lx.nil ?_
      refine Xx.tn (k4 _ _ _ _ ?_)
      refine Cx.condD rfl (fun h5 => ?_) (fun h5 => ?_)
      · skip
        refine Cx.region ?_
        refine Lx.y (mv rfl) rfl ?_
        refine Lx.y (sl2S Tryd.underlying9 rfl rfl (show Int.toNat _ = 200 from rfl) (by omega) (by omega)) rfl ?_
        refine Lx.y (asg rfl) rfl ?_
        refine Lx.nil ?_
        exact Xx.mkK (⟨_, by simp; omega, rfl, rfl, rfl⟩) (Sub.cons (s := 1) rfl (Sub.cons (s := 0) rfl (Sub.cons (s := 4) rfl (Sub.nil _))))
      · skip
        refine Cx.skip ?_
        exact Xx.mkK (⟨_, by omega, rfl, rfl, rfl⟩) (Sub.cons (s := 1) rfl (Sub.cons (s := 0) rfl (Sub.cons (s := 4) rfl (Sub.nil _))))
    · rintro ρ' B' H' ⟨t, ht, rfl, rfl, rfl⟩
      refine Cx.seq (fun K6 k6 => ?_)
      refine Cx.region ?_
      refine Lx.y (mv rfl) rfl ?_
      refine Lx.cb rfl rfl rfl (Next_ct s _ (by omega)) rfl ?_
      rintro v B2 ⟨hBB, r, rfl, hr⟩ hB2
      obtain rfl := hBB.symm
      refine Lx.y (asg rfl) rfl ?_
      refine Lx.nil ?_
      refine Xx.tn (k6 _ _ _ _ ?_)
      refine Cx.seq (fun K8 k8 => ?_)
      refine Cx.region ?_
      refine Lx.y (mv rfl) rfl ?_
      refine Lx.y (mv rfl) rfl ?_
      refine Lx.y (catS rfl rfl (by first | omega | (simp <;> omega))) rfl ?_
      refine Lx.y (asg rfl) rfl ?_
      refine Lx.nil ?_
      refine Xx.tn (k8 _ _ _ _ ?_)
      refine Cx.seq (fun K9 k9 => ?_)
      refine Cx.seq (fun K10 k10 => ?_)
      refine Cx.region ?_
      refine Lx.cb rfl rfl rfl (awake_ct _) rfl ?_
      rintro v B2 ⟨rfl, hBB⟩ hB2
      obtain rfl := hBB.symm
      refine Lx.y (not' rfl) rfl ?_
      refine Lx.y (mv rfl) rfl ?_
      refine Xx.ifB (t := 25) rfl (fun h12 => ?_) (fun h12 => ?_)
      · skip
        cases h12
      · skip
        refine Lx.gT rfl rfl rfl ?_
        refine Lx.y (mv rfl) rfl ?_
        refine Lx.gT rfl rfl rfl ?_
        refine Lx.y (neS rfl rfl) rfl ?_
        refine Lx.gT rfl rfl rfl ?_
        refine Lx.y (mv rfl) rfl ?_
        refine Xx.ifN (t := 28) rfl (fun h13 => ?_) (fun h13 => ?_)
        · skip
          have hu := next_above hr h13 t
          have hv : bless s r = true := by simpa using next_above hr h13 []
          refine Lx.gT rfl rfl rfl ?_
          refine Lx.y (mv rfl) rfl ?_
          refine Lx.gT rfl rfl rfl ?_
          refine Lx.y (mv rfl) rfl ?_
          refine Lx.gT rfl rfl rfl ?_
          refine Lx.y (geqS rfl rfl) rfl ?_
          refine Lx.gT rfl rfl rfl ?_
          refine Lx.y (mv rfl) rfl ?_
          refine Xx.ifB (t := 32) rfl (fun h14 => ?_) (fun h14 => ?_)
          · skip
            exact absurd h14 (by rw [hu]; decide)
          · skip
            refine Lx.gT rfl rfl rfl ?_
            refine Lx.y (mv rfl) rfl ?_
            refine Lx.gT rfl rfl rfl ?_
            refine Lx.y (mv rfl) rfl ?_
            refine Lx.gT rfl rfl rfl ?_
            refine Lx.y (geqS rfl rfl) rfl ?_
            refine Lx.gT rfl rfl rfl ?_
            refine Lx.y (pickF rfl rfl) rfl ?_
            refine Lx.gT rfl rfl rfl ?_
            refine Lx.y (pickT rfl rfl) rfl ?_
            refine Lx.y (pickF rfl rfl) rfl ?_
            refine Lx.nil ?_
            refine Xx.tn (k10 _ _ _ _ ?_)
            refine Cx.condB rfl (fun h15 => ?_) (fun h15 => ?_)
            · skip
              exact absurd h15 (by rw [hv]; decide)
            · skip
              refine Cx.skip ?_
              refine Xx.tn (k9 _ _ _ _ ?_)
              refine Cx.seq (fun K16 k16 => ?_)
              refine Cx.region ?_
              refine Lx.y (mv rfl) rfl ?_
              refine Lx.y (mv rfl) rfl ?_
              refine Lx.y (gtrS rfl rfl) rfl ?_
              refine Lx.y (mv rfl) rfl ?_
              refine Xx.ifB (t := 42) rfl (fun h17 => ?_) (fun h17 => ?_)
              · skip
                have hlt := h17
                refine Lx.gT rfl rfl rfl ?_
                refine Lx.y (mv rfl) rfl ?_
                refine Lx.gT rfl rfl rfl ?_
                refine Lx.y (lenS Tryd.underlying9 rfl) rfl ?_
                refine Lx.gT rfl rfl rfl ?_
                refine Lx.y (mv rfl) rfl ?_
                refine Lx.gT rfl rfl rfl ?_
                refine Lx.y (lenS Tryd.underlying9 rfl) rfl ?_
                refine Lx.gT rfl rfl rfl ?_
                refine Lx.y (geq rfl rfl) rfl ?_
                refine Lx.gT rfl rfl rfl ?_
                refine Lx.y (mv rfl) rfl ?_
                refine Xx.ifD (t := 48) rfl (fun h18 => ?_) (fun h18 => ?_)
                · skip
                  refine Lx.gT rfl rfl rfl ?_
                  refine Lx.y (mv rfl) rfl ?_
                  refine Lx.gT rfl rfl rfl ?_
                  refine Lx.y (mv rfl) rfl ?_
                  refine Lx.gT rfl rfl rfl ?_
                  refine Lx.y (lenS Tryd.underlying9 rfl) rfl ?_
                  refine Lx.gT rfl rfl rfl ?_
                  refine Lx.y (sl2S Tryd.underlying9 rfl rfl (by first | exact Int.toNat_natCast _ | rfl) (by omega) (by omega)) rfl ?_
                  refine Lx.gT rfl rfl rfl ?_
                  refine Lx.y (mv rfl) rfl ?_
                  refine Lx.gT rfl rfl rfl ?_
                  refine Lx.y (eqS rfl rfl) rfl ?_
                  refine Lx.gT rfl rfl rfl ?_
                  refine Lx.y (pickT rfl rfl) rfl ?_
                  refine Lx.gT rfl rfl rfl ?_
                  refine Lx.y (not' rfl) rfl ?_
                  refine Lx.y (pickT rfl rfl) rfl ?_
                  refine Lx.y (asg rfl) rfl ?_
                  refine Lx.nil ?_
                  refine Xx.tn (k16 _ _ _ _ ?_)
                  refine Cx.seq (fun K19 k19 => ?_)
                  refine Cx.region ?_
                  refine Lx.y (mv rfl) rfl ?_
                  refine Lx.y (not' rfl) rfl ?_
                  refine Lx.y (mv rfl) rfl ?_
                  refine Xx.ifB (t := 60) rfl (fun h20 => ?_) (fun h20 => ?_)
                  · skip
                    refine Lx.gF rfl rfl rfl rfl ?_
                    refine Lx.gF rfl rfl rfl rfl ?_
                    refine Lx.gF rfl rfl rfl rfl ?_
                    refine Lx.gU rfl rfl rfl rfl ?_
                    refine Lx.gU rfl rfl rfl rfl ?_
                    refine Lx.gU rfl rfl rfl rfl ?_
                    refine Lx.gF rfl rfl rfl rfl ?_
                    refine Lx.y (pickT rfl rfl) rfl ?_
                    refine Lx.y (asg rfl) rfl ?_
                    refine Lx.nil ?_
                    refine Xx.tn (k19 _ _ _ _ ?_)
                    refine Cx.ret ?_
                    first | exact Xx.rB1 rfl rfl rfl (Frag.le_refl _) rfl | exact Xx.rB1 rfl rfl (congrArg Value.bool (by rw [(next_le hr hlt hnp).2]; rfl)) (Frag.le_refl _) rfl | exact absurd hrn (next_le hr hlt hnp).1
                  · skip
                    have hnp : ¬ (s.length ≤ t.length ∧ t.take s.length = s) := fun z => absurd h20 (by rw [decide_eq_true z.2]; decide)
                    refine Lx.gT rfl rfl rfl ?_
                    refine Lx.y (mv rfl) rfl ?_
                    refine Lx.gT rfl rfl rfl ?_
                    refine Lx.y (neS rfl rfl) rfl ?_
                    refine Lx.gT rfl rfl rfl ?_
                    refine Lx.y (mv rfl) rfl ?_
                    refine Xx.ifN (t := 63) rfl (fun h21 => ?_) (fun h21 => ?_)
                    · skip
                      refine Lx.gT rfl rfl rfl ?_
                      refine Lx.y (mv rfl) rfl ?_
                      refine Lx.gT rfl rfl rfl ?_
                      refine Lx.y (mv rfl) rfl ?_
                      refine Lx.gT rfl rfl rfl ?_
                      refine Lx.y (geqS rfl rfl) rfl ?_
                      refine Lx.gT rfl rfl rfl ?_
                      refine Lx.y (pickT rfl rfl) rfl ?_
                      refine Lx.y (pickF rfl rfl) rfl ?_
                      refine Lx.y (asg rfl) rfl ?_
                      refine Lx.nil ?_
                      refine Xx.tn (k19 _ _ _ _ ?_)
                      refine Cx.ret ?_
                      first | exact Xx.rB1 rfl rfl rfl (Frag.le_refl _) rfl | exact Xx.rB1 rfl rfl (congrArg Value.bool (by rw [(next_le hr hlt hnp).2]; rfl)) (Frag.le_refl _) rfl | exact absurd hrn (next_le hr hlt hnp).1
                    · skip
                      have hrn := h21
                      refine Lx.gF rfl rfl rfl rfl ?_
                      refine Lx.gF rfl rfl rfl rfl ?_
                      refine Lx.gF rfl rfl rfl rfl ?_
                      refine Lx.gT rfl rfl rfl ?_
                      refine Lx.y (pickF rfl rfl) rfl ?_
                      refine Lx.y (pickF rfl rfl) rfl ?_
                      refine Lx.y (asg rfl) rfl ?_
                      refine Lx.nil ?_
                      refine Xx.tn (k19 _ _ _ _ ?_)
                      refine Cx.ret ?_
                      first | exact Xx.rB1 rfl rfl rfl (Frag.le_refl _) rfl | exact Xx.rB1 rfl rfl (congrArg Value.bool (by rw [(next_le hr hlt hnp).2]; rfl)) (Frag.le_refl _) rfl | exact absurd hrn (next_le hr hlt hnp).1
                · skip
                  have hnp : ¬ (s.length ≤ t.length ∧ t.take s.length = s) := fun z => h18 (by have := z.1; omega)
                  refine Lx.gF rfl rfl rfl rfl ?_
                  refine Lx.gF rfl rfl rfl rfl ?_
                  refine Lx.gF rfl rfl rfl rfl ?_
                  refine Lx.gF rfl rfl rfl rfl ?_
                  refine Lx.gF rfl rfl rfl rfl ?_
                  refine Lx.gF rfl rfl rfl rfl ?_
                  refine Lx.gT rfl rfl rfl ?_
                  refine Lx.y (pickF rfl rfl) rfl ?_
                  refine Lx.gT rfl rfl rfl ?_
                  refine Lx.y (not' rfl) rfl ?_
                  refine Lx.y (pickT rfl rfl) rfl ?_
                  refine Lx.y (asg rfl) rfl ?_
                  refine Lx.nil ?_
                  refine Xx.tn (k16 _ _ _ _ ?_)
                  refine Cx.seq (fun K22 k22 => ?_)
                  refine Cx.region ?_
                  refine Lx.y (mv rfl) rfl ?_
                  refine Lx.y (not' rfl) rfl ?_
                  refine Lx.y (mv rfl) rfl ?_
                  refine Lx.gT rfl rfl rfl ?_
                  refine Lx.y (mv rfl) rfl ?_
                  refine Lx.gT rfl rfl rfl ?_
                  refine Lx.y (neS rfl rfl) rfl ?_
                  refine Lx.gT rfl rfl rfl ?_
                  refine Lx.y (mv rfl) rfl ?_
                  refine Xx.ifN (t := 63) rfl (fun h23 => ?_) (fun h23 => ?_)
                  · skip
                    refine Lx.gT rfl rfl rfl ?_
                    refine Lx.y (mv rfl) rfl ?_
                    refine Lx.gT rfl rfl rfl ?_
                    refine Lx.y (mv rfl) rfl ?_
                    refine Lx.gT rfl rfl rfl ?_
                    refine Lx.y (geqS rfl rfl) rfl ?_
                    refine Lx.gT rfl rfl rfl ?_
                    refine Lx.y (pickT rfl rfl) rfl ?_
                    refine Lx.y (pickF rfl rfl) rfl ?_
                    refine Lx.y (asg rfl) rfl ?_
                    refine Lx.nil ?_
                    refine Xx.tn (k22 _ _ _ _ ?_)
                    refine Cx.ret ?_
                    first | exact Xx.rB1 rfl rfl rfl (Frag.le_refl _) rfl | exact Xx.rB1 rfl rfl (congrArg Value.bool (by rw [(next_le hr hlt hnp).2]; rfl)) (Frag.le_refl _) rfl | exact absurd hrn (next_le hr hlt hnp).1
                  · skip
                    have hrn := h23
                    refine Lx.gF rfl rfl rfl rfl ?_
                    refine Lx.gF rfl rfl rfl rfl ?_
                    refine Lx.gF rfl rfl rfl rfl ?_
                    refine Lx.gT rfl rfl rfl ?_
                    refine Lx.y (pickF rfl rfl) rfl ?_
                    refine Lx.y (pickF rfl rfl) rfl ?_
                    refine Lx.y (asg rfl) rfl ?_
                    refine Lx.nil ?_
                    refine Xx.tn (k22 _ _ _ _ ?_)
                    refine Cx.ret ?_
                    first | exact Xx.rB1 rfl rfl rfl (Frag.le_refl _) rfl | exact Xx.rB1 rfl rfl (congrArg Value.bool (by rw [(next_le hr hlt hnp).2]; rfl)) (Frag.le_refl _) rfl | exact absurd hrn (next_le hr hlt hnp).1
              · skip
                refine Lx.gF rfl rfl rfl rfl ?_
                refine Lx.gF rfl rfl rfl rfl ?_
                refine Lx.gF rfl rfl rfl rfl ?_
                refine Lx.gF rfl rfl rfl rfl ?_
                refine Lx.gF rfl rfl rfl rfl ?_
                refine Lx.gF rfl rfl rfl rfl ?_
                refine Lx.gU rfl rfl rfl rfl ?_
                refine Lx.gU rfl rfl rfl rfl ?_
                refine Lx.gU rfl rfl rfl rfl ?_
                refine Lx.gU rfl rfl rfl rfl ?_
                refine Lx.gU rfl rfl rfl rfl ?_
                refine Lx.gU rfl rfl rfl rfl ?_
                refine Lx.gF rfl rfl rfl rfl ?_
                refine Lx.gF rfl rfl rfl rfl ?_
                refine Lx.y (pickF rfl rfl) rfl ?_
                refine Lx.y (asg rfl) rfl ?_
                refine Lx.nil ?_
                refine Xx.tn (k16 _ _ _ _ ?_)
                refine Cx.seq (fun K24 k24 => ?_)
                refine Cx.region ?_
                refine Lx.y (mv rfl) rfl ?_
                refine Lx.y (not' rfl) rfl ?_
                refine Lx.y (mv rfl) rfl ?_
                refine Lx.gF rfl rfl rfl rfl ?_
                refine Lx.gF rfl rfl rfl rfl ?_
                refine Lx.gF rfl rfl rfl rfl ?_
                refine Lx.gU rfl rfl rfl rfl ?_
                refine Lx.gU rfl rfl rfl rfl ?_
                refine Lx.gU rfl rfl rfl rfl ?_
                refine Lx.gF rfl rfl rfl rfl ?_
                refine Lx.y (pickT rfl rfl) rfl ?_
                refine Lx.y (asg rfl) rfl ?_
                refine Lx.nil ?_
                refine Xx.tn (k24 _ _ _ _ ?_)
                refine Cx.ret ?_
                first | exact Xx.rB1 rfl rfl rfl (Frag.le_refl _) rfl | exact Xx.rB1 rfl rfl (congrArg Value.bool (by rw [(next_le hr hlt hnp).2]; rfl)) (Frag.le_refl _) rfl | exact absurd hrn (next_le hr hlt hnp).1
        · skip
          refine Lx.gF rfl rfl rfl rfl ?_
          refine Lx.gF rfl rfl rfl rfl ?_
          refine Lx.gF rfl rfl rfl rfl ?_
          refine Lx.gF rfl rfl rfl rfl ?_
          refine Lx.gU rfl rfl rfl rfl ?_
          refine Lx.gU rfl rfl rfl rfl ?_
          refine Lx.gU rfl rfl rfl rfl ?_
          refine Lx.gF rfl rfl rfl rfl ?_
          refine Lx.gT rfl rfl rfl ?_
          refine Lx.y (pickF rfl rfl) rfl ?_
          refine Lx.y (pickF rfl rfl) rfl ?_
          refine Lx.nil ?_
          refine Xx.tn (k10 _ _ _ _ ?_)
          refine Cx.condF rfl ?_
          refine Cx.skip ?_
          refine Xx.tn (k9 _ _ _ _ ?_)
          refine Cx.seq (fun K25 k25 => ?_)
          refine Cx.region ?_
          refine Lx.y (mv rfl) rfl ?_
          refine Lx.y (mv rfl) rfl ?_
          refine Lx.y (gtrS rfl rfl) rfl ?_
          refine Lx.y (mv rfl) rfl ?_
          refine Xx.ifB (t := 42) rfl (fun h26 => ?_) (fun h26 => ?_)
          · skip
            have hlt := h26
            refine Lx.gT rfl rfl rfl ?_
            refine Lx.y (mv rfl) rfl ?_
            refine Lx.gT rfl rfl rfl ?_
            refine Lx.y (lenS Tryd.underlying9 rfl) rfl ?_
            refine Lx.gT rfl rfl rfl ?_
            refine Lx.y (mv rfl) rfl ?_
            refine Lx.gT rfl rfl rfl ?_
            refine Lx.y (lenS Tryd.underlying9 rfl) rfl ?_
            refine Lx.gT rfl rfl rfl ?_
            refine Lx.y (geq rfl rfl) rfl ?_
            refine Lx.gT rfl rfl rfl ?_
            refine Lx.y (mv rfl) rfl ?_
            refine Xx.ifD (t := 48) rfl (fun h27 => ?_) (fun h27 => ?_)
            · skip
              refine Lx.gT rfl rfl rfl ?_
              refine Lx.y (mv rfl) rfl ?_
              refine Lx.gT rfl rfl rfl ?_
              refine Lx.y (mv rfl) rfl ?_
              refine Lx.gT rfl rfl rfl ?_
              refine Lx.y (lenS Tryd.underlying9 rfl) rfl ?_
              refine Lx.gT rfl rfl rfl ?_
              refine Lx.y (sl2S Tryd.underlying9 rfl rfl (by first | exact Int.toNat_natCast _ | rfl) (by omega) (by omega)) rfl ?_
              refine Lx.gT rfl rfl rfl ?_
              refine Lx.y (mv rfl) rfl ?_
              refine Lx.gT rfl rfl rfl ?_
              refine Lx.y (eqS rfl rfl) rfl ?_
              refine Lx.gT rfl rfl rfl ?_
              refine Lx.y (pickT rfl rfl) rfl ?_
              refine Lx.gT rfl rfl rfl ?_
              refine Lx.y (not' rfl) rfl ?_
              refine Lx.y (pickT rfl rfl) rfl ?_
              refine Lx.y (asg rfl) rfl ?_
              refine Lx.nil ?_
              refine Xx.tn (k25 _ _ _ _ ?_)
              refine Cx.seq (fun K28 k28 => ?_)
              refine Cx.region ?_
              refine Lx.y (mv rfl) rfl ?_
              refine Lx.y (not' rfl) rfl ?_
              refine Lx.y (mv rfl) rfl ?_
              refine Xx.ifB (t := 60) rfl (fun h29 => ?_) (fun h29 => ?_)
              · skip
                refine Lx.gF rfl rfl rfl rfl ?_
                refine Lx.gF rfl rfl rfl rfl ?_
                refine Lx.gF rfl rfl rfl rfl ?_
                refine Lx.gU rfl rfl rfl rfl ?_
                refine Lx.gU rfl rfl rfl rfl ?_
                refine Lx.gU rfl rfl rfl rfl ?_
                refine Lx.gF rfl rfl rfl rfl ?_
                refine Lx.y (pickT rfl rfl) rfl ?_
                refine Lx.y (asg rfl) rfl ?_
                refine Lx.nil ?_
                refine Xx.tn (k28 _ _ _ _ ?_)
                refine Cx.ret ?_
                first | exact Xx.rB1 rfl rfl rfl (Frag.le_refl _) rfl | exact Xx.rB1 rfl rfl (congrArg Value.bool (by rw [(next_le hr hlt hnp).2]; rfl)) (Frag.le_refl _) rfl | exact absurd hrn (next_le hr hlt hnp).1
              · skip
                have hnp : ¬ (s.length ≤ t.length ∧ t.take s.length = s) := fun z => absurd h29 (by rw [decide_eq_true z.2]; decide)
                refine Lx.gT rfl rfl rfl ?_
                refine Lx.y (mv rfl) rfl ?_
                refine Lx.gT rfl rfl rfl ?_
                refine Lx.y (neS rfl rfl) rfl ?_
                refine Lx.gT rfl rfl rfl ?_
                refine Lx.y (mv rfl) rfl ?_
                refine Xx.ifN (t := 63) rfl (fun h30 => ?_) (fun h30 => ?_)
                · skip
                  refine Lx.gT rfl rfl rfl ?_
                  refine Lx.y (mv rfl) rfl ?_
                  refine Lx.gT rfl rfl rfl ?_
                  refine Lx.y (mv rfl) rfl ?_
                  refine Lx.gT rfl rfl rfl ?_
                  refine Lx.y (geqS rfl rfl) rfl ?_
                  refine Lx.gT rfl rfl rfl ?_
                  refine Lx.y (pickT rfl rfl) rfl ?_
                  refine Lx.y (pickF rfl rfl) rfl ?_
                  refine Lx.y (asg rfl) rfl ?_
                  refine Lx.nil ?_
                  refine Xx.tn (k28 _ _ _ _ ?_)
                  refine Cx.ret ?_
                  first | exact Xx.rB1 rfl rfl rfl (Frag.le_refl _) rfl | exact Xx.rB1 rfl rfl (congrArg Value.bool (by rw [(next_le hr hlt hnp).2]; rfl)) (Frag.le_refl _) rfl | exact absurd hrn (next_le hr hlt hnp).1
                · skip
                  have hrn := h30
                  refine Lx.gF rfl rfl rfl rfl ?_
                  refine Lx.gF rfl rfl rfl rfl ?_
                  refine Lx.gF rfl rfl rfl rfl ?_
                  refine Lx.gT rfl rfl rfl ?_
                  refine Lx.y (pickF rfl rfl) rfl ?_
                  refine Lx.y (pickF rfl rfl) rfl ?_
                  refine Lx.y (asg rfl) rfl ?_
                  refine Lx.nil ?_
                  refine Xx.tn (k28 _ _ _ _ ?_)
                  refine Cx.ret ?_
                  first | exact Xx.rB1 rfl rfl rfl (Frag.le_refl _) rfl | exact Xx.rB1 rfl rfl (congrArg Value.bool (by rw [(next_le hr hlt hnp).2]; rfl)) (Frag.le_refl _) rfl | exact absurd hrn (next_le hr hlt hnp).1
            · skip
              have hnp : ¬ (s.length ≤ t.length ∧ t.take s.length = s) := fun z => h27 (by have := z.1; omega)
              refine Lx.gF rfl rfl rfl rfl ?_
              refine Lx.gF rfl rfl rfl rfl ?_
              refine Lx.gF rfl rfl rfl rfl ?_
              refine Lx.gF rfl rfl rfl rfl ?_
              refine Lx.gF rfl rfl rfl rfl ?_
              refine Lx.gF rfl rfl rfl rfl ?_
              refine Lx.gT rfl rfl rfl ?_
              refine Lx.y (pickF rfl rfl) rfl ?_
              refine Lx.gT rfl rfl rfl ?_
              refine Lx.y (not' rfl) rfl ?_
              refine Lx.y (pickT rfl rfl) rfl ?_
              refine Lx.y (asg rfl) rfl ?_
              refine Lx.nil ?_
              refine Xx.tn (k25 _ _ _ _ ?_)
              refine Cx.seq (fun K31 k31 => ?_)
              refine Cx.region ?_
              refine Lx.y (mv rfl) rfl ?_
              refine Lx.y (not' rfl) rfl ?_
              refine Lx.y (mv rfl) rfl ?_
              refine Lx.gT rfl rfl rfl ?_
              refine Lx.y (mv rfl) rfl ?_
              refine Lx.gT rfl rfl rfl ?_
              refine Lx.y (neS rfl rfl) rfl ?_
              refine Lx.gT rfl rfl rfl ?_
              refine Lx.y (mv rfl) rfl ?_
              refine Xx.ifN (t := 63) rfl (fun h32 => ?_) (fun h32 => ?_)
              · skip
                refine Lx.gT rfl rfl rfl ?_
                refine Lx.y (mv rfl) rfl ?_
                refine Lx.gT rfl rfl rfl ?_
                refine Lx.y (mv rfl) rfl ?_
                refine Lx.gT rfl rfl rfl ?_
                refine Lx.y (geqS rfl rfl) rfl ?_
                refine Lx.gT rfl rfl rfl ?_
                refine Lx.y (pickT rfl rfl) rfl ?_
                refine Lx.y (pickF rfl rfl) rfl ?_
                refine Lx.y (asg rfl) rfl ?_
                refine Lx.nil ?_
                refine Xx.tn (k31 _ _ _ _ ?_)
                refine Cx.ret ?_
                first | exact Xx.rB1 rfl rfl rfl (Frag.le_refl _) rfl | exact Xx.rB1 rfl rfl (congrArg Value.bool (by rw [(next_le hr hlt hnp).2]; rfl)) (Frag.le_refl _) rfl | exact absurd hrn (next_le hr hlt hnp).1
              · skip
                have hrn := h32
                refine Lx.gF rfl rfl rfl rfl ?_
                refine Lx.gF rfl rfl rfl rfl ?_
                refine Lx.gF rfl rfl rfl rfl ?_
                refine Lx.gT rfl rfl rfl ?_
                refine Lx.y (pickF rfl rfl) rfl ?_
                refine Lx.y (pickF rfl rfl) rfl ?_
                refine Lx.y (asg rfl) rfl ?_
                refine Lx.nil ?_
                refine Xx.tn (k31 _ _ _ _ ?_)
                refine Cx.ret ?_
                first | exact Xx.rB1 rfl rfl rfl (Frag.le_refl _) rfl | exact Xx.rB1 rfl rfl (congrArg Value.bool (by rw [(next_le hr hlt hnp).2]; rfl)) (Frag.le_refl _) rfl | exact absurd hrn (next_le hr hlt hnp).1
          · skip
            refine Lx.gF rfl rfl rfl rfl ?_
            refine Lx.gF rfl rfl rfl rfl ?_
            refine Lx.gF rfl rfl rfl rfl ?_
            refine Lx.gF rfl rfl rfl rfl ?_
            refine Lx.gF rfl rfl rfl rfl ?_
            refine Lx.gF rfl rfl rfl rfl ?_
            refine Lx.gU rfl rfl rfl rfl ?_
            refine Lx.gU rfl rfl rfl rfl ?_
            refine Lx.gU rfl rfl rfl rfl ?_
            refine Lx.gU rfl rfl rfl rfl ?_
            refine Lx.gU rfl rfl rfl rfl ?_
            refine Lx.gU rfl rfl rfl rfl ?_
            refine Lx.gF rfl rfl rfl rfl ?_
            refine Lx.gF rfl rfl rfl rfl ?_
            refine Lx.y (pickF rfl rfl) rfl ?_
            refine Lx.y (asg rfl) rfl ?_
            refine Lx.nil ?_
            refine Xx.tn (k25 _ _ _ _ ?_)
            refine Cx.seq (fun K33 k33 => ?_)
            refine Cx.region ?_
            refine Lx.y (mv rfl) rfl ?_
            refine Lx.y (not' rfl) rfl ?_
            refine Lx.y (mv rfl) rfl ?_
            refine Lx.gF rfl rfl rfl rfl ?_
            refine Lx.gF rfl rfl rfl rfl ?_
            refine Lx.gF rfl rfl rfl rfl ?_
            refine Lx.gU rfl rfl rfl rfl ?_
            refine Lx.gU rfl rfl rfl rfl ?_
            refine Lx.gU rfl rfl rfl rfl ?_
            refine Lx.gF rfl rfl rfl rfl ?_
            refine Lx.y (pickT rfl rfl) rfl ?_
            refine Lx.y (asg rfl) rfl ?_
            refine Lx.nil ?_
            refine Xx.tn (k33 _ _ _ _ ?_)
            refine Cx.ret ?_
            first | exact Xx.rB1 rfl rfl rfl (Frag.le_refl _) rfl | exact Xx.rB1 rfl rfl (congrArg Value.bool (by rw [(next_le hr hlt hnp).2]; rfl)) (Frag.le_refl _) rfl | exact absurd hrn (next_le hr hlt hnp).1
end Ke2
end Go.Proofs.YtcoiejmlpinpbaaDoor
