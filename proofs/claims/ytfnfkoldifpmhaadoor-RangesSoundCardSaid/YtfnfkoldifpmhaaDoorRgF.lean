/-
  Three numbers that come in.
-/
import Derived.Test.YtfnfkoldifpmhaaDoorProg
import Derived.Test.YtfnfkoldifpmhaaDoorSlj
import Derived.Test.YtfnfkoldifpmhaaDoorRgE
import Derived.Test.YtfnfkoldifpmhaaDoorSlk
namespace Go.Proofs.YtfnfkoldifpmhaaDoor
open Go.SL Go.RowKit
set_option linter.unusedVariables false
set_option linter.unusedSimpArgs false
set_option maxRecDepth 100000
open Ke6 KeI
open Go.ChangeShapes Go.WideShapes Go.ChangeAt
namespace RgF


section
variable {H : Type} {enc : TypeId × Value → H} {P : Program}
theorem open_int3 {r : Reach} {b0 base' : Nat} {sp : Nat → Bool} {hd : Bool} {W : World} {t et : TypeId} {k : IntKind} {v : Value} {d : DataW H} {ps : List MemPlace} (ht : P.underlying t = some (.array 3 et)) (he : P.underlying et = some (.int k)) (hc : P.cellsOf et = 1) (hct : P.cellsOf t = 3)
    (hval : Value.okWide P W r b0 t v) (h : DataW.Trod enc P W base' sp hd t v d ps) : ∃ m n q, v = .agg [.int k m, .int k n, .int k q].toArray ∧ (Lit.int k m).wf = true ∧ (Lit.int k n).wf = true ∧ (Lit.int k q).wf = true := by
  unfold Value.okWide at hval
  rw [ht] at hval
  obtain ⟨cs, rfl, hsz, _⟩ := hval
  rw [hct] at hsz
  obtain ⟨fuel, hf⟩ := h
  obtain ⟨l⟩ := cs
  match l, hsz with
  | [c0, c1, c2], _ =>
    obtain ⟨xs, m, _, _, _, hlen, hel⟩ := DataW.trod_array ht hf
    match xs, hlen with
    | [y0, y1, y2], _ =>
      have e0 := hel 0 (by omega)
      have e1 := hel 1 (by omega)
      have e2 := hel 2 (by omega)
      simp [hc, Value.cells] at e0 e1 e2
      obtain ⟨n0, h0, _, w0⟩ := DataW.trod_int he e0
      obtain ⟨n1, h1, _, w1⟩ := DataW.trod_int he e1
      obtain ⟨n2, h2, _, w2⟩ := DataW.trod_int he e2
      simp at h0 h1 h2
      subst h0 h1 h2
      exact ⟨n0, n1, n2, rfl, w0, w1, w2⟩
end
end RgF
end Go.Proofs.YtfnfkoldifpmhaaDoor
