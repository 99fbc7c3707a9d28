/-
  Looks and touches that come in.
-/
import Derived.Test.YtfnfkoldifpmhaaDoorProg
import Derived.Test.YtfnfkoldifpmhaaDoorSlj
import Derived.Test.YtfnfkoldifpmhaaDoorRgG
import Derived.Test.YtfnfkoldifpmhaaDoorSlk
import Derived.SizedLaws
import Derived.Deep.Strs
namespace Go.Proofs.YtfnfkoldifpmhaaDoor
open Go.SL Go.RowKit
set_option linter.unusedVariables false
set_option linter.unusedSimpArgs false
set_option maxRecDepth 100000
open Ke1 Ke3 Ke4 Ke5 Ke6 Ke7 Ke8 Ke9 KeA KeB KeC KeD KeE KeF KeG KeI RgC
open Go.ChangeShapes Go.WideShapes Go.ChangeAt
namespace RgH


section
variable {H : Type} {enc : TypeId × Value → H}
theorem open_span0 {W : World} {b0 : Nat} {sp : Nat → Bool} {hd : Bool} {fuel : Nat} {k0 k1 : Value} {x : DataW H × List MemPlace} (h : DataW.trod enc Tryd.prog W b0 sp hd fuel 34 [k0, k1] = some x) : ∃ lo hi : List UInt8, k0 = str lo ∧ k1 = str hi := by
  have c9 : Tryd.prog.cellsOf 9 = 1 := by kernel_rfl
  obtain ⟨y0, y1, n, rfl, hl, e0, e1⟩ := trod_struct2 Tryd.underlying34 h
  have g0 : DataW.trod enc Tryd.prog W b0 sp hd n 9 (List.take (Tryd.prog.cellsOf 9) [k0, k1]) = some y0 := e0
  have g1 : DataW.trod enc Tryd.prog W b0 sp hd n 9 (List.take (Tryd.prog.cellsOf 9) [k1]) = some y1 := e1
  rw [c9] at g0 g1
  obtain ⟨m0, q0, _, _⟩ := DataW.trod_string Tryd.underlying9 g0
  obtain ⟨m1, q1, _, _⟩ := DataW.trod_string Tryd.underlying9 g1
  injection q0 with q0 _
  injection q1 with q1 _
  subst q0 q1
  exact ⟨m0.data.toList, m1.data.toList, rfl, rfl⟩
theorem open_read0 {W : World} {b0 : Nat} {sp : Nat → Bool} {hd : Bool} {fuel : Nat} {cs : List Value} {x : DataW H × List MemPlace} (h : DataW.trod enc Tryd.prog W b0 sp hd fuel 36 cs = some x) : ∃ r : Rd, cs = rcs r := by
  have c9 : Tryd.prog.cellsOf 9 = 1 := by kernel_rfl
  have cS : Tryd.prog.cellsOf 34 = 2 := by kernel_rfl
  have cR : Tryd.prog.cellsOf 36 = 4 := by kernel_rfl
  obtain ⟨y0, y1, y2, n, rfl, hl, e0, e1, e2⟩ := Go.Deep.trod_struct3 Tryd.underlying36 h
  rw [cR] at hl
  match cs, hl with
  | [k0, k1, k2, k3], _ =>
    have g0 : DataW.trod enc Tryd.prog W b0 sp hd n 9 (List.take (Tryd.prog.cellsOf 9) [k0, k1, k2, k3]) = some y0 := e0
    have g1 : DataW.trod enc Tryd.prog W b0 sp hd n 9 (List.take (Tryd.prog.cellsOf 9) [k1, k2, k3]) = some y1 := e1
    have g2 : DataW.trod enc Tryd.prog W b0 sp hd n 34 (List.take (Tryd.prog.cellsOf 34) [k2, k3]) = some y2 := e2
    rw [c9] at g0 g1
    rw [cS] at g2
    obtain ⟨m0, q0, _, _⟩ := DataW.trod_string Tryd.underlying9 g0
    obtain ⟨m1, q1, _, _⟩ := DataW.trod_string Tryd.underlying9 g1
    obtain ⟨lo, hi, q2, q3⟩ := open_span0 g2
    injection q0 with q0 _
    injection q1 with q1 _
    subst q0 q1 q2 q3
    exact ⟨⟨m0.data.toList, m1.data.toList, lo, hi⟩, rfl⟩
theorem open_touch0 {W : World} {b0 : Nat} {sp : Nat → Bool} {hd : Bool} {fuel : Nat} {cs : List Value} {x : DataW H × List MemPlace} (h : DataW.trod enc Tryd.prog W b0 sp hd fuel 30 cs = some x) (hw : ∀ n ∈ x.1.weights Tryd.prog 30, n ≤ reachBytes) :
    ∃ (tb : List UInt8) (sh was is : Bool) (vo vn : V) (co cn : List Value) (d : Nat), cs = tcs tb sh co cn was is ∧ ValR (base W) d vo co ∧ ValR (base W) d vn cn := by
  have c9 : Tryd.prog.cellsOf 9 = 1 := by kernel_rfl
  have c4 : Tryd.prog.cellsOf 4 = 1 := by kernel_rfl
  have cV : Tryd.prog.cellsOf 26 = 6 := by kernel_rfl
  have cT : Tryd.prog.cellsOf 30 = 16 := by kernel_rfl
  obtain ⟨xs, n, rfl, rfl, hl, hlen, hf⟩ := DataW.trod_struct Tryd.underlying30 h
  rw [cT] at hl
  match cs, hl, xs, hlen with
  | [k0, k1, k2, k3, k4, k5, k6, k7, k8, k9, k10, k11, k12, k13, k14, k15], _, [y0, y1, y2, y3, y4, y5], _ =>
    have g0 : DataW.trod enc Tryd.prog W b0 sp hd n 9 (List.take (Tryd.prog.cellsOf 9) [k0, k1, k2, k3, k4, k5, k6, k7, k8, k9, k10, k11, k12, k13, k14, k15]) = some y0 := hf 0 _ rfl
    have g1 : DataW.trod enc Tryd.prog W b0 sp hd n 4 (List.take (Tryd.prog.cellsOf 4) [k1, k2, k3, k4, k5, k6, k7, k8, k9, k10, k11, k12, k13, k14, k15]) = some y1 := hf 1 _ rfl
    have g2 : DataW.trod enc Tryd.prog W b0 sp hd n 26 (List.take (Tryd.prog.cellsOf 26) [k2, k3, k4, k5, k6, k7, k8, k9, k10, k11, k12, k13, k14, k15]) = some y2 := hf 2 _ rfl
    have g3 : DataW.trod enc Tryd.prog W b0 sp hd n 26 (List.take (Tryd.prog.cellsOf 26) [k8, k9, k10, k11, k12, k13, k14, k15]) = some y3 := hf 3 _ rfl
    have g4 : DataW.trod enc Tryd.prog W b0 sp hd n 4 (List.take (Tryd.prog.cellsOf 4) [k14, k15]) = some y4 := hf 4 _ rfl
    have g5 : DataW.trod enc Tryd.prog W b0 sp hd n 4 (List.take (Tryd.prog.cellsOf 4) [k15]) = some y5 := hf 5 _ rfl
    rw [c9] at g0
    rw [c4] at g1 g4 g5
    rw [cV] at g2 g3
    have hwe : ∀ (j : Nat) (t : TypeId) (d : DataW H), [9, 4, 26, 26, 4, 4][j]? = some t → [y0.1, y1.1, y2.1, y3.1, y4.1, y5.1][j]? = some d → ∀ m ∈ d.weights Tryd.prog t, m ≤ reachBytes := fun j t d ht hd' m hm => hw m (by
      have : (DataW.agg (List.map (·.1) [y0, y1, y2, y3, y4, y5])).weights Tryd.prog 30 = DataW.weightsEach Tryd.prog [9, 4, 26, 26, 4, 4] [y0.1, y1.1, y2.1, y3.1, y4.1, y5.1] := by
        simp [DataW.weights, Tryd.underlying30]
      rw [this]
      exact DataW.weights_mem_each ht hd' m hm)
    obtain ⟨m0, q0, _, _⟩ := DataW.trod_string Tryd.underlying9 g0
    obtain ⟨m1, q1, _⟩ := DataW.trod_bool Tryd.underlying4 g1
    obtain ⟨m4, q4, _⟩ := DataW.trod_bool Tryd.underlying4 g4
    obtain ⟨m5, q5, _⟩ := DataW.trod_bool Tryd.underlying4 g5
    obtain ⟨vo, hvo⟩ := open_val0 n _ _ g2 (hwe 2 26 _ rfl rfl)
    obtain ⟨vn, hvn⟩ := open_val0 n _ _ g3 (hwe 3 26 _ rfl rfl)
    injection q0 with q0 _
    injection q1 with q1 _
    injection q4 with q4 _
    injection q5 with q5 _
    subst q0 q1 q4 q5
    exact ⟨m0.data.toList, m1, m4, m5, vo, vn, _, _, n, rfl, hvo, hvn⟩
/-- A look among the arguments, a touch. -/
theorem open_read {r : Reach} {b0 base' : Nat} {sp : Nat → Bool} {hd : Bool} {W : World} {v : Value} {d : DataW H} {ps : List MemPlace} (hval : Value.okWide Tryd.prog W r b0 36 v) (h : DataW.Trod enc Tryd.prog W base' sp hd 36 v d ps) : ∃ q : Rd, v = .agg (rcs q).toArray := by
  obtain ⟨cs, rfl, _⟩ := okWide_struct Tryd.underlying36 hval
  obtain ⟨fuel, hf⟩ := h
  obtain ⟨q, hq⟩ := open_read0 hf
  have hq' : cs.toList = rcs q := by simpa [Value.cells] using hq
  exact ⟨q, by rw [← hq']⟩
theorem open_touch {r : Reach} {b0 base' : Nat} {sp : Nat → Bool} {hd : Bool} {W : World} {v : Value} {d : DataW H} {ps : List MemPlace} (hval : Value.okWide Tryd.prog W r b0 30 v) (h : DataW.Trod enc Tryd.prog W base' sp hd 30 v d ps) (hw : ∀ n ∈ d.weights Tryd.prog 30, n ≤ reachBytes) :
    ∃ (tb : List UInt8) (sh was is : Bool) (vo vn : V) (co cn : List Value) (k : Nat), v = .agg (tcs tb sh co cn was is).toArray ∧ ValR (base W) k vo co ∧ ValR (base W) k vn cn := by
  obtain ⟨cs, rfl, _⟩ := okWide_struct Tryd.underlying30 hval
  obtain ⟨fuel, hf⟩ := h
  obtain ⟨tb, sh, was, is, vo, vn, co, cn, k, hq, h1, h2⟩ := open_touch0 hf hw
  have hq' : cs.toList = tcs tb sh co cn was is := by simpa [Value.cells] using hq
  exact ⟨tb, sh, was, is, vo, vn, co, cn, k, by rw [← hq'], h1, h2⟩
end
end RgH
end Go.Proofs.YtfnfkoldifpmhaaDoor
