/-
  Things to be done, and strikes, that come in.
-/
import Derived.Test.YtgcebieihmlaoaaProg
import Derived.Test.YtgcebieihmlaoaaSlj
import Derived.Test.YtgcebieihmlaoaaDkT
import Derived.Test.YtgcebieihmlaoaaSlk
import Derived.Test.YtgcebieihmlaoaaSly
import Derived.SizedLaws
import Derived.Deep.Strs
namespace Go.Proofs.Ytgcebieihmlaoaa
open Go.SL Go.RowKit
set_option linter.unusedVariables false
set_option linter.unusedSimpArgs false
set_option maxRecDepth 100000
open DkA DkB DkF DkQ
open Go.ChangeShapes Go.WideShapes Go.ChangeAt
namespace DkU


section
variable {H : Type} {enc : TypeId × Value → H}
theorem open_sk0 {W : World} {b0 : Nat} {sp : Nat → Bool} {hd : Bool} {fuel : Nat} {cs : List Value} {x : DataW H × List MemPlace} (h : DataW.trod enc Try.prog W b0 sp hd fuel 25 cs = some x) : ∃ r : Sk, cs = scs r := by
  have c3 : Try.prog.cellsOf 3 = 1 := by kernel_rfl
  have cU : Try.prog.cellsOf 23 = 1 := by kernel_rfl
  have cS : Try.prog.cellsOf 25 = 3 := by kernel_rfl
  obtain ⟨y0, y1, y2, n, rfl, hl, e0, e1, e2⟩ := Go.Deep.trod_struct3 Try.underlying25 h
  rw [cS] at hl
  match cs, hl with
  | [k0, k1, k2], _ =>
    have g0 : DataW.trod enc Try.prog W b0 sp hd n 3 (List.take (Try.prog.cellsOf 3) [k0, k1, k2]) = some y0 := e0
    have g1 : DataW.trod enc Try.prog W b0 sp hd n 23 (List.take (Try.prog.cellsOf 23) [k1, k2]) = some y1 := e1
    have g2 : DataW.trod enc Try.prog W b0 sp hd n 3 (List.take (Try.prog.cellsOf 3) [k2]) = some y2 := e2
    rw [c3] at g0 g2
    rw [cU] at g1
    obtain ⟨m0, q0, _, _⟩ := DataW.trod_int Try.underlying3 g0
    obtain ⟨m1, q1, _, w1⟩ := DataW.trod_int Try.underlying23 g1
    obtain ⟨m2, q2, _, _⟩ := DataW.trod_int Try.underlying3 g2
    injection q0 with q0 _
    injection q1 with q1 _
    injection q2 with q2 _
    obtain ⟨u, hu⟩ := u64_of w1
    subst q0 q2
    rw [q1, hu]
    exact ⟨⟨m0, u, m2⟩, rfl⟩
theorem open_sk {r : Reach} {b0 base' : Nat} {sp : Nat → Bool} {hd : Bool} {W : World} {v : Value} {d : DataW H} {ps : List MemPlace} (hval : Value.okWide Try.prog W r b0 25 v) (h : DataW.Trod enc Try.prog W base' sp hd 25 v d ps) : ∃ q : Sk, v = .agg (scs q).toArray := by
  obtain ⟨cs, rfl, _⟩ := okWide_struct Try.underlying25 hval
  obtain ⟨fuel, hf⟩ := h
  obtain ⟨q, hq⟩ := open_sk0 hf
  have hq' : cs.toList = scs q := by simpa [Value.cells] using hq
  exact ⟨q, by rw [← hq']⟩
theorem open_act0 {W : World} {b0 : Nat} {sp : Nat → Bool} {hd : Bool} {fuel : Nat} {cs : List Value} {x : DataW H × List MemPlace} (h : DataW.trod enc Try.prog W b0 sp hd fuel 37 cs = some x) : ∃ r : Ac, cs = acs r := by
  have c3 : Try.prog.cellsOf 3 = 1 := by kernel_rfl
  have cS : Try.prog.cellsOf 25 = 3 := by kernel_rfl
  have cA : Try.prog.cellsOf 37 = 7 := by kernel_rfl
  obtain ⟨xs, n, rfl, rfl, hl, hlen, hf⟩ := DataW.trod_struct Try.underlying37 h
  rw [cA] at hl
  match cs, hl, xs, hlen with
  | [k0, k1, k2, k3, k4, k5, k6], _, [y0, y1, y2, y3, y4], _ =>
    have g0 : DataW.trod enc Try.prog W b0 sp hd n 3 (List.take (Try.prog.cellsOf 3) [k0, k1, k2, k3, k4, k5, k6]) = some y0 := hf 0 _ rfl
    have g1 : DataW.trod enc Try.prog W b0 sp hd n 3 (List.take (Try.prog.cellsOf 3) [k1, k2, k3, k4, k5, k6]) = some y1 := hf 1 _ rfl
    have g2 : DataW.trod enc Try.prog W b0 sp hd n 3 (List.take (Try.prog.cellsOf 3) [k2, k3, k4, k5, k6]) = some y2 := hf 2 _ rfl
    have g3 : DataW.trod enc Try.prog W b0 sp hd n 3 (List.take (Try.prog.cellsOf 3) [k3, k4, k5, k6]) = some y3 := hf 3 _ rfl
    have g4 : DataW.trod enc Try.prog W b0 sp hd n 25 (List.take (Try.prog.cellsOf 25) [k4, k5, k6]) = some y4 := hf 4 _ rfl
    rw [c3] at g0 g1 g2 g3
    rw [cS] at g4
    obtain ⟨m0, q0, _, _⟩ := DataW.trod_int Try.underlying3 g0
    obtain ⟨m1, q1, _, _⟩ := DataW.trod_int Try.underlying3 g1
    obtain ⟨m2, q2, _, _⟩ := DataW.trod_int Try.underlying3 g2
    obtain ⟨m3, q3, _, _⟩ := DataW.trod_int Try.underlying3 g3
    obtain ⟨q, q4⟩ := open_sk0 g4
    injection q0 with q0 _
    injection q1 with q1 _
    injection q2 with q2 _
    injection q3 with q3 _
    have q5 : [k4, k5, k6] = scs q := q4
    subst q0 q1 q2 q3
    exact ⟨⟨m0, m1, m2, m3, q⟩, by unfold acs; rw [← q5]; rfl⟩
theorem open_acts {r : Reach} {b0 base' : Nat} {sp : Nat → Bool} {hd : Bool} {W : World} {v : Value} {d : DataW H} {ps : List MemPlace} (hval : Value.okWide Try.prog W r b0 22 v) (h : DataW.Trod enc Try.prog W base' sp hd 22 v d ps) :
    ∃ (A : Option Addr) (c : Nat) (l : List Ac), v = .slice A l.length c ∧ l.length ≤ 9223372036854775807 ∧ (0 < l.length → RoS (base W) 7 A l.length (l.flatMap acs)) := by
  obtain ⟨A, c, l, h1, h2, h3, _⟩ := open_list (size := 7) acs (fun _ => True) (fun _ => rfl) (by decide) Try.underlying22 (by kernel_rfl) hval h (fun n cs y hy _ => let ⟨x, hx⟩ := open_act0 hy; ⟨x, hx, trivial⟩)
  exact ⟨A, c, l, h1, h2, h3⟩
end
end DkU
end Go.Proofs.Ytgcebieihmlaoaa
