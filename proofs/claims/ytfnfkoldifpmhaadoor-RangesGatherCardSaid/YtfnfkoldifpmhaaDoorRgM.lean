/-
  Lists of looks and of touches that come in.
-/
import Derived.Test.YtfnfkoldifpmhaaDoorProg
import Derived.Test.YtfnfkoldifpmhaaDoorSlj
import Derived.Test.YtfnfkoldifpmhaaDoorRgL
import Derived.Test.YtfnfkoldifpmhaaDoorRgH
import Derived.Test.YtfnfkoldifpmhaaDoorSlk
import Derived.SizedLaws
import Derived.Deep.Strs
namespace Go.Proofs.YtfnfkoldifpmhaaDoor
open Go.SL Go.RowKit
set_option linter.unusedVariables false
set_option linter.unusedSimpArgs false
set_option maxRecDepth 100000
open Ke1 Ke3 Ke4 Ke5 Ke6 Ke7 Ke8 Ke9 KeA KeB KeC KeD KeE KeF KeG KeI RgC RgG RgH RgI RgJ
open Go.ChangeShapes Go.WideShapes Go.ChangeAt
namespace RgM


section
variable {H : Type} {enc : TypeId × Value → H}
theorem flat_of {α : Type} {en : α → List Value} {size : Nat} : ∀ (l : List α) (o : Nat) (cs : List Value), (∀ i (h : i < l.length), (cs.drop (o + i * size)).take size = en l[i]) → (cs.drop o).take (l.length * size) = l.flatMap en := by
  intro l
  induction l with
  | nil => intro o cs _; simp
  | cons x l ih =>
    intro o cs h
    have h0 := h 0 (by simp)
    rw [Nat.zero_mul, Nat.add_zero] at h0
    have h1 := ih (o + size) cs (fun i hi => by
      have := h (i + 1) (by simpa using hi)
      rw [Nat.succ_mul, Nat.add_comm (i * size), ← Nat.add_assoc] at this
      exact this)
    rw [List.length_cons, Nat.succ_mul, Nat.add_comm, List.take_add, h0, List.drop_drop, h1, List.flatMap_cons]; rfl
theorem choose_any {α : Type} {n : Nat} {Q : Nat → α → Prop} (h : ∀ i, i < n → ∃ x, Q i x) : ∃ l : List α, l.length = n ∧ ∀ i (hi : i < l.length), Q i l[i] := by
  induction n with
  | zero => exact ⟨[], rfl, fun i hi => by simp at hi⟩
  | succ n ih =>
    obtain ⟨l, hl, hall⟩ := ih (fun i hi => h i (by omega))
    obtain ⟨x, hx⟩ := h n (by omega)
    refine ⟨l ++ [x], by simp [hl], fun i hi => ?_⟩
    by_cases e : i < l.length
    · rw [List.getElem_append_left e]; exact hall i e
    · have hin : i = l.length := by simp at hi; omega
      subst hin
      rw [List.getElem_append_right (Nat.le_refl _)]
      simp only [Nat.sub_self, List.getElem_cons_zero]
      rw [hl]; exact hx
/-- A slice among the arguments, of elements that are told apart cell by cell. -/
theorem open_list {α : Type} {P : Program} {r : Reach} {b0 base' : Nat} {sp : Nat → Bool} {hd : Bool} {W : World} {t e : TypeId} {v : Value} {d : DataW H} {ps : List MemPlace} {size : Nat} (en : α → List Value) (Q : α → Prop) (he : ∀ x, (en x).length = size) (hz : 0 < size) (ht : P.underlying t = some (.slice e)) (hc : P.cellsOf e = size)
    (hval : Value.okWide P W r b0 t v) (h : DataW.Trod enc P W base' sp hd t v d ps)
    (hel : ∀ n cs y, DataW.trod enc P W base' sp hd n e cs = some y → (∀ k ∈ y.1.weights P e, k ∈ d.weights P t) → ∃ x, cs = en x ∧ Q x) :
    ∃ (A : Option Addr) (c : Nat) (l : List α), v = .slice A l.length c ∧ l.length ≤ 9223372036854775807 ∧ (0 < l.length → RoS (base W) size A l.length (l.flatMap en)) ∧ ∀ x ∈ l, Q x := by
  obtain ⟨a0, len0, cap0, rfl⟩ := okWide_slice ht hval
  obtain ⟨fuel, hf⟩ := h
  rcases DataW.trod_slice ht hf with ⟨hcs, _⟩ | ⟨a, len, cap, elems, rest, n, rfl, hcs, hx4, _, hl4, hm4, hlen4, hev, _, _⟩
  · simp [Value.cells] at hcs
    obtain ⟨rfl, rfl, rfl⟩ := hcs
    exact ⟨none, 0, [], rfl, by simp, fun h => by simp at h, fun x hx => by cases hx⟩
  · simp [Value.cells] at hcs
    obtain ⟨rfl, rfl, rfl⟩ := hcs
    have hdx : d = .slice (elems.map (·.1)) (rest.map (·.1)) := congrArg Prod.fst hx4
    have hex : ∀ i, i < len0 → ∃ x, W.cells? base' (a.add (i * size)) size = some (en x) ∧ Q x := by
      intro i hi
      have h1 := hev i hi
      rw [hc, List.getElem?_eq_getElem (by omega), Option.bind_eq_some_iff] at h1
      obtain ⟨cs', h2, h3⟩ := h1
      obtain ⟨x, rfl, hq⟩ := hel n cs' _ h3 (fun m hm => by
        rw [hdx]
        simp only [DataW.weights, ht, List.mem_cons, List.mem_append]
        exact .inr (.inl (weightsAll_mem (List.mem_map.2 ⟨_, List.getElem_mem (by omega), rfl⟩) hm)))
      exact ⟨x, h2, hq⟩
    obtain ⟨l, hl, hall⟩ := choose_any hex
    subst hl
    have hml : maxLen ≤ 9223372036854775807 := by decide
    refine ⟨some a, cap0, l, rfl, by omega, fun h0 => ?_, fun x hx => ?_⟩
    · obtain ⟨hs, cs, et, fz, hh, hd0⟩ := cells_row (hall 0 h0).1 hz
      rw [add_block] at hh
      have hsa : a.spot = none := by simpa [Addr.add] using hs
      refine ⟨flatG_len he l, .inr ⟨a.block, a.off, cs, et, fz, by rw [← hsa], hh, flat_of l a.off cs fun i hi => ?_⟩⟩
      obtain ⟨_, cs', et', fz', hh', hd'⟩ := cells_row (hall i hi).1 hz
      rw [add_block] at hh'
      rw [add_off] at hd'
      have e1 := hh.symm.trans hh'
      injection e1 with e1
      injection e1 with e1 e2 e3
      have e4 : cs = cs' := by simpa using congrArg Array.toList e1
      rw [e4]; exact hd'
    · obtain ⟨i, hi, rfl⟩ := List.getElem_of_mem hx
      exact (hall i hi).2
theorem open_reads {r : Reach} {b0 base' : Nat} {sp : Nat → Bool} {hd : Bool} {W : World} {v : Value} {d : DataW H} {ps : List MemPlace} (hval : Value.okWide Tryd.prog W r b0 42 v) (h : DataW.Trod enc Tryd.prog W base' sp hd 42 v d ps) :
    ∃ (A : Option Addr) (c : Nat) (l : List Rd), v = .slice A l.length c ∧ l.length ≤ 9223372036854775807 ∧ (0 < l.length → RoS (base W) 4 A l.length (l.flatMap rcs)) := by
  obtain ⟨A, c, l, h1, h2, h3, _⟩ := open_list rcs (fun _ => True) rcs_len (by decide) Tryd.underlying42 (by kernel_rfl) hval h (fun n cs y hy _ => let ⟨x, hx⟩ := open_read0 hy; ⟨x, hx, trivial⟩)
  exact ⟨A, c, l, h1, h2, h3⟩
theorem open_touches {r : Reach} {b0 base' : Nat} {sp : Nat → Bool} {hd : Bool} {W : World} {v : Value} {d : DataW H} {ps : List MemPlace} (hval : Value.okWide Tryd.prog W r b0 45 v) (h : DataW.Trod enc Tryd.prog W base' sp hd 45 v d ps) (hw : ∀ n ∈ d.weights Tryd.prog 45, n ≤ reachBytes) :
    ∃ (A : Option Addr) (c : Nat) (l : List Tc), v = .slice A l.length c ∧ l.length ≤ 9223372036854775807 ∧ (0 < l.length → RoS (base W) 16 A l.length (l.flatMap tcc)) ∧ ∀ t ∈ l, ∃ d, ValR (base W) d t.vo (vcs t.vo t.A1 t.c1 t.N1 t.d1) ∧ ValR (base W) d t.vn (vcs t.vn t.A2 t.c2 t.N2 t.d2) :=
  open_list tcc (fun t => ∃ d, ValR (base W) d t.vo (vcs t.vo t.A1 t.c1 t.N1 t.d1) ∧ ValR (base W) d t.vn (vcs t.vn t.A2 t.c2 t.N2 t.d2)) (fun x => rfl) (by decide) Tryd.underlying45 (by kernel_rfl) hval h fun n cs y hy hk => by
    obtain ⟨tb, sh, was, is, vo, vn, co, cn, d, rfl, h1, h2⟩ := open_touch0 hy (fun m hm => hw m (hk m hm))
    obtain ⟨A1, c1, N1, d1, rfl⟩ := ValR.shape h1
    obtain ⟨A2, c2, N2, d2, rfl⟩ := ValR.shape h2
    exact ⟨⟨tb, sh, was, is, vo, vn, A1, c1, N1, d1, A2, c2, N2, d2⟩, rfl, d, h1, h2⟩
end
end RgM
end Go.Proofs.YtfnfkoldifpmhaaDoor
