/-
  The rules of the operations that read, write and make memory, over the states of the small separation logic.
-/
import Derived.Test.YtgcebieihmlaoaaSlc
import Derived.Deep.AppendSrc
namespace Go.SL
open Go.RowKit
set_option linter.unusedSimpArgs false
set_option linter.unusedVariables false

/-- Is a type's value made of parts? -/
def aggB : TypeDesc → Bool
  | .struct _ | .array _ _ => true
  | _ => false
theorem run_isAgg {P : Program} {t : TypeId} {d : TypeDesc} (h : P.underlying t = some d) (w : World) : (isAgg t).run P w = .ok (aggB d) w := by
  simp only [isAgg, Sem.run_bind, run_underlying h, Result.andThen]
  cases d <;> rfl

/-- A type's zero value (its cells), size and bytes. -/
def TI (P : Program) (t : TypeId) (z : List Value) (size bytes : Nat) : Prop :=
  ∃ i v, P.info? t = some i ∧ i.zero = some v ∧ v.cells = z.toArray ∧ i.size = size ∧ i.bytes = bytes ∧ z.length = size ∧ 0 < size
theorem TI.of {P : Program} {t : TypeId} {z : List Value} {size bytes : Nat} (h : (P.info? t).map (fun i => (i.zero.map (·.cells), i.size, i.bytes)) = some (some z.toArray, size, bytes)) (h2 : Nat.beq z.length size = true) (h3 : Nat.blt 0 size = true) : TI P t z size bytes := by
  cases hq : P.info? t with
  | none => simp [hq] at h
  | some i =>
    simp [hq] at h
    obtain ⟨⟨v, h1, h1'⟩, h4, h5⟩ := h
    exact ⟨i, v, hq, h1, h1', h4, h5, Nat.eq_of_beq_eq_true h2, by simpa [Nat.blt_eq] using h3⟩

theorem FO.of {P : Program} {t i off size : Nat} {g : Bool} {fs : Array Field} {fd : Field} {d : TypeDesc} (h1 : P.underlying t = some (.struct fs)) (h2 : fs[i]? = some fd) (h3 : fd.offset = off)
    (h4 : (P.info? fd.type).map (·.size) = some size) (h5 : P.underlying fd.type = some d) (h6 : aggB d = g) (h7 : Nat.blt 0 size = true) : FO P t i off size g := by
  cases hq : P.info? fd.type with
  | none => simp [hq] at h4
  | some j =>
    simp [hq] at h4
    exact ⟨fs, fd, j, h1, h2, h3, hq, h4, by simpa [Nat.blt_eq] using h7, funext fun w => by rw [run_isAgg h5, h6]⟩

theorem add_mk (b o n : Nat) : (⟨b, o, none⟩ : Addr).add n = ⟨b, o + n, none⟩ := by unfold Addr.add; split <;> simp_all

/-- The cells of a state, from a place on. -/
def Cells (N0 : Nat) (B : Frag) (H : HP) (b o : Nat) (vs : List Value) : Prop := ∀ w, St N0 B H w → ∀ j v, vs[j]? = some v → w.cell? ⟨b, o + j, none⟩ = some v

theorem cell_of_heap {w : World} {b o : Nat} {cs : List Value} {e : TypeId} {fz : Nat × Nat} {v : Value} (h : w.heap[b]? = some (.cells cs.toArray e fz)) (hv : cs[o]? = some v) : w.cell? ⟨b, o, none⟩ = some v := by
  simp [World.cell?, h, hv]

theorem Cells.own {N0 : Nat} {B : Frag} {H R : HP} {b o n : Nat} {cs vs : List Value} {e : TypeId} {fz : Nat × Nat} (hp : H = blk b (.cells cs.toArray e fz) * R) (hv : (cs.drop o).take n = vs) : Cells N0 B H b o vs := by
  intro w s j v hj
  subst hp hv
  refine cell_of_heap s.blk.1 ?_
  simp only [List.getElem?_take, List.getElem?_drop] at hj
  split at hj
  · exact hj
  · cases hj
theorem Cells.base {N0 : Nat} {B : Frag} {H : HP} {b o n : Nat} {cs vs : List Value} {e : TypeId} {fz : Nat × Nat} (hB : B b = some (.cells cs.toArray e fz)) (hv : (cs.drop o).take n = vs) : Cells N0 B H b o vs := by
  intro w s j v hj
  subst hv
  refine cell_of_heap (s.ro b _ hB) ?_
  simp only [List.getElem?_take, List.getElem?_drop] at hj
  split at hj
  · exact hj
  · cases hj

section
variable {P : Program} {ρ : Sl} {ty t t' : TypeId} {x y : Operand} {v u : Value} {N0 : Nat} {B : Frag} {H R : HP} {b o : Nat} {k k' : IntKind} {m n z : Int}

theorem fa' {i off size : Nat} {g : Bool} {S : World → Prop} (hF : FO P t i off size g) (hx : ev ρ x = some (.pointer (some ⟨b, o, none⟩))) : Yx P (.fieldAddr t x i) ty ρ S (.pointer (some ⟨b, o + off, none⟩)) := by
  rw [← add_mk]; exact fa hF hx

theorem ldW {S : World → Prop} {d : TypeDesc} (ht : P.underlying t = some d) (hd : aggB d = false) (hx : ev ρ x = some (.pointer (some ⟨b, o, none⟩))) (hc : ∀ w, S w → w.cell? ⟨b, o, none⟩ = some v) : Yx P (.load t x) ty ρ S v :=
  .of (fun _ h => by cases h) fun f w _ _ _ _ he s => by
    have h := run_isAgg (P := P) ht w
    rw [hd] at h
    simp [execOp, he _ _ hx, Instr.loadAt, Instr.sureAddr, loadVar, h, hc w s]
/-- A load of one cell out of a block of one's own. -/
theorem ld {d : TypeDesc} {cs : List Value} {e : TypeId} {fz : Nat × Nat} (ht : P.underlying t = some d) (hd : aggB d = false) (hx : ev ρ x = some (.pointer (some ⟨b, o, none⟩))) [hp : PickB H b (.cells cs.toArray e fz) R] (hv : cs[o]? = some v) :
    Yx P (.load t x) ty ρ (St N0 B H) v := ldW ht hd hx fun w s => cell_of_heap (hp.eq ▸ s : St N0 B _ w).blk.1 hv
/-- A load of one cell out of what is only read. -/
theorem ldB {d : TypeDesc} {cs : List Value} {e : TypeId} {fz : Nat × Nat} (ht : P.underlying t = some d) (hd : aggB d = false) (hx : ev ρ x = some (.pointer (some ⟨b, o, none⟩))) (hB : B b = some (.cells cs.toArray e fz)) (hv : cs[o]? = some v) :
    Yx P (.load t x) ty ρ (St N0 B H) v := ldW ht hd hx fun w s => cell_of_heap (s.ro b _ hB) hv
theorem ldC {d : TypeDesc} (ht : P.underlying t = some d) (hd : aggB d = false) (hx : ev ρ x = some (.pointer (some ⟨b, o, none⟩))) (hc : Cells N0 B H b o [v]) :
    Yx P (.load t x) ty ρ (St N0 B H) v := ldW ht hd hx fun w s => hc w s 0 v rfl
/-- A load of a value of many cells. -/
theorem ldA {d : TypeDesc} {vs : List Value} {size : Nat} (ht : P.underlying t = some d) (hd : aggB d = true) (hi : (P.info? t).map (·.size) = some size) (hx : ev ρ x = some (.pointer (some ⟨b, o, none⟩))) (hc : Cells N0 B H b o vs) (hl : vs.length = size) :
    Yx P (.load t x) ty ρ (St N0 B H) (.agg vs.toArray) := .of (fun _ h => by cases h) fun f w _ _ _ _ he s => by
  have h := run_isAgg (P := P) ht w
  rw [hd] at h
  have hcs := run_loadCells_list (P := P) w ⟨b, o, none⟩ vs (fun j v hj => by rw [add_mk]; exact hc w s j v hj)
  rw [hl] at hcs
  cases hq : P.info? t with
  | none => simp [hq] at hi
  | some i =>
    have hi' : i.size = size := by simpa [hq] using hi
    simp [execOp, he _ _ hx, Instr.loadAt, Instr.sureAddr, loadVar, h, sizeOf, typeInfo, hq, hi', hcs]

theorem heap_setRow_ne (w : World) (g : Nat) (cs : Array Value) (j : Nat) (h : j ≠ g) : (w.setRow g cs).heap[j]? = w.heap[j]? := by
  simp only [World.setRow, Array.getElem?_modify]
  rw [if_neg (by omega)]
theorem below_setRow {N0 : Nat} {w : World} {g : Nat} (h : N0 ≤ g) (cs : Array Value) : Below N0 w (w.setRow g cs) :=
  ⟨rfl, rfl, rfl, by simp [World.setRow], fun j hj => heap_setRow_ne _ _ _ _ (by omega)⟩
theorem St.setRow {cs : Array Value} {e : TypeId} {fz : Nat × Nat} {w : World} (h : St N0 B (SL.blk b (.cells cs e fz) * R) w) (cs' : Array Value) :
    St N0 B (SL.blk b (.cells cs' e fz) * R) (w.setRow b cs') ∧ Below N0 w (w.setRow b cs') :=
  ⟨h.put (setRow_heap _ _ _ _ _ _ h.blk.1) (fun j hj => heap_setRow_ne _ _ _ _ hj) (by simp [World.setRow]), below_setRow h.blk.2.2 _⟩

variable {e : Env} {ds : List Deferred}
/-- An operation that hands back a value and leaves a world. -/
theorem Ox.of_run {op : Op} {Φ : Value → Frag → HP → Prop} (hd : ∀ c, op ≠ .defer c)
    (h : ∀ (f : Operand → Value) (w : World) (dst : Option Tmp) (pos : String) (after : Array Edge) (guard : Option (Nat × Bool)), Ev ρ f → St e.N0 B H w →
      ∃ v w' B' H', (execOp f ⟨dst, op, ty, pos, after, guard⟩).run e.P w = .ok (.value v) w' ∧ Φ v B' H' ∧ B.le B' ∧ Below e.N0 w w' ∧ St e.N0 B' H' w') : Ox e ds op ty ρ B H Φ :=
  ⟨hd, fun a w dst pos after guard K Q f b s k => by
    obtain ⟨v, w', B', H', hr, hΦ, hB, hb, hs⟩ := h a.eval w dst pos after guard f.ev s
    rw [hr]
    exact k v B' H' w' hΦ hB (b.trans hb) hs⟩
theorem Ox.of_skip {op : Op} {Φ : Value → Frag → HP → Prop} (hd : ∀ c, op ≠ .defer c)
    (h : ∀ (f : Operand → Value) (w : World) (dst : Option Tmp) (pos : String) (after : Array Edge) (guard : Option (Nat × Bool)), Ev ρ f → St e.N0 B H w →
      ∃ w' B' H', (execOp f ⟨dst, op, ty, pos, after, guard⟩).run e.P w = .ok .skip w' ∧ Φ undef B' H' ∧ B.le B' ∧ Below e.N0 w w' ∧ St e.N0 B' H' w') : Ox e ds op ty ρ B H Φ :=
  ⟨hd, fun a w dst pos after guard K Q f b s k => by
    obtain ⟨w', B', H', hr, hΦ, hB, hb, hs⟩ := h a.eval w dst pos after guard f.ev s
    rw [hr]
    exact k undef B' H' w' hΦ hB (b.trans hb) hs⟩

/-- A store of one cell. -/
theorem stO {d : TypeDesc} {cs cs' : List Value} {et : TypeId} (ht : e.P.underlying t = some d) (hi : (e.P.info? t).map (·.size) = some 1) (hx : ev ρ x = some (.pointer (some ⟨b, o, none⟩))) (hy : ev ρ y = some v) (h1 : v.oneCell' = true)
    [hp : PickB H b (.cells cs.toArray et (0, 0)) R] (ho : o < cs.length) (hn : frc (cs.set o v) some = some cs') : Ox e ds (.store t x y) ty ρ B H (fun _ B' H' => B' = B ∧ H' = row b et cs' * R) :=
  .of_skip (fun _ h => by cases h) fun f w _ _ _ _ he s => by
    rw [← frc_eq hn]
    have s' : St e.N0 B (blk b (.cells cs.toArray et (0, 0)) * R) w := hp.eq ▸ s
    have hh := s'.blk.1
    have hv1 : v.cells = #[v] := by cases v <;> simp_all [Value.cells, Value.oneCell']
    have hst := run_storeCells_at (P := e.P) b o et [v] 0 cs.toArray w hh (by simp; omega) (by simpa using h1)
    have hl : (cs.take (o + 0) ++ [v] ++ cs.drop (o + 0 + 1)) = cs.set o v := by
      simp only [Nat.add_zero]
      rw [List.set_eq_take_append_cons_drop, if_pos ho]; simp
    simp only [List.toList_toArray, List.length_cons, List.length_nil, Nat.zero_add] at hst
    rw [hl] at hst
    cases hq : e.P.info? t with
    | none => simp [hq] at hi
    | some i =>
      have hi' : i.size = 1 := by simpa [hq] using hi
      refine ⟨_, B, _, ?_, ⟨rfl, rfl⟩, Frag.le_refl _, (s'.setRow (cs.set o v).toArray).2, (s'.setRow (cs.set o v).toArray).1⟩
      simp [execOp, he _ _ hx, he _ _ hy, Instr.storeAt, Instr.sureAddr, storeVar, sizeOf, typeInfo, hq, hi', hv1, hst]
/-- A store of many cells. -/
theorem stA {d : TypeDesc} {cs vs cs' : List Value} {et : TypeId} {size : Nat} (hi : (e.P.info? t).map (·.size) = some size) (hx : ev ρ x = some (.pointer (some ⟨b, o, none⟩))) (hy : ev ρ y = some (.agg vs.toArray)) (hl : vs.length = size) (h1 : vs.all (·.oneCell') = true)
    [hp : PickB H b (.cells cs.toArray et (0, 0)) R] (ho : o + vs.length ≤ cs.length) (hn : frc (cs.take o ++ vs ++ cs.drop (o + vs.length)) some = some cs') : Ox e ds (.store t x y) ty ρ B H (fun _ B' H' => B' = B ∧ H' = row b et cs' * R) :=
  .of_skip (fun _ h => by cases h) fun f w _ _ _ _ he s => by
    rw [← frc_eq hn]
    have s' : St e.N0 B (blk b (.cells cs.toArray et (0, 0)) * R) w := hp.eq ▸ s
    have hh := s'.blk.1
    have hst := run_storeCells_at (P := e.P) b o et vs 0 cs.toArray w hh (by simpa using ho) (by simpa using h1)
    simp only [List.toList_toArray, Nat.add_zero] at hst
    cases hq : e.P.info? t with
    | none => simp [hq] at hi
    | some i =>
      have hi' : i.size = size := by simpa [hq] using hi
      refine ⟨_, B, _, ?_, ⟨rfl, rfl⟩, Frag.le_refl _, (s'.setRow (cs.take o ++ vs ++ cs.drop (o + vs.length)).toArray).2, (s'.setRow _).1⟩
      simp only [execOp, he _ _ hx, he _ _ hy, Instr.storeAt, Instr.sureAddr, storeVar, sizeOf, typeInfo, Sem.run_bind, Result.andThen, Sem.run_pure, Value.cells, List.size_toArray, run_program, hq, hi', hl, ne_eq, not_true_eq_false, if_false, hst]

/-- A new block. -/
theorem newO {op : Op} {et : TypeId} {cs : List Value} (hd : ∀ c, op ≠ .defer c)
    (h : ∀ (f : Operand → Value) (w : World) (dst : Option Tmp) (pos : String) (after : Array Edge) (guard : Option (Nat × Bool)), Ev ρ f → St e.N0 B H w → (execOp f ⟨dst, op, ty, pos, after, guard⟩).run e.P w = .ok (.value (.pointer (some ⟨w.heap.size, 0, none⟩))) (w.alloc (.cells cs.toArray et (0, 0)))) :
    Ox e ds op ty ρ B H (fun v B' H' => ∃ b, v = .pointer (some ⟨b, 0, none⟩) ∧ B' = B ∧ H' = row b et cs * H) :=
  .of_run hd fun f w dst pos after guard he s => ⟨_, _, B, _, h f w dst pos after guard he s, ⟨_, rfl, rfl, rfl⟩, Frag.le_refl _, (Below.refl _ _).alloc s.sz _, s.alloc _⟩
theorem allocO {zs : List Value} {size bytes : Nat} (hz : TI e.P t zs size bytes) : Ox e ds (.alloc t) ty ρ B H (fun v B' H' => ∃ b, v = .pointer (some ⟨b, 0, none⟩) ∧ B' = B ∧ H' = row b t zs * H) :=
  newO (fun _ h => by cases h) fun f w _ _ _ _ he s => by
    obtain ⟨i, z, h1, h2, h3, h4, h5, h6, h7⟩ := hz
    simp [execOp, Instr.alloc, zeroValue, typeInfo, h1, h2, newVar, newRow, h3]
theorem boxO (hx : ev ρ x = some v) (h1 : v.oneCell' = true) : Ox e ds (.box t x) ty ρ B H (fun u B' H' => ∃ b, u = .pointer (some ⟨b, 0, none⟩) ∧ B' = B ∧ H' = row b t [v] * H) :=
  newO (fun _ h => by cases h) fun f w _ _ _ _ he s => by
    have hv1 : v.cells = #[v] := by cases v <;> simp_all [Value.cells, Value.oneCell']
    simp [execOp, Instr.box, newVar, newRow, he _ _ hx, hv1]
theorem boxA {vs : List Value} (hx : ev ρ x = some (.agg vs.toArray)) : Ox e ds (.box t x) ty ρ B H (fun u B' H' => ∃ b, u = .pointer (some ⟨b, 0, none⟩) ∧ B' = B ∧ H' = row b t vs * H) :=
  newO (fun _ h => by cases h) fun f w _ _ _ _ he s => by simp [execOp, Instr.box, newVar, newRow, he _ _ hx, Value.cells]

variable {ops : Array Oper} {rest : List Oper} {Q : Exit → Act → World → Prop}
theorem Lx.new {op : Op} {et : TypeId} {cs : List Value} {pos : String} {af : Array Edge} {d : Nat} (h : Ox e ds op ty ρ B H (fun v B' H' => ∃ b, v = .pointer (some ⟨b, 0, none⟩) ∧ B' = B ∧ H' = row b et cs * H)) (hd : Nat.blt d e.nt = true)
    (k : ∀ b, Lx e ds ops Q rest ((d, .pointer (some ⟨b, 0, none⟩)) :: ρ) B (row b et cs * H)) : Lx e ds ops Q (⟨some d, op, ty, pos, af, none⟩ :: rest) ρ B H :=
  Lx.o h hd fun v B' H' ⟨b, e1, e2, e3⟩ _ => by subst e1; subst e2; subst e3; exact k b
theorem Lx.st {op : Op} {pos : String} {af : Array Edge} {H2 : HP} (h : Ox e ds op ty ρ B H (fun _ B' H' => B' = B ∧ H' = H2)) (k : Lx e ds ops Q rest ρ B H2) : Lx e ds ops Q (⟨none, op, ty, pos, af, none⟩ :: rest) ρ B H :=
  Lx.o0 h fun v B' H' ⟨e1, e2⟩ _ => by subst e1; subst e2; exact k
end
end Go.SL
