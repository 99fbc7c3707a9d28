/-
  Maps from numbers: made, asked, written, ranged over.
-/
import Derived.Test.YtgcebieihmlaoaaSlt
import Derived.ChangeMaps4
import Derived.Laws.IdiomRangeMap
namespace Go.SL
open Go.RowKit
open Go.ChangeMaps (setBlock)
set_option linter.unusedVariables false
set_option linter.unusedSimpArgs false
/-- An entry: its key, its value, its stamp. -/
abbrev Me := Int × Value × Nat
def me (t : Me) : MapEntry := ⟨.int .i64 t.1, t.2.1, t.2.2⟩
def Stp (T : List Me) (c : Nat) : Prop := (T.map fun t => t.2.2).Nodup ∧ ∀ t ∈ T, t.2.2 < c
def kvs (T : List Me) : List (Int × Value) := T.map fun t => (t.1, t.2.1)
abbrev mapObj (T : List Me) (c : Nat) : Obj := .map (T.map me).toArray c
/-- A map of one's own, with these pairs, as they came. -/
def imap (b : Nat) (l : List (Int × Value)) : HP := fun h => ∃ T c, Stp T c ∧ kvs T = l ∧ blk b (mapObj T c) h
def mget (k : Int) : List (Int × Value) → Option Value
  | [] => none
  | (j, v) :: l => if k = j then some v else mget k l
def mset (k : Int) (v : Value) : List (Int × Value) → List (Int × Value)
  | [] => [(k, v)]
  | (j, u) :: l => if k = j then (k, v) :: l else (j, u) :: mset k v l
def mdel (k : Int) : List (Int × Value) → List (Int × Value)
  | [] => []
  | (j, u) :: l => if k = j then l else (j, u) :: mdel k l
def mix (k : Int) : List Me → Option (Nat × Value)
  | [] => none
  | t :: T => if k = t.1 then some (0, t.2.1) else (mix k T).map fun p => (p.1 + 1, p.2)
theorem mix_get (k : Int) (T : List Me) : (mix k T).map (·.2) = mget k (kvs T) := by
  induction T with
  | nil => rfl
  | cons t T ih =>
    show _ = mget k ((t.1, t.2.1) :: kvs T)
    simp only [mix, mget]
    split
    · rfl
    · rw [← ih, Option.map_map]; rfl
theorem find_me (k : Int) : ∀ (T : List Me) (i : Nat), Instr.findNow (.int .i64) (.int .i64 k) (T.map me) i = some ((mix k T).map fun p => (i + p.1, p.2)) := by
  intro T
  induction T with
  | nil => intro i; rfl
  | cons t T ih =>
    intro i
    show (match Instr.sameNow (.int .i64) (.int .i64 k) (.int .i64 t.1) with | some true => some (some (i, t.2.1)) | some false => Instr.findNow (.int .i64) (.int .i64 k) (T.map me) (i + 1) | none => none) = _
    have e : Instr.sameNow (.int .i64) (.int .i64 k) (.int .i64 t.1) = some (k == t.1) := by simp [Instr.sameNow]
    rw [e]
    by_cases h : k = t.1
    · rw [beq_iff_eq.2 h]
      simp [mix, h]
    · rw [beq_eq_false_iff_ne.2 h]
      simp only [mix, if_neg h, ih, Option.map_map]
      congr 2
      funext p
      simp only [Function.comp_apply, Prod.mk.injEq, and_true]
      omega
section
variable {P : Program} {w : World} {t kt et : TypeId} {b c : Nat} {T : List Me} {k : Int}
theorem run_find (hk : P.underlying kt = some (.int .i64)) : (Instr.findKey kt (.int .i64 k) (T.map me)).run P w = .ok (mix k T) w := by
  simp only [Instr.findKey, Sem.run_bind, run_underlying hk, Result.andThen, find_me, Sem.run_pure]
  simp
theorem run_check (hk : P.underlying kt = some (.int .i64)) (e : Bool) : (Instr.checkKey e 10000 kt (.int .i64 k)).run P w = .ok () w := by
  have h : ∀ n, (Instr.checkKey e (n + 1) kt (.int .i64 k)).run P w = .ok () w := fun n => by simp [Instr.checkKey, run_underlying hk, Result.andThen]
  exact h 9999
theorem run_look (ht : P.underlying t = some (.map kt et)) (hk : P.underlying kt = some (.int .i64)) (hb : w.heap[b]? = some (mapObj T c)) {z : Value} (hz : (zeroValue et).run P w = .ok z w) (ok : Bool) :
    (Instr.lookup t (.map (some b)) (.int .i64 k) ok).run P w = .ok (if ok then .tuple #[(mget k (kvs T)).getD z, .bool (mget k (kvs T)).isSome] else (mget k (kvs T)).getD z) w := by
  rw [← mix_get]
  cases h : mix k T with
  | none => simp [Instr.lookup, run_underlying ht, MapKept.run_getObj_map hb, run_check hk, run_find hk, h, hz, Result.andThen]
  | some p => simp [Instr.lookup, run_underlying ht, MapKept.run_getObj_map hb, run_check hk, run_find hk, h, Result.andThen]
theorem mix_at : ∀ {T : List Me} {p : Nat × Value}, mix k T = some p → ∃ t, T[p.1]? = some t ∧ t.1 = k ∧ t.2.1 = p.2 := by
  intro T
  induction T with
  | nil => intro p h; cases h
  | cons t T ih =>
    intro p h
    simp only [mix] at h
    split at h
    · rename_i e
      cases h
      exact ⟨t, rfl, e.symm, rfl⟩
    · obtain ⟨q, hq, rfl⟩ := Option.map_eq_some_iff.1 h
      obtain ⟨u, h1, h2, h3⟩ := ih hq
      exact ⟨u, by simpa using h1, h2, h3⟩
def newV (k : Int) (v : Value) (t : Me) : Me := (k, v, t.2.2)
theorem kvs_mod {v : Value} : ∀ {T : List Me} {p : Nat × Value}, mix k T = some p → kvs (T.modify p.1 (newV k v)) = mset k v (kvs T) := by
  intro T
  induction T with
  | nil => intro p h; cases h
  | cons t T ih =>
    intro p h
    show _ = mset k v ((t.1, t.2.1) :: kvs T)
    simp only [mix] at h
    split at h
    · rename_i e
      cases h
      simp only [mset, if_pos e]
      rfl
    · rename_i e
      obtain ⟨q, hq, rfl⟩ := Option.map_eq_some_iff.1 h
      simp only [mset, if_neg e, ← ih hq]
      rfl
theorem kvs_push {v : Value} : ∀ {T : List Me}, mix k T = none → kvs (T ++ [(k, v, c)]) = mset k v (kvs T) := by
  intro T
  induction T with
  | nil => intro h; rfl
  | cons t T ih =>
    intro h
    show (t.1, t.2.1) :: kvs (T ++ [(k, v, c)]) = mset k v ((t.1, t.2.1) :: kvs T)
    simp only [mix] at h
    split at h
    · cases h
    · rename_i e
      simp only [mset, if_neg e]
      rw [ih (by simpa using h)]
theorem kvs_del : ∀ {T : List Me} {p : Nat × Value}, mix k T = some p → kvs (T.eraseIdx p.1) = mdel k (kvs T) := by
  intro T
  induction T with
  | nil => intro p h; cases h
  | cons t T ih =>
    intro p h
    show _ = mdel k ((t.1, t.2.1) :: kvs T)
    simp only [mix] at h
    split at h
    · rename_i e
      cases h
      simp only [mdel, if_pos e]
      rfl
    · rename_i e
      obtain ⟨q, hq, rfl⟩ := Option.map_eq_some_iff.1 h
      simp only [mdel, if_neg e, ← ih hq]
      rfl
theorem kvs_none : ∀ {T : List Me}, mix k T = none → mdel k (kvs T) = kvs T := by
  intro T
  induction T with
  | nil => intro h; rfl
  | cons t T ih =>
    intro h
    show mdel k ((t.1, t.2.1) :: kvs T) = (t.1, t.2.1) :: kvs T
    simp only [mix] at h
    split at h
    · cases h
    · rename_i e
      simp only [mdel, if_neg e]
      rw [ih (by simpa using h)]
theorem map_modify {α β : Type} (f : α → β) (g : α → α) (g' : β → β) (h : ∀ x, f (g x) = g' (f x)) : ∀ (l : List α) (j : Nat), (l.modify j g).map f = (l.map f).modify j g' := by
  intro l
  induction l with
  | nil => intro j; simp
  | cons x l ih =>
    intro j
    cases j with
    | zero => simp [h]
    | succ j => simp [ih]
theorem Stp.push {v : Value} (h : Stp T c) : Stp (T ++ [(k, v, c)]) (c + 1) := by
  obtain ⟨h1, h2⟩ := h
  refine ⟨?_, fun t ht => ?_⟩
  · rw [List.map_append, List.nodup_append]
    refine ⟨h1, by simp, fun a ha b hb => ?_⟩
    obtain ⟨t, ht, rfl⟩ := List.mem_map.1 ha
    have := h2 t ht
    simp at hb
    omega
  · rcases List.mem_append.1 ht with ht | ht
    · have := h2 t ht; omega
    · simp at ht; subst ht; exact Nat.lt_succ_self _
theorem Stp.stamps {T' : List Me} (h : Stp T c) (e : T'.map (fun t => t.2.2) = T.map fun t => t.2.2) : Stp T' c := by
  refine ⟨by rw [e]; exact h.1, fun t ht => ?_⟩
  have : t.2.2 ∈ T'.map (fun t => t.2.2) := List.mem_map.2 ⟨t, ht, rfl⟩
  rw [e] at this
  obtain ⟨u, hu, e2⟩ := List.mem_map.1 this
  rw [← e2]; exact h.2 u hu
theorem Stp.mod {v : Value} {j : Nat} (h : Stp T c) : Stp (T.modify j (newV k v)) c := h.stamps (by
  rw [map_modify (fun t : Me => t.2.2) (newV k v) id (fun x => rfl)]
  induction T.map (fun t : Me => t.2.2) generalizing j with
  | nil => simp
  | cons x l ih => cases j with
    | zero => simp
    | succ j => simp [ih])
theorem Stp.del {j : Nat} (h : Stp T c) : Stp (T.eraseIdx j) c :=
  ⟨(h.1).sublist ((List.eraseIdx_sublist T j).map _), fun t ht => h.2 t ((List.eraseIdx_sublist T j).subset ht)⟩
theorem run_mset (ht : P.underlying t = some (.map kt et)) (hk : P.underlying kt = some (.int .i64)) (hb : w.heap[b]? = some (mapObj T c)) (hs : Stp T c) (v : Value) :
    ∃ T' c', (Instr.mapUpdate t (.map (some b)) (.int .i64 k) v).run P w = .ok () (setBlock w b (mapObj T' c')) ∧ Stp T' c' ∧ kvs T' = mset k v (kvs T) := by
  cases h : mix k T with
  | none =>
    refine ⟨T ++ [(k, v, c)], c + 1, ?_, hs.push, kvs_push h⟩
    have e : ((T ++ [(k, v, c)]).map me).toArray = (T.map me).toArray.push ⟨.int .i64 k, v, c⟩ := by
      apply Array.toList_inj.1; simp [me]
    unfold mapObj
    rw [e]
    simp [Instr.mapUpdate, run_underlying ht, MapKept.run_getObj_map hb, run_check hk, run_find hk, h, MapKept.run_setObj_map _ hb, Result.andThen, setBlock]
  | some p =>
    refine ⟨T.modify p.1 (newV k v), c, ?_, hs.mod, kvs_mod h⟩
    obtain ⟨u, hu, hk1, hk2⟩ := mix_at h
    have e : ((T.modify p.1 (newV k v)).map me).toArray = (T.map me).toArray.modify p.1 (fun e => { e with key := .int .i64 k, val := v }) := by
      apply Array.toList_inj.1
      rw [map_modify me (newV k v) (fun e => { e with key := .int .i64 k, val := v }) (fun x => rfl)]
      simp
    have hst : (Instr.keyThatStays (.int .i64 k) (.int .i64 k)).run P w = .ok (.int .i64 k) w := by
      simp [Instr.keyThatStays, Instr.sameBits]
    have hkey : (((T.map me)[p.1]?).map (·.key)).getD (.int .i64 k) = .int .i64 k := by
      rw [List.getElem?_map, hu]; simp [me, hk1]
    unfold mapObj
    rw [e]
    simp only [Instr.mapUpdate, Sem.run_bind, run_underlying ht, MapKept.run_getObj_map hb, run_check hk, run_find hk, h, Result.andThen, List.getElem?_toArray, hkey, hst, MapKept.run_setObj_map _ hb]
    rfl
theorem run_mdel {ty : TypeId} (ht : P.underlying t = some (.map kt et)) (hk : P.underlying kt = some (.int .i64)) (hb : w.heap[b]? = some (mapObj T c)) (hs : Stp T c) (kt' : TypeId) :
    ∃ T', (Builtin.delete_ #[t, kt'] ty #[.map (some b), .int .i64 k]).run P w = .ok (.tuple #[]) (setBlock w b (mapObj T' c)) ∧ Stp T' c ∧ kvs T' = mdel k (kvs T) := by
  cases h : mix k T with
  | none =>
    refine ⟨T, ?_, hs, (kvs_none h).symm⟩
    simp [Builtin.delete_, run_underlying ht, MapKept.run_getObj_map hb, run_check hk, run_find hk, h, MapKept.run_setObj_map _ hb, Result.andThen, setBlock]
  | some p =>
    refine ⟨T.eraseIdx p.1, ?_, hs.del, kvs_del h⟩
    obtain ⟨u, hu, _⟩ := mix_at h
    have hj : p.1 < T.length := (List.getElem?_eq_some_iff.1 hu).1
    have e : ((T.eraseIdx p.1).map me).toArray = (T.map me).toArray.eraseIdxIfInBounds p.1 := by
      apply Array.toList_inj.1
      unfold Array.eraseIdxIfInBounds
      rw [dif_pos (by simpa using hj), ChangeMaps.map_eraseIdx]
      simp
    unfold mapObj
    rw [e]
    simp [Builtin.delete_, run_underlying ht, MapKept.run_getObj_map hb, run_check hk, run_find hk, h, MapKept.run_setObj_map _ hb, Result.andThen, setBlock]
end
class PickM (H : HP) (b : Nat) (l : outParam (List (Int × Value))) (R : outParam HP) : Prop where
  eq : H = imap b l * R
instance (b : Nat) (l : List (Int × Value)) (R : HP) : PickM (imap b l * R) b l R := ⟨rfl⟩
instance (y H : HP) (b : Nat) (l : List (Int × Value)) (R : HP) [h : PickM H b l R] : PickM (y * H) b l (y * R) := ⟨by rw [h.eq, star_left]⟩
theorem St.imap {N0 b : Nat} {B : Frag} {R : HP} {w : World} {l : List (Int × Value)} (s : St N0 B (SL.imap b l * R) w) : ∃ T c, Stp T c ∧ kvs T = l ∧ St N0 B (SL.blk b (mapObj T c) * R) w := by
  obtain ⟨ro, sz, k, hk, h1, h2, d, e, ⟨T, c, hs, hl, hb⟩, y⟩ := s
  exact ⟨T, c, hs, hl, ro, sz, k, hk, h1, h2, d, e, hb, y⟩
theorem St.of_imap {N0 b c : Nat} {B : Frag} {R : HP} {w : World} {T : List Me} (hs : Stp T c) (s : St N0 B (SL.blk b (mapObj T c) * R) w) : St N0 B (SL.imap b (kvs T) * R) w := by
  obtain ⟨ro, sz, k, hk, h1, h2, d, e, hb, y⟩ := s
  exact ⟨ro, sz, k, hk, h1, h2, d, e, ⟨T, c, hs, rfl, hb⟩, y⟩
theorem heap_setBlock_ne (w : World) (b : Nat) (o : Obj) (j : Nat) (h : j ≠ b) : (setBlock w b o).heap[j]? = w.heap[j]? := by
  simp only [setBlock, Array.getElem?_setIfInBounds]
  rw [if_neg (by omega)]
theorem St.setBlk {N0 b : Nat} {B : Frag} {R : HP} {w : World} {o : Obj} (h : St N0 B (SL.blk b o * R) w) (o' : Obj) : St N0 B (SL.blk b o' * R) (setBlock w b o') ∧ Below N0 w (setBlock w b o') := by
  obtain ⟨h1, h2, h3⟩ := h.blk
  have hlt : b < w.heap.size := (Array.getElem?_eq_some_iff.1 h1).1
  refine ⟨h.put (by simp [setBlock, hlt]) (fun j hj => heap_setBlock_ne _ _ _ _ hj) (by simp [setBlock]), ⟨rfl, rfl, rfl, by simp [setBlock], fun j hj => heap_setBlock_ne _ _ _ _ (by omega)⟩⟩
section
variable {e : Env} {ds : List Deferred} {ρ : Sl} {B : Frag} {H R : HP} {t kt et ty tk : TypeId} {x y z : Operand} {b : Nat} {l : List (Int × Value)} {k : Int} {v zv : Value}
/-- A map is made. -/
theorem mkM : Ox e ds (.makeMap t none) ty ρ B H (fun v B' H' => ∃ b, v = .map (some b) ∧ B' = B ∧ H' = imap b [] * H) :=
  .of_run (fun _ h => by cases h) fun f w dst pos after guard he s => by
    refine ⟨.map (some w.heap.size), w.alloc (mapObj [] 0), B, _, ?_, ⟨w.heap.size, rfl, rfl, rfl⟩, Frag.le_refl _, Below.alloc (Below.refl _ w) s.sz _, St.of_imap (T := []) ⟨by simp, fun t h => by cases h⟩ (s.alloc _)⟩
    simp [execOp, Instr.makeMap, Result.andThen]
    rfl
/-- What stands at a key; a map of one's own. -/
theorem lkM {P : Program} {N0 : Nat} (ht : P.underlying t = some (.map kt et)) (hk : P.underlying kt = some (.int .i64)) (hz : ∀ w, (zeroValue et).run P w = .ok zv w) (hx : ev ρ x = some (.map (some b))) (hy : ev ρ y = some (.int .i64 k)) [hp : PickM H b l R] (hv : (mget k l).getD zv = v) :
    Yx P (.lookup t x y false) ty ρ (St N0 B H) v := .of (fun _ h => by cases h) fun f w _ _ _ _ he s => by
  subst hv
  have s' : St N0 B (imap b l * R) w := hp.eq ▸ s
  obtain ⟨T, c, hs, rfl, s2⟩ := s'.imap
  simp [execOp, he _ _ hx, he _ _ hy, run_look ht hk s2.blk.1 (hz w), Result.andThen]
theorem lkM2 {P : Program} {N0 : Nat} (ht : P.underlying t = some (.map kt et)) (hk : P.underlying kt = some (.int .i64)) (hz : ∀ w, (zeroValue et).run P w = .ok zv w) (hx : ev ρ x = some (.map (some b))) (hy : ev ρ y = some (.int .i64 k)) [hp : PickM H b l R] :
    Yx P (.lookup t x y true) ty ρ (St N0 B H) (.tuple #[(mget k l).getD zv, .bool (mget k l).isSome]) := .of (fun _ h => by cases h) fun f w _ _ _ _ he s => by
  have s' : St N0 B (imap b l * R) w := hp.eq ▸ s
  obtain ⟨T, c, hs, rfl, s2⟩ := s'.imap
  simp [execOp, he _ _ hx, he _ _ hy, run_look ht hk s2.blk.1 (hz w), Result.andThen]
/-- A pair is laid. -/
theorem stM (ht : e.P.underlying t = some (.map kt et)) (hk : e.P.underlying kt = some (.int .i64)) (hx : ev ρ x = some (.map (some b))) (hy : ev ρ y = some (.int .i64 k)) (hz : ev ρ z = some v) [hp : PickM H b l R] :
    Ox e ds (.mapUpdate t x y z) ty ρ B H (fun _ B' H' => B' = B ∧ H' = imap b (mset k v l) * R) :=
  .of_skip (fun _ h => by cases h) fun f w _ _ _ _ he s => by
    have s' : St e.N0 B (imap b l * R) w := hp.eq ▸ s
    obtain ⟨T, c, hs, rfl, s2⟩ := s'.imap
    obtain ⟨T', c', hr, hs', hl'⟩ := run_mset ht hk s2.blk.1 hs v
    refine ⟨setBlock w b (mapObj T' c'), B, _, ?_, ⟨rfl, rfl⟩, Frag.le_refl _, (s2.setBlk _).2, by rw [← hl']; exact St.of_imap hs' (s2.setBlk _).1⟩
    simp [execOp, he _ _ hx, he _ _ hy, he _ _ hz, hr, Result.andThen]
/-- A pair goes. -/
theorem delM (ht : e.P.underlying t = some (.map kt et)) (hk : e.P.underlying kt = some (.int .i64)) (hx : ev ρ x = some (.map (some b))) (hy : ev ρ y = some (.int .i64 k)) [hp : PickM H b l R] :
    Ox e ds (.call { callee := .builtin .delete, args := #[x, y], argTypes := #[t, tk] }) ty ρ B H (fun v B' H' => v = .tuple #[] ∧ B' = B ∧ H' = imap b (mdel k l) * R) :=
  .of_run (fun _ h => by cases h) fun f w dst pos after guard he s => by
    have s' : St e.N0 B (imap b l * R) w := hp.eq ▸ s
    obtain ⟨T, c, hs, rfl, s2⟩ := s'.imap
    obtain ⟨T', hr, hs', hl'⟩ := run_mdel (ty := ty) ht hk s2.blk.1 hs tk
    refine ⟨_, setBlock w b (mapObj T' c), B, _, ?_, ⟨rfl, rfl, rfl⟩, Frag.le_refl _, (s2.setBlk _).2, by rw [← hl']; exact St.of_imap hs' (s2.setBlk _).1⟩
    simp [execOp, resolve, he _ _ hx, he _ _ hy, invoke, builtin, hr]
/-- A map is opened as its block, to be ranged over. -/
theorem Xx.openM {K : Act → World → Prop} (b : Nat) [hp : PickM H b l R] (h : ∀ T c, Stp T c → kvs T = l → Xx e ds K ρ B (blk b (mapObj T c) * R)) : Xx e ds K ρ B H := fun a w f bl s => by
  have s' : St e.N0 B (imap b l * R) w := hp.eq ▸ s
  obtain ⟨T, c, hs, hl, s2⟩ := s'.imap
  exact h T c hs hl a w f bl s2
theorem Xx.closeM {K : Act → World → Prop} (b : Nat) {T : List Me} {c : Nat} [hp : PickB H b (mapObj T c) R] (hs : Stp T c) (h : Xx e ds K ρ B (imap b (kvs T) * R)) : Xx e ds K ρ B H := fun a w f bl s => by
  have s' : St e.N0 B (blk b (mapObj T c) * R) w := hp.eq ▸ s
  exact h a w f bl (St.of_imap hs s')
/-- The going over a map's pairs, of which some were handed out. -/
abbrev itObj (b c : Nat) (done : List Me) : Obj := .mapIter (some b) c (done.map fun t => t.2.2).toArray c
/-- What was handed out is the map's, each once. -/
def Vis (T done : List Me) : Prop := (∀ t ∈ done, t ∈ T) ∧ (done.map fun t => t.2.2).Nodup
theorem Vis.nil (T : List Me) : Vis T [] := ⟨fun t h => absurd h List.not_mem_nil, List.nodup_nil⟩
theorem Vis.step {T done : List Me} {t : Me} (h : Vis T done) (ht : t ∈ T) (hn : t.2.2 ∉ done.map fun t => t.2.2) : Vis T (done ++ [t]) := by
  refine ⟨fun u hu => ?_, ?_⟩
  · rcases List.mem_append.1 hu with hu | hu
    · exact h.1 u hu
    · rw [List.mem_singleton.1 hu]; exact ht
  · rw [List.map_append, List.nodup_append]
    refine ⟨h.2, by simp, fun a ha b hb => ?_⟩
    simp at hb
    subst hb
    exact fun e => hn (e ▸ ha)
theorem stamp_inj : ∀ {T : List Me}, (T.map fun t => t.2.2).Nodup → ∀ {a b : Me}, a ∈ T → b ∈ T → a.2.2 = b.2.2 → a = b := by
  intro T
  induction T with
  | nil => intro _ a b ha; cases ha
  | cons t T ih =>
    intro hn a b ha hb e
    rw [List.map_cons, List.nodup_cons] at hn
    rcases List.mem_cons.1 ha with h1 | ha
    · rcases List.mem_cons.1 hb with h2 | hb
      · rw [h1, h2]
      · exact absurd (List.mem_map.2 ⟨b, hb, by rw [← e, h1]⟩) hn.1
    · rcases List.mem_cons.1 hb with h2 | hb
      · exact absurd (List.mem_map.2 ⟨a, ha, by rw [e, h2]⟩) hn.1
      · exact ih hn.2 ha hb e
theorem nodup_of_map {α β : Type} (f : α → β) : ∀ {l : List α}, (l.map f).Nodup → l.Nodup := by
  intro l
  induction l with
  | nil => intro _; exact List.nodup_nil
  | cons x l ih =>
    intro h
    rw [List.map_cons, List.nodup_cons] at h
    exact List.nodup_cons.2 ⟨fun hx => h.1 (List.mem_map.2 ⟨x, hx, rfl⟩), ih h.2⟩
theorem Vis.all {T done : List Me} {c : Nat} (h : Vis T done) (hs : Stp T c) (hall : ∀ t ∈ T, t.2.2 ∈ done.map fun t => t.2.2) : done.Perm T := by
  refine (List.perm_ext_iff_of_nodup (nodup_of_map _ h.2) (nodup_of_map _ hs.1)).2 fun t => ⟨fun ht => h.1 t ht, fun ht => ?_⟩
  obtain ⟨u, hu, e⟩ := List.mem_map.1 (hall t ht)
  rw [← stamp_inj hs.1 (h.1 u hu) ht e]; exact hu
theorem nodup_len {α : Type} : ∀ (l m : List α), l.Nodup → (∀ x ∈ l, x ∈ m) → l.length ≤ m.length := by
  classical
  intro l
  induction l with
  | nil => intro m _ _; simp
  | cons x l ih =>
    intro m hn hm
    rw [List.nodup_cons] at hn
    have hx := hm x (by simp)
    have := ih (m.erase x) hn.2 fun y hy => (List.mem_erase_of_ne (fun e => hn.1 (by rw [← e]; exact hy))).2 (hm y (by simp [hy]))
    rw [List.length_erase_of_mem hx] at this
    have := List.length_pos_of_mem hx
    simp; omega
theorem Vis.len {T done : List Me} (h : Vis T done) : done.length ≤ T.length := nodup_len _ _ (nodup_of_map _ h.2) h.1
/-- A going over a map begins. -/
theorem rgM {T : List Me} {c : Nat} (ht : e.P.underlying t = some (.map kt et)) (hx : ev ρ x = some (.map (some b))) [hp : PickB H b (mapObj T c) R] :
    Ox e ds (.range t x) ty ρ B H (fun v B' H' => ∃ i, v = .pointer (some ⟨i, 0, none⟩) ∧ B' = B ∧ H' = blk i (itObj b c []) * H) :=
  .of_run (fun _ h => by cases h) fun f w dst pos after guard he s => by
    have s' : St e.N0 B (blk b (mapObj T c) * R) w := hp.eq ▸ s
    have hr := run_range_map (P := e.P) w t kt et b _ _ ht s'.blk.1
    refine ⟨_, w.alloc (itObj b c []), B, _, ?_, ⟨w.heap.size, rfl, rfl, rfl⟩, Frag.le_refl _, Below.alloc (Below.refl _ w) s.sz _, s.alloc _⟩
    simp [execOp, he _ _ hx, hr, Result.andThen]
    rfl
/-- What is told of one step. -/
def nx : Option Me → Array Value
  | none => #[.bool false]
  | some t => #[.bool true, .int .i64 t.1, t.2.1]
theorem nx0 (o : Option Me) : (nx o)[0]? = some (.bool o.isSome) := by cases o <;> rfl
/-- What is left. -/
def After (T done : List Me) (done' : List Me) : Option Me → Prop
  | none => done' = done ∧ ∀ t ∈ T, t.2.2 ∈ done.map fun t => t.2.2
  | some t => done' = done ++ [t] ∧ t ∈ T ∧ t.2.2 ∉ done.map fun t => t.2.2
end
theorem run_nextM {P : Program} {w : World} {ty : TypeId} {b c i : Nat} {T done : List Me} (hs : Stp T c) (hb : w.heap[b]? = some (mapObj T c)) (hi : w.heap[i]? = some (itObj b c done)) (hT : ∀ t ∈ done, t ∈ T) :
    ∃ o done' w', (Instr.next (.pointer (some ⟨i, 0, none⟩)) false ty).run P w = .ok (.tuple (nx o)) w' ∧ After T done done' o ∧ ((w' = w ∧ done' = done) ∨ ∃ w1 : World, (w1 = w ∨ w1 = w.drew) ∧ w' = setBlock w1 i (itObj b c done')) := by
  have hold : ∀ x ∈ (T.map me).toArray.toList, x.born < c := fun x hx => by
    simp at hx
    obtain ⟨a, b', c', hm, rfl⟩ := hx
    exact hs.2 _ hm
  simp only [Instr.next, getObj, Sem.run_bind, Sem.run, hi, hb, Result.andThen, next_test_false _ _ c c hold (Nat.le_refl _), Bool.false_eq_true, if_false]
  have hmem : ∀ x ∈ ((T.map me).toArray.filter (fun e => !((done.map fun t => t.2.2).toArray).contains e.born)).toList, ∃ t ∈ T, t.2.2 ∉ (done.map fun t => t.2.2) ∧ x = me t := fun x hx => by
    simp at hx
    obtain ⟨⟨a, b', c', hm, rfl⟩, hn⟩ := hx
    exact ⟨(a, b', c'), hm, by simpa [me] using hn, rfl⟩
  have hnone : ((T.map me).toArray.filter (fun e => !((done.map fun t => t.2.2).toArray).contains e.born)) = #[] → ∀ t ∈ T, t.2.2 ∈ done.map fun t => t.2.2 := fun h t ht => by
    rw [Array.filter_eq_empty_iff] at h
    have := h (me t) (by simp; exact ⟨_, _, _, ht, rfl⟩)
    simpa [me] using this
  generalize ((T.map me).toArray.filter (fun e => !((done.map fun t => t.2.2).toArray).contains e.born)) = L at hmem hnone ⊢
  have e1 : L.filter (fun x => decide (x.born < c)) = L := Array.filter_eq_self.2 (fun x hx => by
    obtain ⟨t, ht, _, rfl⟩ := hmem x (by simpa using hx)
    have := hs.2 t ht
    exact decide_eq_true this)
  have e2 : L.filter (fun x => decide (x.born ≥ c)) = #[] := by
    rw [Array.filter_eq_empty_iff]
    intro x hx
    obtain ⟨t, ht, _, rfl⟩ := hmem x (by simpa using hx)
    have := hs.2 t ht
    simp [me]
    omega
  simp only [e1, e2, Array.append_empty]
  by_cases h0 : L.size = 0
  · have hL : L = #[] := Array.eq_empty_of_size_eq_zero h0
    refine ⟨none, done, w, ?_, ⟨rfl, hnone hL⟩, .inl ⟨rfl, rfl⟩⟩
    subst hL
    simp [choose, Sem.run, Question.forced, nx]
  · have hne : L.isEmpty = false := by simp [Array.isEmpty, h0]
    simp only [hne, Bool.false_eq_true, if_false, Array.empty_append, Array.size_map]
    have hch : ∃ (j : Nat) (w1 : World), j < L.size ∧ (w1 = w ∨ w1 = w.drew) ∧ (choose (Question.mapNext L.size)).run P w = .ok j w1 := by
      by_cases hf : L.size ≤ 1
      · exact ⟨0, w, by omega, .inl rfl, by simp [choose, Sem.run, Question.forced, hf]⟩
      · exact ⟨_, w.drew, Nat.mod_lt _ (by omega), .inr rfl, by
          simp only [choose, Sem.run, Question.forced, decide_eq_true_eq, hf, if_false, Question.cut]
          rfl⟩
    obtain ⟨j, w1, hj, hal, hrun⟩ := hch
    obtain ⟨t, ht, hn, hx⟩ := hmem L[j] (by simp)
    refine ⟨some t, done ++ [t], setBlock w1 i (itObj b c (done ++ [t])), ?_, ⟨rfl, ht, hn⟩, .inr ⟨w1, hal, rfl⟩⟩
    have hi1 : w1.heap[i]? = some (itObj b c done) := by rcases hal with rfl | rfl <;> exact hi
    have hset : (setObj i (.mapIter (some b) c ((done.map fun t => t.2.2).toArray.push (L[j]).born) c)).run P w1 = .ok () (setBlock w1 i (itObj b c (done ++ [t]))) := by
      have e9 : itObj b c (done ++ [t]) = .mapIter (some b) c ((done.map fun t => t.2.2).toArray.push (L[j]).born) c := by
        unfold itObj
        rw [hx]
        congr 1
        apply Array.toList_inj.1
        simp [me]
      rw [e9]
      simp only [setObj, Sem.run, hi1]
      rfl
    simp only [hrun, Array.getElem?_map, Array.getElem?_eq_getElem hj, Option.map_some, Sem.run_bind, hset, Result.andThen]
    rw [hx]
    rfl
section
variable {e : Env} {ds : List Deferred} {ρ : Sl} {B : Frag} {H R R2 : HP} {ty : TypeId} {x : Operand} {b i c : Nat} {T done : List Me}
/-- One step of it. -/
theorem nxM (hs : Stp T c) (hv : Vis T done) (hx : ev ρ x = some (.pointer (some ⟨i, 0, none⟩))) [h1 : PickB H i (itObj b c done) R] [h2 : PickB R b (mapObj T c) R2] :
    Ox e ds (.next x false) ty ρ B H (fun v B' H' => ∃ o done', v = .tuple (nx o) ∧ After T done done' o ∧ B' = B ∧ H' = blk i (itObj b c done') * R) :=
  .of_run (fun _ h => by cases h) fun f w dst pos after guard he s => by
    have s1 : St e.N0 B (blk i (itObj b c done) * R) w := h1.eq ▸ s
    have s2 : St e.N0 B (blk b (mapObj T c) * R2) w := h2.eq ▸ s1.drop
    obtain ⟨o, done', w', hr, ha, hw⟩ := run_nextM (P := e.P) (ty := ty) hs s2.blk.1 s1.blk.1 hv.1
    refine ⟨_, w', B, _, ?_, ⟨o, done', rfl, ha, rfl, rfl⟩, Frag.le_refl _, ?_⟩
    · simp [execOp, he _ _ hx, hr, Result.andThen]
    · rcases hw with ⟨rfl, rfl⟩ | ⟨w1, hal, rfl⟩
      · exact ⟨Below.refl _ _, s1⟩
      · have s3 : St e.N0 B (blk i (itObj b c done) * R) w1 := by
          rcases hal with rfl | rfl
          · exact s1
          · exact s1.drew
        have hb1 : Below e.N0 w w1 := by
          rcases hal with rfl | rfl
          · exact Below.refl _ _
          · exact ⟨rfl, rfl, rfl, Nat.le_refl _, fun _ _ => rfl⟩
        exact ⟨hb1.trans (s3.setBlk _).2, (s3.setBlk _).1⟩
end
end Go.SL
