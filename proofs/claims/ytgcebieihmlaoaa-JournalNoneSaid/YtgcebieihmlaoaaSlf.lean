/-
  Slices, more: indexing, slicing, len, cap, copy, literals, make; bytes to texts and back.
-/
import Derived.Test.YtgcebieihmlaoaaSle
import Derived.Laws.BytesString
import Derived.Laws.MakeOwn
import Derived.Laws.BytesArg
import Derived.WalkSpells
import Derived.Laws.Cover3
namespace Go.SL
open Go.RowKit
set_option linter.unusedSimpArgs false
set_option linter.unusedVariables false

/-- Where a slice begins that is cut off another one. -/
def subA (A : Option Addr) (c l size : Nat) : Option Addr := if c = l then A else A.map (·.add (l * size))
theorem subA_none (c l size : Nat) : subA none c l size = none := by unfold subA; split <;> rfl

section
variable {P : Program} {ρ : Sl} {S : World → Prop} {ty t : TypeId} {x y : Operand} {v u : Value} {B : Frag} {H R : HP} {k k' : IntKind} {m z : Int} {n c b o size : Nat} {et : TypeId} {A : Option Addr}

theorem ia {ix : Operand} {j : Nat} (ht : P.underlying t = some (.slice et)) (hs : (P.info? et).map (·.size) = some size) (hx : ev ρ x = some (.slice (some ⟨b, o, none⟩) n c)) (hi : ev ρ ix = some (.int k m)) (hj : m.toNat = j) (h0 : 0 ≤ m) (h1 : m < n) :
    Yx P (.indexAddr t x ix) ty ρ S (.pointer (some ⟨b, o + j * size, none⟩)) := .of (fun _ h => by cases h) fun f w _ _ _ _ he _ => by
  subst hj
  cases hq : P.info? et with
  | none => simp [hq] at hs
  | some i =>
    have hi' : i.size = size := by simpa [hq] using hs
    simp [execOp, he _ _ hx, he _ _ hi, Instr.indexAt, asIntOf, run_underlying ht, h0, h1, sizeOf, typeInfo, hq, hi', add_mk]
theorem iaArr {ix : Operand} {len j : Nat} (ht : P.underlying t = some (.array len et)) (hs : (P.info? et).map (·.size) = some size) (hx : ev ρ x = some (.pointer (some ⟨b, o, none⟩))) (hi : ev ρ ix = some (.int k m)) (hj : m.toNat = j) (h0 : 0 ≤ m) (h1 : m < len) :
    Yx P (.indexAddr t x ix) ty ρ S (.pointer (some ⟨b, o + j * size, none⟩)) := .of (fun _ h => by cases h) fun f w _ _ _ _ he _ => by
  subst hj
  cases hq : P.info? et with
  | none => simp [hq] at hs
  | some i =>
    have hi' : i.size = size := by simpa [hq] using hs
    simp [execOp, he _ _ hx, he _ _ hi, Instr.indexAt, asIntOf, run_underlying ht, Instr.sureAddr, h0, h1, sizeOf, typeInfo, hq, hi', add_mk]
theorem ixArr {ix : Operand} {len : Nat} {cs : List Value} {d : TypeDesc} (ht : P.underlying t = some (.array len et)) (hs : (P.info? et).map (·.size) = some 1) (he' : P.underlying et = some d) (hd : aggB d = false) (hx : ev ρ x = some (.agg cs.toArray)) (hi : ev ρ ix = some (.int k m)) (h0 : 0 ≤ m) (h1 : m < len) (hv : cs[m.toNat]? = some v) :
    Yx P (.index t x ix) ty ρ S v := .of (fun _ h => by cases h) fun f w _ _ _ _ he _ => by
  have hg := run_isAgg he' w
  rw [hd] at hg
  have h9 : cs.toArray[m.toNat]? = some v := by simpa using hv
  cases hq : P.info? et with
  | none => simp [hq] at hs
  | some i =>
    have hi' : i.size = 1 := by simpa [hq] using hs
    simp only [execOp, he _ _ hx, he _ _ hi, Instr.index, asIntOf, Sem.run_bind, Sem.run_pure, Result.andThen, run_underlying ht, h0, h1, and_self, if_true, sizeOf, typeInfo, run_program, hq, hi', Nat.mul_one, part, hg, Bool.false_eq_true, if_false, h9]
theorem lenV {ty' : TypeId} (ht : P.underlying t = some (.slice et)) (hx : ev ρ x = some (.slice A n c)) : Yx P (.call { callee := .builtin .len, args := #[x], argTypes := #[t] }) ty ρ S (i64 n) := .of (fun _ h => by cases h) fun f w _ _ _ _ he _ => by
  simp [execOp, resolve, invoke, builtin, Builtin.len_, he _ _ hx, run_underlying ht, goInt]
theorem capV (ht : P.underlying t = some (.slice et)) (hx : ev ρ x = some (.slice A n c)) : Yx P (.call { callee := .builtin .cap, args := #[x], argTypes := #[t] }) ty ρ S (i64 c) := .of (fun _ h => by cases h) fun f w _ _ _ _ he _ => by
  simp [execOp, resolve, invoke, builtin, Builtin.cap_, he _ _ hx, run_underlying ht, goInt]
theorem eqNilV (ht : P.underlying t = some (.slice et)) (hx : ev ρ x = some (.slice A n c)) (hy : ev ρ y = some (.slice none 0 0)) {t' : TypeId} : Yx P (.binOp .eql t x y t') ty ρ S (.bool A.isNone) := .of (fun _ h => by cases h) fun f w _ _ _ _ he _ =>
  run_binOp (he _ _ hx) (he _ _ hy) (by simp [eqGuard]) (by
    have := Lib.run_eql_slice_nil (P := P) w t et A n c 0 0 ht
    exact this)

theorem run_sliceAt_slice {w : World} {lo hi : Option Value} {l h : Nat} (ht : P.underlying t = some (.slice et)) (hs : (P.info? et).map (·.size) = some size)
    (hb : (Instr.sliceBounds true n c lo hi none).run P w = .ok (l, h, c) w) :
    (Instr.sliceAt t (.slice A n c) lo hi none).run P w = .ok (.slice (subA A c l size) (h - l) (c - l)) w := by
  cases hq : P.info? et with
  | none => simp [hq] at hs
  | some i =>
    have hi' : i.size = size := by simpa [hq] using hs
    simp only [Instr.sliceAt, Sem.run_bind, run_underlying ht, Result.andThen, Instr.slice, hb, sizeOf, typeInfo, run_program, hq, hi', Sem.run_pure, subA]
theorem sl1V {lo : Operand} {j : Nat} (ht : P.underlying t = some (.slice et)) (hs : (P.info? et).map (·.size) = some size) (hx : ev ρ x = some (.slice A n c)) (hi : ev ρ lo = some (.int k m)) (hj : m.toNat = j) (h0 : 0 ≤ m) (h1 : m ≤ n) :
    Yx P (.slice t x (some lo) none none) ty ρ S (.slice (subA A c j size) (n - j) (c - j)) := .of (fun _ h => by cases h) fun f w _ _ _ _ he _ => by
  subst hj
  have := run_sliceAt_slice (P := P) (t := t) (w := w) (A := A) (n := n) (c := c) (lo := some (.int k m)) (hi := none) (l := m.toNat) (h := n) ht hs (by simp [Instr.sliceBounds, Instr.sliceBound, asIntOf, h0, h1])
  simp only [execOp, Option.map_some, Option.map_none, he _ _ hx, he _ _ hi, Sem.run_bind, this, Result.andThen, Sem.run_pure]
theorem add_zero (A : Option Addr) (hA : ∀ a, A = some a → a.spot = none) (c : Nat) : subA A c 0 size = A := by
  unfold subA
  split
  · rfl
  · cases A with
    | none => rfl
    | some a => simp [Addr.add]
theorem sl2V {hi : Operand} {j : Nat} (ht : P.underlying t = some (.slice et)) (hs : (P.info? et).map (·.size) = some size) (hx : ev ρ x = some (.slice A n c)) (hh : ev ρ hi = some (.int k m)) (hj : m.toNat = j) (h0 : 0 ≤ m) (h1 : m ≤ c) :
    Yx P (.slice t x none (some hi) none) ty ρ S (.slice A j c) := .of (fun _ h => by cases h) fun f w _ _ _ _ he _ => by
  subst hj
  have := run_sliceAt_slice (P := P) (t := t) (w := w) (A := A) (n := n) (c := c) (lo := none) (hi := some (.int k m)) (l := 0) (h := m.toNat) ht hs (by simp [Instr.sliceBounds, Instr.sliceBound, asIntOf, h0, h1])
  have e0 : subA A c 0 size = A := by
    unfold subA
    split
    · rfl
    · cases A with
      | none => rfl
      | some a => simp [Addr.add]
  simp only [execOp, Option.map_some, Option.map_none, he _ _ hx, he _ _ hh, Sem.run_bind, this, Result.andThen, Sem.run_pure, e0, Nat.sub_zero]
theorem sl3V {lo hi : Operand} {i j : Nat} (ht : P.underlying t = some (.slice et)) (hs : (P.info? et).map (·.size) = some size) (hx : ev ρ x = some (.slice A n c)) (hl : ev ρ lo = some (.int k m)) (hh : ev ρ hi = some (.int k' z)) (hi' : m.toNat = i) (hj : z.toNat = j) (h0 : 0 ≤ m) (hm : m ≤ z) (h1 : z ≤ c) :
    Yx P (.slice t x (some lo) (some hi) none) ty ρ S (.slice (subA A c i size) (j - i) (c - i)) := .of (fun _ h => by cases h) fun f w _ _ _ _ he _ => by
  subst hi'; subst hj
  have h2 : 0 ≤ z := by omega
  have h3 : m ≤ (z.toNat : Int) := by omega
  have := run_sliceAt_slice (P := P) (t := t) (w := w) (A := A) (n := n) (c := c) (lo := some (.int k m)) (hi := some (.int k' z)) (l := m.toNat) (h := z.toNat) ht hs (by simp [Instr.sliceBounds, Instr.sliceBound, asIntOf, h0, h1, h2]; omega)
  simp only [execOp, Option.map_some, Option.map_none, he _ _ hx, he _ _ hl, he _ _ hh, Sem.run_bind, this, Result.andThen, Sem.run_pure]

/-- Bytes as cells. -/
def u8s (l : List UInt8) : List Value := l.map fun b => .int .u8 (b.toNat : Nat)
theorem u8s_len (l : List UInt8) : (u8s l).length = l.length := by simp [u8s]

theorem fold_set (base : Nat) : ∀ (cs : List Value) (j : Nat) (l : List Value), base + j + cs.length ≤ l.length →
    (cs.zipIdx j).foldl (fun (a : Array Value) x => a.setIfInBounds (base + x.2) x.1) l.toArray = (l.take (base + j) ++ cs ++ l.drop (base + j + cs.length)).toArray := by
  intro cs
  induction cs with
  | nil => intro j l h; simp
  | cons v cs ih =>
    intro j l h
    simp only [List.zipIdx_cons, List.foldl_cons, List.setIfInBounds_toArray]
    rw [ih (j + 1) (l.set (base + j) v) (by simp at h ⊢; omega)]
    have := list_seg_step l (base + j) v cs (by simp at h; omega)
    rw [show base + (j + 1) = base + j + 1 by omega, this]
    simp [Nat.add_assoc, Nat.add_comm 1]
/-- A literal slice: each element one part. -/
theorem fill_all (size : Nat) : ∀ (vs : List Value) (j : Nat) (pre : List Value) (post : List Value), pre.length = j * size → (∀ v ∈ vs, v.cells.size = size) → post.length = vs.length * size →
    Instr.fill (fun i => some (i * size, size)) (pre ++ post).toArray ((vs.zipIdx j).map fun (v, i) => (i, v)) = some (pre ++ vs.flatMap (·.cells.toList)).toArray := by
  intro vs
  induction vs with
  | nil => intro j pre post h1 _ h3; simp at h3; simp [Instr.fill, h3]
  | cons v vs ih =>
    intro j pre post h1 h2 h3
    have hv := h2 v (by simp)
    simp only [List.zipIdx_cons, List.map_cons, Instr.fill]
    rw [if_neg (by
      simp only [ne_eq, hv, not_true_eq_false, false_or, List.size_toArray, List.length_append, h1, h3]
      simp [Nat.add_mul]; try omega)]
    have key : (v.cells.zipIdx.foldl (fun cs x => cs.setIfInBounds (j * size + x.2) x.1) (pre ++ post).toArray) = ((pre ++ v.cells.toList) ++ post.drop v.cells.size).toArray := by
      rw [← Array.foldl_toList, Array.toList_zipIdx]
      have := fold_set (j * size) v.cells.toList 0 (pre ++ post) (by simp [h1, hv, h3, Nat.add_mul]; try omega)
      rw [this]
      simp [← h1, hv]
    rw [key, ih (j + 1) (pre ++ v.cells.toList) (post.drop v.cells.size) (by simp [h1, hv, Nat.add_mul]) (fun u hu => h2 u (by simp [hu])) (by simp [h3, hv, Nat.add_mul])]
    simp

variable {e : Env} {ds : List Deferred} {ops : Array Oper} {rest : List Oper} {Q : Exit → Act → World → Prop}

/-- The values of a literal's parts, in order. -/
def evp (ρ : Sl) : Nat → List (Nat × Operand) → Option (List Value)
  | _, [] => some []
  | j, (i, x) :: xs => match Nat.beq i j, ev ρ x, evp ρ (j + 1) xs with
    | true, some v, some vs => some (v :: vs)
    | _, _, _ => none
theorem evp_map {f : Operand → Value} (h : Ev ρ f) : ∀ {xs : List (Nat × Operand)} {j : Nat} {vs : List Value}, evp ρ j xs = some vs → xs.map (fun (i, x) => (i, f x)) = (vs.zipIdx j).map fun (v, i) => (i, v) := by
  intro xs
  induction xs with
  | nil => intro j vs hv; simp [evp] at hv; simp [← hv]
  | cons a xs ih =>
    obtain ⟨i, x⟩ := a
    intro j vs hv
    simp only [evp] at hv
    split at hv
    · rename_i v us hij hx hs
      injection hv with hv
      subst hv
      have := Nat.eq_of_beq_eq_true hij
      subst this
      simp [h x v hx, ih hs]
    · simp at hv
theorem bslO {parts : Array (Nat × Operand)} {vs zs : List Value} {bytes len : Nat} (ht : e.P.underlying t = some (.slice et)) (hz : TI e.P et zs size bytes)
    (hp : evp ρ 0 parts.toList = some vs) (hl : vs.length = len) (hc : ∀ v ∈ vs, v.cells.size = size) (hb : len * size ≤ 16777216) :
    Ox e ds (.buildSlice t len parts) ty ρ B H (fun v B' H' => ∃ b, v = .slice (some ⟨b, 0, none⟩) len len ∧ B' = B ∧ H' = row b et (vs.flatMap (·.cells.toList)) * H) :=
  .of_run (fun _ h => by cases h) fun f w _ _ _ _ he s => by
    obtain ⟨i, zv, z1, z2, z3, z4, z5, z6, z7⟩ := hz
    have hpm : (parts.map fun (i, x) => (i, f x)) = ((vs.zipIdx 0).map fun (v, i) => (i, v)).toArray := by
      apply Array.toList_inj.1
      simp [evp_map he hp]
    obtain ⟨zz, hzz, hzl⟩ : ∃ zz : List Value, ((Array.range (len * size)).map (zv.cells[· % zv.cells.size]!)) = zz.toArray ∧ zz.length = len * size :=
      ⟨((Array.range (len * size)).map (zv.cells[· % zv.cells.size]!)).toList, (Array.toArray_toList).symm, by simp⟩
    have hfill := fill_all size vs 0 [] zz (by simp) hc (by rw [hzl, hl])
    simp only [List.nil_append] at hfill
    refine ⟨.slice (some ⟨w.heap.size, 0, none⟩) len len, w.alloc (.cells (vs.flatMap (·.cells.toList)).toArray et (0, 0)), B, _, ?_, ⟨_, rfl, rfl, rfl⟩, Frag.le_refl _, (Below.refl _ _).alloc s.sz _, s.alloc _⟩
    have hn : ¬ (len * size > 2 ^ 24) := by omega
    have hbs : (Instr.buildSlice t len ((vs.zipIdx 0).map fun (v, i) => (i, v)).toArray).run e.P w = .ok (.slice (some ⟨w.heap.size, 0, none⟩) len len) (w.alloc (.cells (vs.flatMap (·.cells.toList)).toArray et (0, 0))) := by
      unfold Instr.buildSlice
      by_cases h0 : len * size = 0
      · have hl0 : len = 0 := by
          rcases Nat.mul_eq_zero.1 h0 with h | h
          · exact h
          · omega
        have : vs = [] := List.eq_nil_of_length_eq_zero (by omega)
        subst this
        have hr0 : Array.range 0 = #[] := rfl
        simp [run_underlying ht, sizeOf, typeInfo, z1, z4, hl0, Instr.fill, newRow, hr0]
      · simp only [Sem.run_bind, run_underlying ht, Result.andThen, sizeOf, typeInfo, run_program, z1, z4, Sem.run_pure, hn, if_false, h0, zeroValue, z2, hzz, hfill]
        simp [newRow]
    simp only [execOp, hpm, Sem.run_bind, hbs, Result.andThen, Sem.run_pure]
theorem Lx.bsl {op : Op} {cs : List Value} {pos : String} {af : Array Edge} {d len : Nat} (h : Ox e ds op ty ρ B H (fun v B' H' => ∃ b, v = .slice (some ⟨b, 0, none⟩) len len ∧ B' = B ∧ H' = row b et cs * H)) (hd : Nat.blt d e.nt = true)
    (k : ∀ b, Lx e ds ops Q rest ((d, .slice (some ⟨b, 0, none⟩) len len) :: ρ) B (row b et cs * H)) : Lx e ds ops Q (⟨some d, op, ty, pos, af, none⟩ :: rest) ρ B H :=
  Lx.o h hd fun v B' H' ⟨b, e1, e2, e3⟩ _ => by subst e1; subst e2; subst e3; exact k b

theorem flat_one : ∀ {vs : List Value}, vs.all (·.oneCell') = true → vs.flatMap (·.cells.toList) = vs := by
  intro vs
  induction vs with
  | nil => intro _; rfl
  | cons v vs ih =>
    intro h
    simp only [List.all_cons, Bool.and_eq_true] at h
    have hv1 : v.cells = #[v] := by cases v <;> simp_all [Value.cells, Value.oneCell']
    simp [List.flatMap_cons, hv1, ih h.2]
theorem bsl1 {parts : Array (Nat × Operand)} {vs zs : List Value} {bytes len : Nat} (ht : e.P.underlying t = some (.slice et)) (hz : TI e.P et zs 1 bytes)
    (hp : evp ρ 0 parts.toList = some vs) (hl : vs.length = len) (h1 : vs.all (·.oneCell') = true) (hb : len ≤ 16777216) :
    Ox e ds (.buildSlice t len parts) ty ρ B H (fun v B' H' => ∃ b, v = .slice (some ⟨b, 0, none⟩) len len ∧ B' = B ∧ H' = row b et vs * H) := by
  have := bslO (ρ := ρ) (ds := ds) (B := B) (H := H) (ty := ty) ht hz hp hl (fun v hv => by
    have := List.all_eq_true.1 h1 v hv
    cases v <;> simp_all [Value.cells, Value.oneCell']) (by omega)
  rw [flat_one h1] at this
  exact this
/-- One part of many cells. -/
theorem bslA {x : Operand} {cs zs : List Value} {bytes : Nat} (ht : e.P.underlying t = some (.slice et)) (hz : TI e.P et zs size bytes)
    (hx : ev ρ x = some (.agg cs.toArray)) (hl : cs.length = size) (hb : size ≤ 16777216) :
    Ox e ds (.buildSlice t 1 #[(0, x)]) ty ρ B H (fun v B' H' => ∃ b, v = .slice (some ⟨b, 0, none⟩) 1 1 ∧ B' = B ∧ H' = row b et cs * H) := by
  have := bslO (ρ := ρ) (ds := ds) (B := B) (H := H) (ty := ty) (parts := #[(0, x)]) (vs := [.agg cs.toArray]) (len := 1) ht hz (by simp [evp, hx]) rfl (fun v hv => by
    simp at hv; subst hv; simpa [Value.cells] using hl) (by omega)
  simpa [Value.cells] using this
/-- make([]T, n, c) with one-celled elements. -/
theorem mksO {l c : Operand} {k1 k2 : IntKind} {a d : Int} {z : Value} {bytes : Nat} (ht : e.P.underlying t = some (.slice et)) (hz : TI e.P et [z] 1 bytes) (hl : ev ρ l = some (.int k1 a)) (hc : ev ρ c = some (.int k2 d))
    (h0 : 0 ≤ a) (h1 : a ≤ d) (h2 : d ≤ 9223372036854775807) (hb : d * bytes ≤ 140737488355328) :
    Ox e ds (.makeSlice t l c) ty ρ B H (fun v B' H' => ∃ b, v = .slice (some ⟨b, 0, none⟩) a.toNat d.toNat ∧ B' = B ∧ H' = row b et (List.replicate d.toNat z) * H) :=
  .of_run (fun _ h => by cases h) fun f w _ _ _ _ he s => by
    obtain ⟨i, zv, z1, z2, z3, z4, z5, z6, z7⟩ := hz
    have hm : madeCells zv.cells (d.toNat * i.size) = (List.replicate d.toNat z).toArray := by
      rw [z3, z4, Nat.mul_one]
      apply Array.toList_inj.1
      apply List.ext_getElem?
      intro j
      by_cases hj : j < d.toNat
      · have h2 : (j : Int) < d := by omega
        simp [madeCells, List.getElem?_replicate, hj, h2, Nat.mod_one]
      · have h2 : ¬ (j : Int) < d := by omega
        have h3 : (List.range d.toNat)[j]? = none := List.getElem?_eq_none (by simp; omega)
        simp [madeCells, List.getElem?_replicate, hj, h2, h3]
    have hr := run_make (P := e.P) w t et i zv ht z1 z2 k1 k2 a d h0 h1 (by rw [z5, Int.mul_comm]; omega) h2
    rw [hm] at hr
    refine ⟨_, _, B, _, ?_, ⟨_, rfl, rfl, rfl⟩, Frag.le_refl _, (Below.refl _ _).alloc s.sz _, s.alloc _⟩
    simp only [execOp, he _ _ hl, he _ _ hc, Sem.run_bind, hr, Result.andThen, Sem.run_pure]

/-- Bytes to a text. -/
theorem b2s {src dst : TypeId} {l : List UInt8} {p : HP} {N0 : Nat} (hs : P.underlying src = some (.slice et)) (he' : P.underlying et = some (.int .u8)) (hd : P.underlying dst = some .string) (hx : ev ρ x = some (.slice A n c))
    (hS : Src' B p 1 A n (u8s l)) (hH : H = p * R) : Yx P (.convert src dst x) ty ρ (St N0 B H) (str l) := .of (fun _ h => by cases h) fun f w _ _ _ _ he s => by
  obtain ⟨hl, hA⟩ := hS
  have hln : l.length = n := by simpa [u8s] using hl
  have hc : (convert src dst (.slice A n c)).run P w = .ok (str l) w := by
    rcases hA with ⟨h1, h2⟩ | ⟨b, o, h1, h2⟩
    · subst h1; subst h2
      rw [run_convert_bytes_nil w src et hs he' 0 c dst hd]
      have : l = [] := List.eq_nil_of_length_eq_zero hln
      subst this; rfl
    · subst h1
      have h3 := h2 N0 R w (hH ▸ s)
      rw [run_convert_bytes_arg w src et hs he' b o n c (l.map fun b => (b.toNat : Int)) (by simp [hln]) (fun i hi => by
        refine h3 i _ ?_
        simp [u8s, List.getElem?_map, List.getElem?_eq_getElem (show i < l.length by omega)]) dst hd]
      congr 1
      simp only [strOfNums, str, Value.string.injEq, ByteArray.mk.injEq, List.map_map]
      congr 1
      conv => rhs; rw [← List.map_id l]
      apply List.map_congr_left
      intro b _
      simp
  simp only [execOp, he _ _ hx, Sem.run_bind, hc, Result.andThen, Sem.run_pure]
theorem u8s_nil : u8s [] = [] := rfl
theorem u8s_cons {b : UInt8} {l : List UInt8} {vs : List Value} (h : u8s l = vs) : u8s (b :: l) = .int .u8 (b.toNat : Nat) :: vs := by rw [← h]; rfl
/-- A literal's bytes, to a text. -/
theorem b2sR {src dst : TypeId} {l : List UInt8} {vs : List Value} {N0 : Nat} {b0 : Nat} {fz : Nat × Nat} (hs : P.underlying src = some (.slice et)) (he' : P.underlying et = some (.int .u8)) (hd : P.underlying dst = some .string) (hx : ev ρ x = some (.slice (some ⟨b0, 0, none⟩) n c))
    [hp : PickB H b0 (.cells vs.toArray et fz) R] (hv : u8s l = vs) (hn : vs.length = n) : Yx P (.convert src dst x) ty ρ (St N0 B H) (str l) :=
  b2s hs he' hd hx (Src'.row (o := 0) (cs := vs) (fz := fz) (et := et) (by rw [hv, hn]; simp) (by rw [hv, ← hn]; simp)) hp.eq
end
end Go.SL
