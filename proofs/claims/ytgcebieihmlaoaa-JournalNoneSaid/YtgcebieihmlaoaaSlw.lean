/-
  max of two numbers; zeros put behind a buffer; copy into a buffer's part, and out of one.
-/
import Derived.Test.YtgcebieihmlaoaaSlv
namespace Go.SL
open Go.RowKit
set_option linter.unusedVariables false
set_option linter.unusedSimpArgs false
section
variable {P : Program} {ρ : Sl} {S : World → Prop} {ty t t2 : TypeId} {x y : Operand} {v : Value}
theorem maxI {k : IntKind} {m n : Int} (hx : ev ρ x = some (.int k m)) (hy : ev ρ y = some (.int k n)) : Yx P (.call { callee := .builtin .max, args := #[x, y], argTypes := #[t, t2] }) ty ρ S (.int k (if n > m then n else m)) := .of (fun _ h => by cases h) fun f w _ _ _ _ he _ => by
  simp [execOp, resolve, invoke, builtin, Builtin.max_, Builtin.max2, he _ _ hx, he _ _ hy]
end
theorem zero_cells (z : Value) (n : Nat) : Builtin.zeroCells #[z] n = (List.replicate n z).toArray := by
  apply Array.toList_inj.1
  apply List.ext_getElem?
  intro i
  by_cases h : i < n
  · simp [Builtin.zeroCells, h, Nat.mod_one]
  · simp [Builtin.zeroCells, h]
section
variable {e : Env} {ds : List Deferred} {ρ : Sl} {B : Frag} {H R : HP} {t tx et et' ty tyx : TypeId} {x y : Operand} {nl nd c nx cx : Nat} {xs news : List Value} {A Ax : Option Addr} {z : Value} {bytes : Nat}
/-- append of so many zeros, one cell each. -/
theorem amS {k : IntKind} {m : Nat} (ht : e.P.underlying t = some (.slice et)) (htx : e.P.underlying tx = some (.int k)) (hz : TI e.P et [z] 1 bytes) (hx : ev ρ x = some (.slice A nl c)) (hy : ev ρ y = some (i64 m)) [hp : PickS H A et 1 nl c xs R]
    (hm : 0 < m) (h1 : z.oneCell' = true) (hb : nl + m ≤ 9223372036854775807) (hbb : (nl + m) * bytes ≤ 140737488355328) :
    Ox e ds (.call { callee := .builtin .append, args := #[x, y], argTypes := #[t, tx] }) ty ρ B H
      (fun v B' H' => ∃ A' c', v = .slice A' (nl + m) c' ∧ nl + m ≤ c' ∧ B' = B ∧ H' = sbuf et 1 A' (nl + m) c' (xs ++ List.replicate m z) * R) :=
  .of_run (fun _ h => by cases h) fun f w dst pos after guard he s => by
    have s0 := s.of_eq hp.eq
    obtain ⟨i, zv, z1, z2, z3, z4, z5, z6, z7⟩ := hz
    have z3' : zv.cells = #[z] := z3
    have hw : IntKind.i64.wrap (m : Int) = m := by rw [IntKind.wrap_i64]; omega
    have hneg : ¬ ((m : Int) < 0) := by omega
    have h48i : ¬ (281474976710656 < (m : Int) * (i.bytes : Int)) := by
      rw [← Int.natCast_mul, z5]
      have : m * bytes ≤ (nl + m) * bytes := Nat.mul_le_mul_right _ (by omega)
      omega
    have hm0 : ¬ (m * i.size = 0) := by rw [z4]; omega
    have grow : ∀ (olds : List Value), olds = xs → olds.length = nl → (Builtin.firstCells i.size nl (.slice A nl c)).run e.P w.drew = .ok olds.toArray w.drew → c < nl + m → St e.N0 B R w →
        ∃ v w' B' H', (execOp f ⟨dst, .call { callee := .builtin .append, args := #[x, y], argTypes := #[t, tx] }, ty, pos, after, guard⟩).run e.P w = .ok (.value v) w' ∧
          (∃ A' c', v = .slice A' (nl + m) c' ∧ nl + m ≤ c' ∧ B' = B ∧ H' = sbuf et 1 A' (nl + m) c' (xs ++ List.replicate m z) * R) ∧ B.le B' ∧ Below e.N0 w w' ∧ St e.N0 B' H' w' := by
      intro olds heq hol hfc hlt sR
      have hcap := nextslicecap_le (need := nl + m) (old := c) hlt
      have hge : nl + m ≤ grownCap w (nl + m) c et := by unfold grownCap Question.cut; simp
      have hfit : Builtin.nextslicecap (nl + m) c * i.bytes ≤ 281474976710656 := by
        rw [z5]
        calc Builtin.nextslicecap (nl + m) c * bytes ≤ (2 * (nl + m)) * bytes := Nat.mul_le_mul_right _ hcap
          _ = 2 * ((nl + m) * bytes) := by rw [Nat.mul_assoc]
          _ ≤ 281474976710656 := by omega
      have h63' : ¬ (9223372036854775807 < ((nl : Int) + (m : Int))) := by omega
      have h48' : ¬ (281474976710656 < Builtin.nextslicecap (nl + m) c * i.bytes) := by omega
      have hn : ¬ (nl + m ≤ c) := by omega
      have hr : (Builtin.append_ #[t, tx] ty #[.slice A nl c, i64 m]).run e.P w = .ok (.slice (some ⟨w.heap.size, 0, none⟩) (nl + m) (grownCap w (nl + m) c et)) (w.drew.alloc (.cells (olds ++ List.replicate m z ++ List.replicate (grownCap w (nl + m) c et - (nl + m)) z).toArray et (0, 0))) := by
        simp [Builtin.append_, run_underlying ht, run_underlying htx, sizeOf, typeInfo, zeroValue, z1, z2, asInt, asIntOf, hw, hneg, hn, hm0, h63', h48', h48i, Question.forced, hfc, newRow, grownCap, z3', zero_cells]
        congr 2
        apply Array.toList_inj.1
        simp
      refine ⟨.slice (some ⟨w.heap.size, 0, none⟩) (nl + m) (grownCap w (nl + m) c et), w.drew.alloc (.cells (olds ++ List.replicate m z ++ List.replicate (grownCap w (nl + m) c et - (nl + m)) z).toArray et (0, 0)), B, _, ?_, ⟨_, _, rfl, hge, rfl, rfl⟩, Frag.le_refl _, ((Below.refl _ _).drew).alloc s.sz _, ?_⟩
      · simp [execOp, resolve, he _ _ hx, he _ _ hy, invoke, builtin, hr]
      · subst heq
        exact St.of_sbuf (sp := List.replicate (grownCap w (nl + m) c et - (nl + m)) z) (by simp [hol]) hge (by simp [hol]; omega) (sR.drew.alloc _)
    rcases s0.cases_sbuf with ⟨e1, e2, e3, e4, s'⟩ | ⟨b, sp, e1, e2, e3, e4, s'⟩
    · subst e1; subst e2; subst e3; subst e4
      exact grow [] rfl rfl (by simp [Builtin.firstCells]) (by omega) s'
    · subst e1
      have hxl : xs.length = nl := by omega
      rw [List.length_append] at e4
      by_cases hroom : nl + m ≤ c
      · have hst := run_storeCells_at (P := e.P) b (0 + nl * 1) et (List.replicate m z) 0 (xs ++ sp).toArray w s'.blk.1 (by simp; omega) (by intro v hv; rw [List.eq_of_mem_replicate hv]; exact h1)
        simp only [List.toList_toArray, Nat.add_zero] at hst
        have hcs : (xs ++ sp).take (0 + nl * 1) ++ List.replicate m z ++ (xs ++ sp).drop (0 + nl * 1 + (List.replicate m z).length) = xs ++ List.replicate m z ++ sp.drop m := by
          rw [List.length_replicate, show 0 + nl * 1 = xs.length by omega, List.take_left, List.drop_append, List.drop_of_length_le (by omega), List.nil_append, show xs.length + m - xs.length = m by omega]
        rw [hcs] at hst
        have hap : (Builtin.append_ #[t, tx] ty #[.slice (some ⟨b, 0, none⟩) nl c, i64 m]).run e.P w = .ok (.slice (some ⟨b, 0, none⟩) (nl + m) c) (w.setRow b (xs ++ List.replicate m z ++ sp.drop m).toArray) := by
          simp [Builtin.append_, run_underlying ht, run_underlying htx, sizeOf, typeInfo, zeroValue, z1, z2, z4, asInt, asIntOf, hw, hneg, hroom, h48i, z3', zero_cells, add_mk]
          have hm1 : ¬ m = 0 := by omega
          simp at hst
          simp [hm1, hst]
        refine ⟨_, _, B, _, ?_, ⟨_, _, rfl, hroom, rfl, rfl⟩, Frag.le_refl _, (s'.setRow _).2, St.of_sbuf (sp := sp.drop m) (by simp [hxl]) hroom (by simp [hxl]; omega) (s'.setRow _).1⟩
        simp [execOp, resolve, he _ _ hx, he _ _ hy, invoke, builtin, hap]
      · have hfc : (Builtin.firstCells i.size nl (.slice (some ⟨b, 0, none⟩) nl c)).run e.P w.drew = .ok xs.toArray w.drew :=
          run_firstCells_some w.drew i.size nl _ nl c xs (by rw [z4]; omega) fun j v hj => by
            rw [add_mk]
            refine cell_of_heap s'.drew.blk.1 ?_
            rw [Nat.zero_add, List.getElem?_append_left (List.getElem?_eq_some_iff.1 hj).1]
            exact hj
        exact grow xs rfl hxl hfc (by omega) s'.drop
/-- A buffer's part, as a source. -/
theorem SrcH.buf {N0 n b f m : Nat} [hp : PickS H (some ⟨b, 0, none⟩) et 1 n c xs R] (hx : xs.length = n) (hm : f + m ≤ n) (hn : n ≤ c) : SrcH N0 B H (subA (some ⟨b, 0, none⟩) c f 1) ((xs.drop f).take m) := by
  by_cases h0 : m = 0
  · subst h0; exact .inl (by simp)
  have e9 : subA (some ⟨b, 0, none⟩) c f 1 = some ⟨b, 0 + f * 1, none⟩ := by
    unfold subA; rw [if_neg (by omega)]; simp [add_mk]
  rw [e9]
  refine .inr ⟨b, 0 + f * 1, rfl, fun w s j v hj => ?_⟩
  rw [show 0 + f * 1 = f by omega]
  exact Cells.buf (b := b) (o := f) (m := m) rfl (by omega) w s j v hj
/-- copy into a buffer's part. -/
theorem cpS {n k : Nat} (cnt : Nat) (xs' : List Value) (ht : e.P.underlying t = some (.slice et)) (hs : (e.P.info? et).map (·.size) = some 1) (hx : ev ρ x = some (.slice (subA A c k 1) (n - k) (c - k))) (hy : ev ρ y = some (.slice Ax nx cx)) [hp : PickS H A et 1 n c xs R]
    (hk : k ≤ n) (hc : Nat.min nx (n - k) = cnt) (hn : news.length = cnt) (hS : SrcH e.N0 B H Ax news) (h1 : news.all (·.oneCell') = true) (hr : xs.take k ++ news ++ xs.drop (k + cnt) = xs') :
    Ox e ds (.call { callee := .builtin .copy, args := #[x, y], argTypes := #[t, tx] }) ty ρ B H (fun v B' H' => v = i64 cnt ∧ B' = B ∧ H' = sbuf et 1 A n c xs' * R) :=
  .of_run (fun _ h => by cases h) fun f w dst pos after guard he s => by
    subst hc hr
    have s0 := s.of_eq hp.eq
    have hfc := St.src (P := e.P) (nx := Nat.min nx (n - k)) (size := 1) hS (by omega) s nx cx
    cases hq : e.P.info? et with
    | none => simp [hq] at hs
    | some i =>
      have hi : i.size = 1 := by simpa [hq] using hs
      by_cases h0 : news = []
      · subst h0
        have hm0 : Nat.min nx (n - k) = 0 := by simpa using hn.symm
        have hcp : (Builtin.copy_ #[t, tx] ty #[.slice (subA A c k 1) (n - k) (c - k), .slice Ax nx cx]).run e.P w = .ok (i64 (Nat.min nx (n - k) : Nat)) w := by
          rw [← hi] at hfc
          simp only [Builtin.copy_, Sem.run_bind, run_underlying ht, Result.andThen, Builtin.lenOf, Sem.run_pure, sizeOf, typeInfo, run_program, hq, hfc, List.getElem?_toArray, List.getElem?_cons_zero, List.getElem?_cons_succ]
          cases subA A c k 1 <;> simp [hfc, goInt, storeCells]
        refine ⟨_, w, B, _, ?_, ⟨rfl, rfl, rfl⟩, Frag.le_refl _, Below.refl _ _, ?_⟩
        · simp [execOp, resolve, he _ _ hx, he _ _ hy, invoke, builtin, hcp]
        · rw [hm0, List.append_nil, Nat.add_zero, List.take_append_drop]; exact s0
      · have hpos : 0 < Nat.min nx (n - k) := by rw [← hn]; exact List.length_pos_iff.2 h0
        have hle : Nat.min nx (n - k) ≤ n - k := Nat.min_le_right _ _
        rcases s0.cases_sbuf with ⟨_, h2, _⟩ | ⟨b, sp, e1, e2, e3, e4, s'⟩
        · omega
        · subst e1
          have e9 : subA (some ⟨b, 0, none⟩) c k 1 = some ⟨b, k, none⟩ := by
            unfold subA; rw [if_neg (by omega)]; simp [add_mk]
          rw [e9] at hx
          rw [List.length_append] at e4
          have hst := run_storeCells_at (P := e.P) b (k) et news 0 (xs ++ sp).toArray w s'.blk.1 (by simp; omega) (by simpa using h1)
          simp only [List.toList_toArray, Nat.add_zero] at hst
          have hcs : (xs ++ sp).take (k) ++ news ++ (xs ++ sp).drop (k + news.length) = xs.take k ++ news ++ xs.drop (k + Nat.min nx (n - k)) ++ sp := by
            rw [List.take_append_of_le_length (by omega), List.drop_append_of_le_length (by omega), hn, List.append_assoc, List.append_assoc, List.append_assoc]
          rw [hcs] at hst
          have hcp : (Builtin.copy_ #[t, tx] ty #[.slice (some ⟨b, k, none⟩) (n - k) (c - k), .slice Ax nx cx]).run e.P w = .ok (i64 (Nat.min nx (n - k) : Nat)) (w.setRow b (xs.take k ++ news ++ xs.drop (k + Nat.min nx (n - k)) ++ sp).toArray) := by
            rw [← hi] at hfc
            simp only [Builtin.copy_, Sem.run_bind, run_underlying ht, Result.andThen, Builtin.lenOf, Sem.run_pure, sizeOf, typeInfo, run_program, hq, hfc, hst, List.getElem?_toArray, List.getElem?_cons_zero, List.getElem?_cons_succ]
            simp [hfc, hst, goInt]
          have hl : (xs.take k ++ news ++ xs.drop (k + Nat.min nx (n - k))).length = n := by
            simp only [List.length_append, List.length_take, List.length_drop, hn]; omega
          refine ⟨_, _, B, _, ?_, ⟨rfl, rfl, rfl⟩, Frag.le_refl _, (s'.setRow _).2, St.of_sbuf (sp := sp) (by omega) e3 (by rw [List.length_append]; omega) (s'.setRow _).1⟩
          simp [execOp, resolve, he _ _ hx, he _ _ hy, invoke, builtin, hcp]
end
end Go.SL
