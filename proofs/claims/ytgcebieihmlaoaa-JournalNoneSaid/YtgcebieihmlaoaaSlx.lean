/-
  A text put behind a buffer, or over a part of it.
-/
import Derived.Test.YtgcebieihmlaoaaSlw
import Derived.Deep.AppendSrc
namespace Go.SL
open Go.RowKit
set_option linter.unusedVariables false
set_option linter.unusedSimpArgs false
section
variable {e : Env} {ds : List Deferred} {ρ : Sl} {B : Frag} {H R : HP} {t tx et ty : TypeId} {x y : Operand}
theorem appT0 {et : TypeId} {size bytes nl c nx : Nat} {zs xs news : List Value} {A : Option Addr} {p : HP} {sv : ByteArray}
    (ht : e.P.underlying t = some (.slice et)) (htx : e.P.underlying tx = some .string) (hz : TI e.P et zs size bytes)
    (hx : ev ρ x = some (.slice A nl c)) (hy : ev ρ y = some (.string sv)) (hsr : ∀ w, Src e.P size tx (.string sv) nx news w) (hnl0 : news.length = nx * size) (h1 : news.all (·.oneCell') = true)
    (hH : H = sbuf et size A nl c xs * (p * R)) (hb : nl + nx ≤ 9223372036854775807) (hbb : (nl + nx) * bytes ≤ 140737488355328) :
    Ox e ds (.call { callee := .builtin .append, args := #[x, y], argTypes := #[t, tx] }) ty ρ B H
      (fun v B' H' => ∃ A' c', v = .slice A' (nl + nx) c' ∧ (0 < nl + nx → ∃ b, A' = some ⟨b, 0, none⟩) ∧ xs.length = nl * size ∧ nl + nx ≤ c' ∧ B' = B ∧ H' = sbuf et size A' (nl + nx) c' (xs ++ news) * (p * R)) :=
  .of_run (fun _ h => by cases h) fun f w dst pos after guard he s => by
    subst hH
    obtain ⟨i, zv, z1, z2, z3, z4, z5, z6, z7⟩ := hz
    have h1' : ∀ u ∈ news, u.oneCell' = true := by simpa using h1
    have hsrc : Src e.P i.size tx (.string sv) nx news w := by rw [z4]; exact hsr w
    have hrunE : ∀ {r w'}, (Builtin.append_ #[t, tx] ty #[.slice A nl c, .string sv]).run e.P w = .ok r w' → (execOp f ⟨dst, .call { callee := .builtin .append, args := #[x, y], argTypes := #[t, tx] }, ty, pos, after, guard⟩).run e.P w = .ok (.value r) w' := by
      intro r w' hr
      simp [execOp, resolve, he _ _ hx, he _ _ hy, invoke, builtin, hr]
    have hnl : news.length = nx * size := hnl0
    have grow : ∀ (olds : List Value), olds.length = nl * size → (Builtin.firstCells i.size nl (.slice A nl c)).run e.P w.drew = .ok olds.toArray w.drew → c < nl + nx → olds = xs → St e.N0 B (p * R) w →
        ∃ v w' B' H', (execOp f ⟨dst, .call { callee := .builtin .append, args := #[x, y], argTypes := #[t, tx] }, ty, pos, after, guard⟩).run e.P w = .ok (.value v) w' ∧
          (∃ A' c', v = .slice A' (nl + nx) c' ∧ (0 < nl + nx → ∃ b, A' = some ⟨b, 0, none⟩) ∧ xs.length = nl * size ∧ nl + nx ≤ c' ∧ B' = B ∧ H' = sbuf et size A' (nl + nx) c' (xs ++ news) * (p * R)) ∧ B.le B' ∧ Below e.N0 w w' ∧ St e.N0 B' H' w' := by
      intro olds hol hold hlt heq s0
      have hcap := nextslicecap_le (need := nl + nx) (old := c) hlt
      have hr := run_append_grow_src (P := e.P) w t tx ty et i zv ht z1 z2 A nl c olds hold (.string sv) nx news hsrc hlt (by omega) (by
        rw [z5]
        calc Builtin.nextslicecap (nl + nx) c * bytes ≤ (2 * (nl + nx)) * bytes := Nat.mul_le_mul_right _ hcap
          _ = 2 * ((nl + nx) * bytes) := by rw [Nat.mul_assoc]
          _ ≤ 281474976710656 := by omega)
      have hge : nl + nx ≤ grownCap w (nl + nx) c et := by
        unfold grownCap Question.cut; simp
      obtain ⟨sp, hsp⟩ : ∃ sp : List Value, (olds ++ news).toArray ++ Builtin.zeroCells zv.cells (grownCap w (nl + nx) c et - (nl + nx)) = (olds ++ news ++ sp).toArray ∧ sp.length = (grownCap w (nl + nx) c et - (nl + nx)) * size := by
        refine ⟨(Builtin.zeroCells zv.cells (grownCap w (nl + nx) c et - (nl + nx))).toList, by apply Array.toList_inj.1; simp, ?_⟩
        simp [Builtin.zeroCells, z3, z6]
      subst heq
      rw [hsp.1] at hr
      refine ⟨_, _, B, _, hrunE hr, ⟨_, _, rfl, fun _ => ⟨_, rfl⟩, hol, hge, rfl, rfl⟩, Frag.le_refl _, ((Below.refl _ _).drew).alloc s.sz _, ?_⟩
      have := s0.drew.alloc (.cells (olds ++ news ++ sp).toArray et (0, 0))
      refine St.of_sbuf (sp := sp) (by simp [hol, hnl, Nat.add_mul]) hge ?_ this
      have : (grownCap w (nl + nx) c et) * size = (grownCap w (nl + nx) c et - (nl + nx)) * size + (nl + nx) * size := by
        rw [← Nat.add_mul]; congr 1; omega
      simp [hol, hnl, hsp.2, this, Nat.add_mul]; omega
    rcases s.cases_sbuf with ⟨e1, e2, e3, e4, s'⟩ | ⟨b, sp, e1, e2, e3, e4, s'⟩
    · subst e1; subst e2; subst e3; subst e4
      by_cases h0 : nx = 0
      · subst h0
        have hn : news = [] := by simpa using hnl
        subst hn
        refine ⟨.slice none 0 0, w, B, _, hrunE ?_, ⟨none, 0, rfl, fun h => by omega, by simp, Nat.le_refl _, rfl, rfl⟩, Frag.le_refl _, Below.refl _ _, by simpa using s⟩
        have hfc := hsrc.cells
        have hlen := hsrc.len w
        simp [Builtin.append_, run_underlying ht, run_underlying htx, sizeOf, typeInfo, z1, hlen, hfc]
      · exact grow [] (by simp) (by simp [Builtin.firstCells]) (by omega) rfl s'
    · subst e1
      by_cases hroom : nl + nx ≤ c
      · have hspl : (nl + nx) * size ≤ c * size := Nat.mul_le_mul_right _ hroom
        have hlen1 : xs.length + sp.length = c * size := by simpa using e4
        have hh := s'.blk.1
        have hst := run_storeCells_at (P := e.P) b (nl * size) et news 0 (xs ++ sp).toArray w hh (by simp; rw [Nat.add_mul] at hspl; omega) h1'
        have hl2 : (xs ++ sp).take (nl * size + 0) ++ news ++ (xs ++ sp).drop (nl * size + 0 + news.length) = (xs ++ news) ++ sp.drop news.length := by
          simp only [Nat.add_zero]
          rw [List.take_append_of_le_length (by omega), ← e2, List.take_length, List.drop_append]
          simp
        simp only [List.toList_toArray] at hst
        rw [hl2] at hst
        have hlen := hsrc.len w
        have hfc := hsrc.cells
        rw [z4] at hfc
        have hr : (Builtin.append_ #[t, tx] ty #[.slice (some ⟨b, 0, none⟩) nl c, .string sv]).run e.P w = .ok (.slice (some ⟨b, 0, none⟩) (nl + nx) c) (w.setRow b ((xs ++ news) ++ sp.drop news.length).toArray) := by
          simp only [Builtin.append_, Sem.run_bind, Sem.run_pure, Result.andThen, run_underlying ht, run_underlying htx, sizeOf, typeInfo, run_program, z1, z4, hlen, hroom, if_true, hfc, add_mk, Nat.zero_add, hst, List.getElem?_toArray, List.getElem?_cons_zero, List.getElem?_cons_succ]
          simp [hlen, hroom, hfc, hst]
        refine ⟨_, _, B, _, hrunE hr, ⟨_, _, rfl, fun _ => ⟨_, rfl⟩, e2, hroom, rfl, rfl⟩, Frag.le_refl _, (s'.setRow _).2, ?_⟩
        refine St.of_sbuf (sp := sp.drop news.length) (by simp [e2, hnl, Nat.add_mul]) hroom ?_ (s'.setRow _).1
        simp
        rw [Nat.add_mul] at hspl
        omega
      · exact grow xs e2 (by
          have := run_firstCells_some (P := e.P) w.drew i.size nl ⟨b, 0, none⟩ nl c xs (by rw [z4]; exact e2) (fun j u hj => by
            rw [add_mk, Nat.zero_add]
            refine cell_of_heap s'.drew.blk.1 ?_
            rw [List.getElem?_append_left (List.getElem?_eq_some_iff.1 hj).1]; exact hj)
          exact this) (by omega) rfl s'.drop
theorem byteCells_str (l : List UInt8) : byteCells ⟨l.toArray⟩ = u8s l := by simp [byteCells, u8s]
theorem appT {A : Option Addr} {xs zs : List Value} {nl c bytes : Nat} {l : List UInt8} (n' : Nat) (xs' : List Value) (ht : e.P.underlying t = some (.slice et)) (htx : e.P.underlying tx = some .string) (hz : TI e.P et zs 1 bytes)
    (hx : ev ρ x = some (.slice A nl c)) (hy : ev ρ y = some (str l)) [hp : PickS H A et 1 nl c xs R] (hb : nl + l.length ≤ 9223372036854775807) (hbb : (nl + l.length) * bytes ≤ 140737488355328) (hn : nl + l.length = n') (hxs : xs ++ u8s l = xs') :
    Ox e ds (.call { callee := .builtin .append, args := #[x, y], argTypes := #[t, tx] }) ty ρ B H
      (fun v B' H' => ∃ A' c', v = .slice A' n' c' ∧ (0 < n' → ∃ b, A' = some ⟨b, 0, none⟩) ∧ n' ≤ c' ∧ B' = B ∧ H' = sbuf et 1 A' n' c' xs' * R) := by
  subst hn hxs
  have h := appT0 (e := e) (ds := ds) (ρ := ρ) (B := B) (H := H) (ty := ty) (R := R) (p := 1) (nx := l.length) (news := u8s l) (sv := ⟨l.toArray⟩) ht htx hz hx hy (fun w => by
    have := Src.ofString (P := e.P) (w := w) htx ⟨l.toArray⟩
    rw [byteCells_str] at this
    exact this) (by rw [u8s_len, Nat.mul_one]) (by rw [List.all_eq_true]; intro v hv; obtain ⟨x, _, rfl⟩ := List.mem_map.1 hv; rfl) (by rw [one_star]; exact hp.eq) hb hbb
  exact ⟨h.1, fun a w dst pos after guard K Q f b s k => h.2 a w dst pos after guard K Q f b s fun v B' H' w' ⟨A', c', e1, e2, e3, e4, e5, e6⟩ hB hb hs => k v B' H' w' ⟨A', c', e1, e2, e4, e5, by rw [e6, one_star]⟩ hB hb hs⟩
end
section
variable {e : Env} {ds : List Deferred} {ρ : Sl} {B : Frag} {H R : HP} {t tx et et' ty tyx : TypeId} {x y : Operand} {nl nd c : Nat} {xs news : List Value} {A : Option Addr} {l : List UInt8}
/-- copy of a text into a buffer's part. -/
theorem cpT {n k : Nat} (cnt : Nat) (xs' : List Value) (ht : e.P.underlying t = some (.slice et)) (hs : (e.P.info? et).map (·.size) = some 1) (hx : ev ρ x = some (.slice (subA A c k 1) (n - k) (c - k))) (hy : ev ρ y = some (str l)) [hp : PickS H A et 1 n c xs R]
    (hk : k ≤ n) (hc : Nat.min l.length (n - k) = cnt) (hn : news.length = cnt) (hnews : u8s l = news) (h1 : news.all (·.oneCell') = true) (hr : xs.take k ++ news ++ xs.drop (k + cnt) = xs') :
    Ox e ds (.call { callee := .builtin .copy, args := #[x, y], argTypes := #[t, tx] }) ty ρ B H (fun v B' H' => v = i64 cnt ∧ B' = B ∧ H' = sbuf et 1 A n c xs' * R) :=
  .of_run (fun _ h => by cases h) fun f w dst pos after guard he s => by
    subst hc hr
    have s0 := s.of_eq hp.eq
    have hsz : (⟨l.toArray⟩ : ByteArray).size = l.length := by simp [ByteArray.size]
    have hll : Nat.min l.length (n - k) = l.length := by rw [← hn, ← hnews, u8s_len]
    have hfc : (Builtin.firstCells 1 (Nat.min l.length (n - k)) (str l)).run e.P w = .ok news.toArray w := by
      rw [hll, ← hnews]
      simp [Builtin.firstCells, str, u8s, ByteArray.extract, ByteArray.copySlice]
    cases hq : e.P.info? et with
    | none => simp [hq] at hs
    | some i =>
      have hi : i.size = 1 := by simpa [hq] using hs
      by_cases h0 : news = []
      · subst h0
        have hm0 : Nat.min l.length (n - k) = 0 := by simpa using hn.symm
        have hcp : (Builtin.copy_ #[t, tx] ty #[.slice (subA A c k 1) (n - k) (c - k), str l]).run e.P w = .ok (i64 (Nat.min l.length (n - k) : Nat)) w := by
          rw [← hi] at hfc
          simp only [Builtin.copy_, Sem.run_bind, run_underlying ht, Result.andThen, Builtin.lenOf, hsz, Sem.run_pure, sizeOf, typeInfo, run_program, hq, hfc, List.getElem?_toArray, List.getElem?_cons_zero, List.getElem?_cons_succ]
          cases subA A c k 1 <;> simp [hfc, goInt, storeCells]
        refine ⟨_, w, B, _, ?_, ⟨rfl, rfl, rfl⟩, Frag.le_refl _, Below.refl _ _, ?_⟩
        · simp [execOp, resolve, he _ _ hx, he _ _ hy, invoke, builtin, hcp]
        · rw [hm0, List.append_nil, Nat.add_zero, List.take_append_drop]; exact s0
      · have hpos : 0 < Nat.min l.length (n - k) := by rw [← hn]; exact List.length_pos_iff.2 h0
        have hle : Nat.min l.length (n - k) ≤ n - k := Nat.min_le_right _ _
        rcases s0.cases_sbuf with ⟨_, h2, _⟩ | ⟨b, sp, e1, e2, e3, e4, s'⟩
        · omega
        · subst e1
          have e9 : subA (some ⟨b, 0, none⟩) c k 1 = some ⟨b, k, none⟩ := by
            unfold subA; rw [if_neg (by omega)]; simp [add_mk]
          rw [e9] at hx
          rw [List.length_append] at e4
          have hst := run_storeCells_at (P := e.P) b (k) et news 0 (xs ++ sp).toArray w s'.blk.1 (by simp; omega) (by simpa using h1)
          simp only [List.toList_toArray, Nat.add_zero] at hst
          have hcs : (xs ++ sp).take (k) ++ news ++ (xs ++ sp).drop (k + news.length) = xs.take k ++ news ++ xs.drop (k + Nat.min l.length (n - k)) ++ sp := by
            rw [List.take_append_of_le_length (by omega), List.drop_append_of_le_length (by omega), hn, List.append_assoc, List.append_assoc, List.append_assoc]
          rw [hcs] at hst
          have hcp : (Builtin.copy_ #[t, tx] ty #[.slice (some ⟨b, k, none⟩) (n - k) (c - k), str l]).run e.P w = .ok (i64 (Nat.min l.length (n - k) : Nat)) (w.setRow b (xs.take k ++ news ++ xs.drop (k + Nat.min l.length (n - k)) ++ sp).toArray) := by
            rw [← hi] at hfc
            simp only [Builtin.copy_, Sem.run_bind, run_underlying ht, Result.andThen, Builtin.lenOf, hsz, Sem.run_pure, sizeOf, typeInfo, run_program, hq, hfc, hst, List.getElem?_toArray, List.getElem?_cons_zero, List.getElem?_cons_succ]
            simp [hfc, hst, goInt]
          have hl : (xs.take k ++ news ++ xs.drop (k + Nat.min l.length (n - k))).length = n := by
            simp only [List.length_append, List.length_take, List.length_drop, hn]; omega
          refine ⟨_, _, B, _, ?_, ⟨rfl, rfl, rfl⟩, Frag.le_refl _, (s'.setRow _).2, St.of_sbuf (sp := sp) (by omega) e3 (by rw [List.length_append]; omega) (s'.setRow _).1⟩
          simp [execOp, resolve, he _ _ hx, he _ _ hy, invoke, builtin, hcp]
end
end Go.SL
