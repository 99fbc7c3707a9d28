/-
  Slices: a slice that owns its row (nil too), append, slicing, indexing, copy, and bytes to texts and back.
-/
import Derived.Test.YtgcebieihmlaoaaSld
namespace Go.SL
open Go.RowKit
set_option linter.unusedSimpArgs false
set_option linter.unusedVariables false

/-- The slice (A, n, c) of elements of size cells has the cells xs and owns its whole row; nil: it has none. -/
def sbuf (et : TypeId) (size : Nat) (A : Option Addr) (n c : Nat) (xs : List Value) : HP := fun h =>
  (A = none ∧ n = 0 ∧ c = 0 ∧ xs = [] ∧ h = Frag.none) ∨
  ∃ b sp, A = some ⟨b, 0, none⟩ ∧ xs.length = n * size ∧ n ≤ c ∧ (xs ++ sp).length = c * size ∧ h = Frag.one b (.cells (xs ++ sp).toArray et (0, 0))

theorem sbuf_nil (et : TypeId) (size : Nat) : sbuf et size none 0 0 [] = 1 := HP.ext fun h =>
  ⟨fun x => (by rcases x with ⟨_, _, _, _, e⟩ | ⟨b, sp, e, _⟩; exact e; cases e), fun x => Or.inl ⟨rfl, rfl, rfl, rfl, x⟩⟩
theorem sbuf_one {et : TypeId} {size b n c : Nat} {xs sp : List Value} (h1 : xs.length = n * size) (h2 : n ≤ c) (h3 : (xs ++ sp).length = c * size) : ∀ k, row b et (xs ++ sp) k → sbuf et size (some ⟨b, 0, none⟩) n c xs k :=
  fun k hk => .inr ⟨b, sp, rfl, h1, h2, h3, hk⟩

/-- What a slice is made of: in whatever state with p in it, its cells are xs. -/
def Src' (B : Frag) (p : HP) (size : Nat) (A : Option Addr) (n : Nat) (xs : List Value) : Prop :=
  xs.length = n * size ∧ ((A = none ∧ n = 0) ∨ ∃ b o, A = some ⟨b, o, none⟩ ∧ ∀ N0 R w, St N0 B (p * R) w → ∀ j v, xs[j]? = some v → w.cell? ⟨b, o + j, none⟩ = some v)

theorem St.cases_sbuf {N0 : Nat} {B : Frag} {et : TypeId} {size n c : Nat} {A : Option Addr} {xs : List Value} {R : HP} {w : World} (s : St N0 B (sbuf et size A n c xs * R) w) :
    (A = none ∧ n = 0 ∧ c = 0 ∧ xs = [] ∧ St N0 B R w) ∨ ∃ b sp, A = some ⟨b, 0, none⟩ ∧ xs.length = n * size ∧ n ≤ c ∧ (xs ++ sp).length = c * size ∧ St N0 B (row b et (xs ++ sp) * R) w := by
  obtain ⟨ro, sz, k, hk, a, d, dj, e, x, y⟩ := s
  rcases x with ⟨e1, e2, e3, e4, e5⟩ | ⟨b, sp, e1, e2, e3, e4, e5⟩
  · left
    subst e5
    exact ⟨e1, e2, e3, e4, ro, sz, d, fun b o hb => hk b o (by rw [e]; simp [Frag.un, Frag.none, hb]), y⟩
  · exact .inr ⟨b, sp, e1, e2, e3, e4, ro, sz, k, hk, a, d, dj, e, e5, y⟩
theorem St.of_sbuf_nil {N0 : Nat} {B : Frag} {et : TypeId} {size : Nat} {R : HP} {w : World} (s : St N0 B R w) : St N0 B (sbuf et size none 0 0 [] * R) w := by
  rw [sbuf_nil, one_star]; exact s
theorem St.of_sbuf {N0 : Nat} {B : Frag} {et : TypeId} {size b n c : Nat} {xs sp : List Value} {R : HP} {w : World} (h1 : xs.length = n * size) (h2 : n ≤ c) (h3 : (xs ++ sp).length = c * size) (s : St N0 B (row b et (xs ++ sp) * R) w) :
    St N0 B (sbuf et size (some ⟨b, 0, none⟩) n c xs * R) w := s.imp (star_mono (sbuf_one h1 h2 h3) fun _ h => h)

/-- The facts of a buffer: for numbers. -/
theorem Xx.sbuf_facts {e : Env} {ds : List Deferred} {K : Act → World → Prop} {ρ : Sl} {B : Frag} {et : TypeId} {size n c : Nat} {A : Option Addr} {xs : List Value} {R : HP}
    (h : xs.length = n * size → n ≤ c → Xx e ds K ρ B (sbuf et size A n c xs * R)) : Xx e ds K ρ B (sbuf et size A n c xs * R) := fun a w f b s => by
  rcases s.cases_sbuf with ⟨_, e2, e3, e4, _⟩ | ⟨_, _, _, e2, e3, _⟩
  · exact h (by simp [e2, e4]) (by omega) a w f b s
  · exact h e2 e3 a w f b s

/-- A buffer becomes what is only read. -/
def RoS (B : Frag) (size : Nat) (A : Option Addr) (n : Nat) (xs : List Value) : Prop :=
  xs.length = n * size ∧ ((A = none ∧ n = 0) ∨ ∃ b o cs et fz, A = some ⟨b, o, none⟩ ∧ B b = some (.cells (List.toArray cs) et fz) ∧ (cs.drop o).take (n * size) = xs)
theorem RoS.mono {B B' : Frag} {size n : Nat} {A : Option Addr} {xs : List Value} (h : RoS B size A n xs) (hB : B.le B') : RoS B' size A n xs := by
  obtain ⟨h1, h2 | ⟨b, o, cs, et, fz, h3, h4, h5⟩⟩ := h
  · exact ⟨h1, .inl h2⟩
  · exact ⟨h1, .inr ⟨b, o, cs, et, fz, h3, hB _ _ h4, h5⟩⟩
theorem RoS.nil (B : Frag) (size : Nat) : RoS B size none 0 [] := ⟨by simp, .inl ⟨rfl, rfl⟩⟩
theorem RoS.src {B : Frag} {size n : Nat} {A : Option Addr} {xs : List Value} (h : RoS B size A n xs) (p : HP) : Src' B p size A n xs := by
  obtain ⟨h1, h2 | ⟨b, o, cs, et, fz, h3, h4, h5⟩⟩ := h
  · exact ⟨h1, .inl h2⟩
  · refine ⟨h1, .inr ⟨b, o, h3, fun N0 R w s j v hj => ?_⟩⟩
    refine cell_of_heap (s.ro b _ h4) ?_
    subst h5
    simp only [List.getElem?_take, List.getElem?_drop] at hj
    split at hj
    · exact hj
    · cases hj
theorem Xx.freezeS {e : Env} {ds : List Deferred} {K : Act → World → Prop} {ρ : Sl} {B : Frag} {et : TypeId} {size n c : Nat} {A : Option Addr} {xs : List Value} {R : HP}
    (h : ∀ B', B.le B' → RoS B' size A n xs → n ≤ c → Xx e ds K ρ B' R) : Xx e ds K ρ B (sbuf et size A n c xs * R) := fun a w f b s => by
  rcases s.cases_sbuf with ⟨e1, e2, e3, e4, s'⟩ | ⟨bb, sp, e1, e2, e3, e4, s'⟩
  · subst e1; subst e2; subst e4; subst e3
    exact h B (Frag.le_refl _) (RoS.nil _ _) (Nat.le_refl _) a w f b s'
  · refine h _ s'.freeze.2 ⟨e2, .inr ⟨bb, 0, xs ++ sp, et, (0, 0), e1, ?_, ?_⟩⟩ e3 a w f b s'.freeze.1
    · have := s'.blk.2.1
      simp [Frag.un, Frag.one, this]
    · simp [← e2]
/-- The cells of a row of one's own, as a source. -/
theorem Src'.row {B : Frag} {size n b o : Nat} {et : TypeId} {cs xs : List Value} {fz : Nat × Nat} (hl : xs.length = n * size) (hx : (cs.drop o).take (n * size) = xs) : Src' B (blk b (.cells cs.toArray et fz)) size (some ⟨b, o, none⟩) n xs := by
  refine ⟨hl, .inr ⟨b, o, rfl, fun N0 R w s j v hj => cell_of_heap s.blk.1 ?_⟩⟩
  subst hx
  simp only [List.getElem?_take, List.getElem?_drop] at hj
  split at hj
  · exact hj
  · cases hj
theorem Src'.sbuf {B : Frag} {size n c : Nat} {A : Option Addr} {et : TypeId} {xs : List Value} (h : A = none ∧ n = 0 ∧ xs = [] ∨ ∃ b, A = some ⟨b, 0, none⟩ ∧ xs.length = n * size) : Src' B (sbuf et size A n c xs) size A n xs := by
  rcases h with ⟨h1, h2, h3⟩ | ⟨b, h1, h2⟩
  · subst h1; subst h2; subst h3; exact ⟨by simp, .inl ⟨rfl, rfl⟩⟩
  · refine ⟨h2, .inr ⟨b, 0, h1, fun N0 R w s j v hj => ?_⟩⟩
    subst h1
    rcases s.cases_sbuf with ⟨e1, _⟩ | ⟨bb, sp, e1, e2, e3, e4, s'⟩
    · cases e1
    · injection e1 with e1; injection e1 with e1; subst e1
      refine cell_of_heap s'.blk.1 ?_
      rw [Nat.zero_add, List.getElem?_append_left (List.getElem?_eq_some_iff.1 hj).1]
      exact hj
theorem Src'.frame {B : Frag} {p q : HP} {size n : Nat} {A : Option Addr} {xs : List Value} (h : Src' B p size A n xs) : Src' B (p * q) size A n xs := by
  obtain ⟨h1, h2 | ⟨b, o, h3, h4⟩⟩ := h
  · exact ⟨h1, .inl h2⟩
  · exact ⟨h1, .inr ⟨b, o, h3, fun N0 R w s => h4 N0 (q * R) w (by rw [← star_assoc]; exact s)⟩⟩

section
variable {ρ : Sl} {ty t tx : TypeId} {x y : Operand} {v u : Value} {B : Frag} {H R : HP} {k k' : IntKind} {m n z : Int} {e : Env} {ds : List Deferred}

theorem pure1 {N0 : Nat} {w : World} {q : HP} (s : St N0 B (q * R) w) : St N0 B (q * R) w := s

/-- append onto a buffer of one's own, out of a source that may lie in the buffer's own row no more than read. -/
theorem appO {et : TypeId} {size bytes nl c nx cx : Nat} {zs xs news : List Value} {A Ax : Option Addr} {p : HP} {tyx : TypeId}
    (ht : e.P.underlying t = some (.slice et)) (htx : e.P.underlying tx = some (.slice tyx)) (hz : TI e.P et zs size bytes)
    (hx : ev ρ x = some (.slice A nl c)) (hy : ev ρ y = some (.slice Ax nx cx)) (hs : Src' B p size Ax nx news) (h1 : news.all (·.oneCell') = true)
    (hH : H = sbuf et size A nl c xs * (p * R)) (hb : nl + nx ≤ 9223372036854775807) (hbb : (nl + nx) * bytes ≤ 140737488355328) :
    Ox e ds (.call { callee := .builtin .append, args := #[x, y], argTypes := #[t, tx] }) ty ρ B H
      (fun v B' H' => ∃ A' c', v = .slice A' (nl + nx) c' ∧ (0 < nl + nx → ∃ b, A' = some ⟨b, 0, none⟩) ∧ xs.length = nl * size ∧ nl + nx ≤ c' ∧ B' = B ∧ H' = sbuf et size A' (nl + nx) c' (xs ++ news) * (p * R)) :=
  .of_run (fun _ h => by cases h) fun f w dst pos after guard he s => by
    subst hH
    obtain ⟨i, zv, z1, z2, z3, z4, z5, z6, z7⟩ := hz
    have h1' : ∀ u ∈ news, u.oneCell' = true := by simpa using h1
    have hsrc : Src e.P i.size tx (.slice Ax nx cx) nx news w := by
      obtain ⟨hl, h2 | ⟨b, o, h3, h4⟩⟩ := hs
      · obtain ⟨rfl, rfl⟩ := h2
        have : news = [] := by simpa using hl
        subst this
        exact Src.ofNil w htx cx
      · subst h3
        have h5 := h4 e.N0 (sbuf et size A nl c xs * R) w (by rw [star_left]; exact s)
        exact Src.ofSlice w htx ⟨b, o, none⟩ nx cx news (by rw [z4]; exact hl) (fun j u hj => by rw [add_mk]; exact h5 j u hj) h1'
    have hrunE : ∀ {r w'}, (Builtin.append_ #[t, tx] ty #[.slice A nl c, .slice Ax nx cx]).run e.P w = .ok r w' → (execOp f ⟨dst, .call { callee := .builtin .append, args := #[x, y], argTypes := #[t, tx] }, ty, pos, after, guard⟩).run e.P w = .ok (.value r) w' := by
      intro r w' hr
      simp [execOp, resolve, he _ _ hx, he _ _ hy, invoke, builtin, hr]
    have hnl : news.length = nx * size := hs.1
    have grow : ∀ (olds : List Value), olds.length = nl * size → (Builtin.firstCells i.size nl (.slice A nl c)).run e.P w.drew = .ok olds.toArray w.drew → c < nl + nx → olds = xs → St e.N0 B (p * R) w →
        ∃ v w' B' H', (execOp f ⟨dst, .call { callee := .builtin .append, args := #[x, y], argTypes := #[t, tx] }, ty, pos, after, guard⟩).run e.P w = .ok (.value v) w' ∧
          (∃ A' c', v = .slice A' (nl + nx) c' ∧ (0 < nl + nx → ∃ b, A' = some ⟨b, 0, none⟩) ∧ xs.length = nl * size ∧ nl + nx ≤ c' ∧ B' = B ∧ H' = sbuf et size A' (nl + nx) c' (xs ++ news) * (p * R)) ∧ B.le B' ∧ Below e.N0 w w' ∧ St e.N0 B' H' w' := by
      intro olds hol hold hlt heq s0
      have hcap := nextslicecap_le (need := nl + nx) (old := c) hlt
      have hr := run_append_grow_src (P := e.P) w t tx ty et i zv ht z1 z2 A nl c olds hold (.slice Ax nx cx) nx news hsrc hlt (by omega) (by
        rw [z5]
        calc Builtin.nextslicecap (nl + nx) c * bytes ≤ (2 * (nl + nx)) * bytes := Nat.mul_le_mul_right _ hcap
          _ = 2 * ((nl + nx) * bytes) := by rw [Nat.mul_assoc]
          _ ≤ 281474976710656 := by omega)
      have hge : nl + nx ≤ grownCap w (nl + nx) c et := by
        unfold grownCap Question.cut; simp
      obtain ⟨sp, hsp⟩ : ∃ sp : List Value, (olds ++ news).toArray ++ Builtin.zeroCells zv.cells (grownCap w (nl + nx) c et - (nl + nx)) = (olds ++ news ++ sp).toArray ∧ sp.length = (grownCap w (nl + nx) c et - (nl + nx)) * size := by
        refine ⟨(Builtin.zeroCells zv.cells (grownCap w (nl + nx) c et - (nl + nx))).toList, by apply Array.toList_inj.1; simp, ?_⟩
        simp [Builtin.zeroCells, z3, z6]
      subst heq
      rw [hsp.1] at hr
      refine ⟨_, _, B, _, hrunE hr, ⟨_, _, rfl, fun _ => ⟨_, rfl⟩, hol, hge, rfl, rfl⟩, Frag.le_refl _, ((Below.refl _ _).drew).alloc s.sz _, ?_⟩
      have := s0.drew.alloc (.cells (olds ++ news ++ sp).toArray et (0, 0))
      refine St.of_sbuf (sp := sp) (by simp [hol, hnl, Nat.add_mul]) hge ?_ this
      have : (grownCap w (nl + nx) c et) * size = (grownCap w (nl + nx) c et - (nl + nx)) * size + (nl + nx) * size := by
        rw [← Nat.add_mul]; congr 1; omega
      simp [hol, hnl, hsp.2, this, Nat.add_mul]; omega
    rcases s.cases_sbuf with ⟨e1, e2, e3, e4, s'⟩ | ⟨b, sp, e1, e2, e3, e4, s'⟩
    · subst e1; subst e2; subst e3; subst e4
      by_cases h0 : nx = 0
      · subst h0
        have hn : news = [] := by simpa using hnl
        subst hn
        refine ⟨.slice none 0 0, w, B, _, hrunE ?_, ⟨none, 0, rfl, fun h => by omega, by simp, Nat.le_refl _, rfl, rfl⟩, Frag.le_refl _, Below.refl _ _, by simpa using s⟩
        have hfc := hsrc.cells
        have hlen := hsrc.len w
        simp [Builtin.append_, run_underlying ht, run_underlying htx, sizeOf, typeInfo, z1, hlen, hfc, Builtin.lenOf]
      · exact grow [] (by simp) (by simp [Builtin.firstCells]) (by omega) rfl s'
    · subst e1
      by_cases hroom : nl + nx ≤ c
      · have hspl : (nl + nx) * size ≤ c * size := Nat.mul_le_mul_right _ hroom
        have hlen1 : xs.length + sp.length = c * size := by simpa using e4
        have hh := s'.blk.1
        have hst := run_storeCells_at (P := e.P) b (nl * size) et news 0 (xs ++ sp).toArray w hh (by simp; rw [Nat.add_mul] at hspl; omega) h1'
        have hl2 : (xs ++ sp).take (nl * size + 0) ++ news ++ (xs ++ sp).drop (nl * size + 0 + news.length) = (xs ++ news) ++ sp.drop news.length := by
          simp only [Nat.add_zero]
          rw [List.take_append_of_le_length (by omega), ← e2, List.take_length, List.drop_append]
          simp
        simp only [List.toList_toArray] at hst
        rw [hl2] at hst
        have hlen := hsrc.len w
        have hfc := hsrc.cells
        rw [z4] at hfc
        have hr : (Builtin.append_ #[t, tx] ty #[.slice (some ⟨b, 0, none⟩) nl c, .slice Ax nx cx]).run e.P w = .ok (.slice (some ⟨b, 0, none⟩) (nl + nx) c) (w.setRow b ((xs ++ news) ++ sp.drop news.length).toArray) := by
          simp only [Builtin.append_, Sem.run_bind, Sem.run_pure, Result.andThen, run_underlying ht, run_underlying htx, sizeOf, typeInfo, run_program, z1, z4, hlen, hroom, if_true, hfc, add_mk, Nat.zero_add, hst, List.getElem?_toArray, List.getElem?_cons_zero, List.getElem?_cons_succ]
          simp [hlen, hroom, hfc, hst]
        refine ⟨_, _, B, _, hrunE hr, ⟨_, _, rfl, fun _ => ⟨_, rfl⟩, e2, hroom, rfl, rfl⟩, Frag.le_refl _, (s'.setRow _).2, ?_⟩
        refine St.of_sbuf (sp := sp.drop news.length) (by simp [e2, hnl, Nat.add_mul]) hroom ?_ (s'.setRow _).1
        simp
        rw [Nat.add_mul] at hspl
        omega
      · exact grow xs e2 (by
          have := run_firstCells_some (P := e.P) w.drew i.size nl ⟨b, 0, none⟩ nl c xs (by rw [z4]; exact e2) (fun j u hj => by
            rw [add_mk, Nat.zero_add]
            refine cell_of_heap s'.drew.blk.1 ?_
            rw [List.getElem?_append_left (List.getElem?_eq_some_iff.1 hj).1]; exact hj)
          exact this) (by omega) rfl s'.drop
end
end Go.SL
