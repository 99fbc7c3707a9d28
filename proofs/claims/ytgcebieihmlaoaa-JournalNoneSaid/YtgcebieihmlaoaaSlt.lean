/-
  Loops whose marks grow (a range over a function in a loop); append within a row; clear of a row's part.
-/
import Derived.Test.YtgcebieihmlaoaaSls
namespace Go.SL
open Go.RowKit
set_option linter.unusedVariables false
set_option linter.unusedSimpArgs false
/-- A round has gone by; the marks may be others. -/
def LKd (e : Env) (I : Nat → List Deferred → Sl → Frag → HP → Prop) (m : Nat) (a : Act) (w : World) : Prop :=
  ∃ m' ds ρ B H, m' < m ∧ I m' ds ρ B H ∧ Fr ρ e.nt ds a ∧ Below e.N0 e.w0 w ∧ St e.N0 B H w
section
variable {e : Env} {ds : List Deferred} {Q : Exit → Act → World → Prop} {ρ ρ' : Sl} {B : Frag} {H : HP}
theorem Xx.againD {I : Nat → List Deferred → Sl → Frag → HP → Prop} {m m' : Nat} (hi : I m' ds ρ' B H) (hm : m' < m) (hs : Sub ρ ρ') : Xx e ds (LKd e I m) ρ B H := fun _ _ f b s => ⟨m', ds, ρ', B, H, hm, hi, f.sub hs, b, s⟩
open Classical in
theorem Cx.loopD {c : Code} (I : Nat → List Deferred → Sl → Frag → HP → Prop) {m : Nat} (h0 : I m ds ρ' B H) (hs : Sub ρ ρ')
    (round : ∀ m ds ρ B H, I m ds ρ B H → Cx e ds c (Exit.then (LKd e I m) Q) ρ B H) : Cx e ds (.loop c) Q ρ B H := by
  intro a w f b s
  let J : Nat → Act → World → Prop := fun m a w => ∃ ds ρ B H, I m ds ρ B H ∧ Fr ρ e.nt ds a ∧ Below e.N0 e.w0 w ∧ St e.N0 B H w
  let μ : Act → World → Nat := fun a w => if h : ∃ m, J m a w then Classical.choose (least h) else 0
  have hμ : ∀ m a w, J m a w → μ a w ≤ m ∧ J (μ a w) a w := by
    intro m a w h
    have hex : ∃ m, J m a w := ⟨m, h⟩
    simp only [μ, dif_pos hex]
    have := Classical.choose_spec (least hex)
    exact ⟨this.2 m h, this.1⟩
  refine wpIn_loop (fun a w => ∃ m, J m a w) μ ⟨m, ds, ρ', B, H, h0, f.sub hs, b, s⟩ ?_
  rintro a w ⟨m, hm⟩
  obtain ⟨_, ds1, ρ1, B1, H1, hi, f1, b1, s1⟩ := hμ m a w hm
  refine wpIn_mono (round _ ds1 ρ1 B1 H1 hi a w f1 b1 s1) fun ex a' w' q => ?_
  cases ex with
  | normal =>
    obtain ⟨m', ds2, ρ2, B2, H2, hlt, hi2, f2, b2, s2⟩ := q
    have hj : J m' a' w' := ⟨ds2, ρ2, B2, H2, hi2, f2, b2, s2⟩
    exact ⟨⟨m', hj⟩, Nat.lt_of_le_of_lt (hμ m' a' w' hj).1 hlt⟩
  | exit id => exact q
  | goto l => exact q
  | ret => exact q
  | panic c => exact q
  | outgrown => exact q
/-- A loop in which functions are ranged over: Ds the marks; σ: the slots that it leaves alone. -/
abbrev KD (σ : Sl) (I : Nat → List Nat → Sl → Frag → HP → Prop) : Nat → List Deferred → Sl → Frag → HP → Prop :=
  fun m ds ρ B H => ∃ Ds ρ', ds = List.map mark Ds ∧ ρ = ρ' ++ σ ∧ I m Ds ρ' B H
theorem Cx.loopKD {c : Code} {σ : Sl} (hσ : Sub ρ σ) (I : Nat → List Nat → Sl → Frag → HP → Prop) {m : Nat} (Ds : List Nat) (hds : ds = List.map mark Ds) (h0 : I m Ds ρ' B H) (hs : Sub ρ (ρ' ++ σ))
    (round : ∀ m Ds ρ' B H, I m Ds ρ' B H → Cx e (List.map mark Ds) c (Exit.then (LKd e (KD σ I) m) Q) (ρ' ++ σ) B H) : Cx e ds (.loop c) Q ρ B H :=
  Cx.loopD (KD σ I) ⟨Ds, ρ', hds, rfl, h0⟩ hs fun m ds ρ B H ⟨Ds, ρ', h1, h2, h3⟩ => by subst h1; subst h2; exact round m Ds ρ' B H h3
theorem Xx.againKD {σ : Sl} {I : Nat → List Nat → Sl → Frag → HP → Prop} {m m' : Nat} (Ds : List Nat) (hds : ds = List.map mark Ds) (hi : I m' Ds ρ' B H) (hm : m' < m) (hs : Sub ρ (ρ' ++ σ)) : Xx e ds (LKd e (KD σ I) m) ρ B H :=
  Xx.againD ⟨Ds, ρ', hds, rfl, hi⟩ hm hs
/-- At a function's end, without a return. -/
theorem Xx.eM {P : Program} {r : Option Nat} {N0 nt : Nat} {w0 : World} {B0 : Frag} {H' R : HP} {fn : Func} {Φ : Value → Frag → HP → Prop} {v : Value} (Ds : List Nat) (hds : ds = List.map mark Ds) (hr : ∀ a w, Fr ρ nt ds a → St N0 B (H' * R) w → (results fn a.tmps).run P w = .ok v w)
    (hΦ : Φ v B H') (hB : B0.le B) (hH : H = marks Ds * (H' * R)) : Xx ⟨P, r, N0, w0, nt⟩ ds (bodyPostM (FW none) 0 P fn (Fin N0 w0 R B0 Φ) .normal) ρ B H := by
  subst hds
  exact Xx.rM hr hΦ hB hH
/-- The marks' blocks. -/
theorem marks_cons (D : Nat) (l : List Nat) : marks (D :: l) = blk D dfr * marks l := rfl
theorem marks_nil : marks [] = 1 := rfl
end
section
variable {e : Env} {ds : List Deferred} {ρ : Sl} {B : Frag} {H R : HP} {t tx et et' ty tyx : TypeId} {x y : Operand} {size bytes nl nx c cx b o : Nat} {zs news cs cs' : List Value} {Ax : Option Addr}
/-- append in the row itself, where there is room, out of whatever source. -/
theorem apR (ht : e.P.underlying t = some (.slice et)) (htx : e.P.underlying tx = some (.slice tyx)) (hz : TI e.P et zs size bytes)
    (hx : ev ρ x = some (.slice (some ⟨b, o, none⟩) nl c)) (hy : ev ρ y = some (.slice Ax nx cx)) [hp : PickB H b (.cells cs.toArray et (0, 0)) R]
    (hS : SrcH e.N0 B H Ax news) (hl : news.length = nx * size) (h1 : news.all (·.oneCell') = true) (hroom : nl + nx ≤ c) (hfit : o + nl * size + news.length ≤ cs.length) (hr : cs.take (o + nl * size) ++ news ++ cs.drop (o + nl * size + news.length) = cs') :
    Ox e ds (.call { callee := .builtin .append, args := #[x, y], argTypes := #[t, tx] }) ty ρ B H (fun v B' H' => v = .slice (some ⟨b, o, none⟩) (nl + nx) c ∧ B' = B ∧ H' = row b et cs' * R) :=
  .of_run (fun _ h => by cases h) fun f w dst pos after guard he s => by
    subst hr
    obtain ⟨i, zv, z1, z2, z3, z4, z5, z6, z7⟩ := hz
    have s' : St e.N0 B (blk b (.cells cs.toArray et (0, 0)) * R) w := hp.eq ▸ s
    have hfc := St.src (P := e.P) (nx := nx) hS hl s nx cx
    have hst := run_storeCells_at (P := e.P) b (o + nl * size) et news 0 cs.toArray w s'.blk.1 (by simpa using hfit) (by simpa using h1)
    simp only [List.toList_toArray, Nat.add_zero] at hst
    have hap : (Builtin.append_ #[t, tx] ty #[.slice (some ⟨b, o, none⟩) nl c, .slice Ax nx cx]).run e.P w = .ok (.slice (some ⟨b, o, none⟩) (nl + nx) c) (w.setRow b (cs.take (o + nl * size) ++ news ++ cs.drop (o + nl * size + news.length)).toArray) := by
      simp only [Builtin.append_, Sem.run_bind, Sem.run_pure, Result.andThen, run_underlying ht, run_underlying htx, sizeOf, typeInfo, run_program, z1, z4, Builtin.lenOf, hroom, if_true, hfc, add_mk, hst, List.getElem?_toArray, List.getElem?_cons_zero, List.getElem?_cons_succ]
      simp [hroom, hfc, hst]
    refine ⟨_, _, B, _, ?_, ⟨rfl, rfl, rfl⟩, Frag.le_refl _, (s'.setRow _).2, (s'.setRow _).1⟩
    simp [execOp, resolve, he _ _ hx, he _ _ hy, invoke, builtin, hap]
/-- A slice cut at both ends and in its room. -/
theorem sl4V {P : Program} {S : World → Prop} {A : Option Addr} {n : Nat} {lo hi mx : Operand} {k1 k2 k3 : IntKind} {m z q : Int} (ht : P.underlying t = some (.slice et)) (hs : (P.info? et).map (·.size) = some size) (hx : ev ρ x = some (.slice A n c))
    (hl : ev ρ lo = some (.int k1 m)) (hh : ev ρ hi = some (.int k2 z)) (hm : ev ρ mx = some (.int k3 q)) (h0 : 0 ≤ m) (h1 : m ≤ z) (h2 : z ≤ q) (h3 : q ≤ c) :
    Yx P (.slice t x (some lo) (some hi) (some mx)) ty ρ S (.slice (subA A q.toNat m.toNat size) (z.toNat - m.toNat) (q.toNat - m.toNat)) := .of (fun _ h => by cases h) fun f w _ _ _ _ he _ => by
  have g1 : m ≤ (z.toNat : Int) := by omega
  have g2 : z ≤ (q.toNat : Int) := by omega
  have g3 : 0 ≤ z := by omega
  have g4 : 0 ≤ q := by omega
  have hb : (Instr.sliceBounds true n c (some (.int k1 m)) (some (.int k2 z)) (some (.int k3 q))).run P w = .ok (m.toNat, z.toNat, q.toNat) w := by
    simp [Instr.sliceBounds, Instr.sliceBound, asIntOf, h0, h1, h2, h3, g1, g2, g3, g4]
    rw [show max q 0 = q by omega, show max z 0 = z by omega, if_pos h2, if_pos h1]
  cases hq : P.info? et with
  | none => simp [hq] at hs
  | some i =>
    have hi' : i.size = size := by simpa [hq] using hs
    have : (Instr.sliceAt t (.slice A n c) (some (.int k1 m)) (some (.int k2 z)) (some (.int k3 q))).run P w = .ok (.slice (subA A q.toNat m.toNat size) (z.toNat - m.toNat) (q.toNat - m.toNat)) w := by
      simp only [Instr.sliceAt, Sem.run_bind, run_underlying ht, Result.andThen, Instr.slice, hb, sizeOf, typeInfo, run_program, hq, hi', Sem.run_pure, subA]
    simp only [execOp, Option.map_some, he _ _ hx, he _ _ hl, he _ _ hh, he _ _ hm, Sem.run_bind, this, Result.andThen, Sem.run_pure]
/-- The part of a row behind a place, as a source. -/
theorem SrcH.sub {N0 j n : Nat} {xs sp : List Value} {fz : Nat × Nat} [hp : PickB H b (.cells (xs ++ sp).toArray et fz) R] (hx : xs.length = n * size) (hj : j ≤ n) (hn : n ≤ c) : SrcH N0 B H (subA (some ⟨b, 0, none⟩) c j size) (xs.drop (j * size)) := by
  by_cases e : c = j
  · exact .inl (List.drop_of_length_le (by rw [hx]; exact Nat.mul_le_mul_right _ (by omega)))
  · have e9 : subA (some ⟨b, 0, none⟩) c j size = some ⟨b, 0 + j * size, none⟩ := by
      unfold subA; rw [if_neg e]; simp [add_mk]
    rw [e9]
    have hle : j * size ≤ n * size := Nat.mul_le_mul_right _ hj
    refine SrcH.own (n * size - j * size) ?_
    rw [Nat.zero_add, List.drop_append_of_le_length (by omega), List.take_append_of_le_length (by rw [List.length_drop]; omega), List.take_of_length_le (by rw [List.length_drop]; omega)]
/-- What is cut off ahead and behind, where the slice has an address. -/
theorem sl3A {P : Program} {S : World → Prop} {n : Nat} {lo hi : Operand} {k1 k2 : IntKind} {m z : Int} (i j : Nat) (ht : P.underlying t = some (.slice et)) (hs : (P.info? et).map (·.size) = some size) (hx : ev ρ x = some (.slice (some ⟨b, o, none⟩) n c)) (hl : ev ρ lo = some (.int k1 m)) (hh : ev ρ hi = some (.int k2 z)) (hi' : m = (i : Nat)) (hj : z = (j : Nat)) (h1 : i ≤ j) (h2 : j ≤ c) (h3 : i < c) :
    Yx P (.slice t x (some lo) (some hi) none) ty ρ S (.slice (some ⟨b, o + i * size, none⟩) (j - i) (c - i)) := by
  subst hi' hj
  have h := sl3V (P := P) (S := S) (ty := ty) ht hs hx hl hh (i := i) (j := j) (Int.toNat_natCast i) (Int.toNat_natCast j) (by omega) (by omega) (by omega)
  have e9 : subA (some ⟨b, o, none⟩) c i size = some ⟨b, o + i * size, none⟩ := by
    unfold subA; rw [if_neg (by omega)]; simp [add_mk]
  rw [e9] at h; exact h
/-- clear of a slice in a row of one's own. -/
theorem clO {k : Nat} (ht : e.P.underlying t = some (.slice et)) (hz : TI e.P et zs size bytes) (hx : ev ρ x = some (.slice (some ⟨b, o, none⟩) k c)) [hp : PickB H b (.cells cs.toArray et (0, 0)) R]
    (hk : 0 < k) (h1 : zs.all (·.oneCell') = true) (hfit : o + k * size ≤ cs.length) :
    Ox e ds (.call { callee := .builtin .clear, args := #[x], argTypes := #[t] }) ty ρ B H (fun v B' H' => v = .tuple #[] ∧ B' = B ∧ ∃ zz : List Value, zz.length = k * size ∧ H' = row b et (cs.take o ++ zz ++ cs.drop (o + k * size)) * R) :=
  .of_run (fun _ h => by cases h) fun f w dst pos after guard he s => by
    obtain ⟨i, zv, z1, z2, z3, z4, z5, z6, z7⟩ := hz
    have s' : St e.N0 B (blk b (.cells cs.toArray et (0, 0)) * R) w := hp.eq ▸ s
    obtain ⟨zz, hzz, hzl, hz1⟩ : ∃ zz : List Value, (Builtin.zeroCells zv.cells k).toList = zz ∧ zz.length = k * size ∧ zz.all (·.oneCell') = true := by
      refine ⟨_, rfl, by simp [Builtin.zeroCells, z3, z6], ?_⟩
      rw [List.all_eq_true] at h1 ⊢
      intro v hv
      simp only [Builtin.zeroCells, z3] at hv
      simp at hv
      obtain ⟨q, _, rfl⟩ := hv
      have hq : q % zs.length < zs.length := Nat.mod_lt _ (by omega)
      rw [List.getElem?_eq_getElem hq]
      exact h1 _ (List.getElem_mem hq)
    have hst := run_storeCells_at (P := e.P) b o et zz 0 cs.toArray w s'.blk.1 (by rw [hzl]; simpa using hfit) (by simpa using hz1)
    simp only [List.toList_toArray, Nat.add_zero, hzl] at hst
    obtain ⟨k, rfl⟩ : ∃ k', k = k' + 1 := ⟨k - 1, by omega⟩
    have hcl : (Builtin.clear_ #[t] ty #[.slice (some ⟨b, o, none⟩) (k + 1) c]).run e.P w = .ok (.tuple #[]) (w.setRow b (cs.take o ++ zz ++ cs.drop (o + (k + 1) * size)).toArray) := by
      simp [Builtin.clear_, run_underlying ht, zeroValue, typeInfo, z1, z2, hzz, hst]
    refine ⟨_, _, B, _, ?_, ⟨rfl, rfl, zz, hzl, rfl⟩, Frag.le_refl _, (s'.setRow _).2, (s'.setRow _).1⟩
    simp [execOp, resolve, he _ _ hx, invoke, builtin, hcl]
/-- A literal slice of nothing, as a buffer. -/
theorem bslZ (ht : e.P.underlying t = some (.slice et)) (hz : TI e.P et zs size bytes) :
    Ox e ds (.buildSlice t 0 #[]) ty ρ B H (fun v B' H' => ∃ b, v = .slice (some ⟨b, 0, none⟩) 0 0 ∧ B' = B ∧ H' = sbuf et size (some ⟨b, 0, none⟩) 0 0 [] * H) :=
  have h := bslO (e := e) (ds := ds) (ρ := ρ) (B := B) (H := H) (ty := ty) (parts := #[]) (vs := []) (len := 0) ht hz rfl rfl (fun v hv => by cases hv) (by omega)
  ⟨h.1, fun a w dst pos after guard K Q f b s k => h.2 a w dst pos after guard K Q f b s fun v B' H' w' ⟨b1, e1, e2, e3⟩ hB hb hs => k v B' _ w' ⟨b1, e1, e2, rfl⟩ hB hb (by
    subst e3
    exact St.of_sbuf (xs := []) (sp := []) (by simp) (Nat.le_refl _) (by simp) hs)⟩
/-- append to a buffer out of what is only read. -/
theorem appB {A : Option Addr} {xs : List Value} (n' : Nat) (xs' : List Value) (ht : e.P.underlying t = some (.slice et)) (htx : e.P.underlying tx = some (.slice tyx)) (hz : TI e.P et zs size bytes)
    (hx : ev ρ x = some (.slice A nl c)) (hy : ev ρ y = some (.slice Ax nx cx)) [hp : PickS H A et size nl c xs R] (hs : RoS B size Ax nx news) (h1 : news.all (·.oneCell') = true)
    (hb : nl + nx ≤ 9223372036854775807) (hbb : (nl + nx) * bytes ≤ 140737488355328) (hn : nl + nx = n') (hxs : xs ++ news = xs') :
    Ox e ds (.call { callee := .builtin .append, args := #[x, y], argTypes := #[t, tx] }) ty ρ B H
      (fun v B' H' => ∃ A' c', v = .slice A' n' c' ∧ (0 < n' → ∃ b, A' = some ⟨b, 0, none⟩) ∧ n' ≤ c' ∧ B' = B ∧ H' = sbuf et size A' n' c' xs' * R) := by
  subst hn hxs
  have h := appO (e := e) (ds := ds) (ρ := ρ) (B := B) (H := H) (ty := ty) (R := R) (p := 1) ht htx hz hx hy (hs.src 1) h1 (by rw [one_star]; exact hp.eq) hb hbb
  exact ⟨h.1, fun a w dst pos after guard K Q f b s k => h.2 a w dst pos after guard K Q f b s fun v B' H' w' ⟨A', c', e1, e2, e3, e4, e5, e6⟩ hB hb hs => k v B' _ w' ⟨A', c', e1, e2, e4, e5, rfl⟩ hB hb (by rw [e6, one_star] at hs; exact hs)⟩
theorem RoS.take {B : Frag} {n j : Nat} {A : Option Addr} {xs : List Value} (h : RoS B size A n xs) (hj : j ≤ n) : RoS B size A j (xs.take (j * size)) := by
  have hle : j * size ≤ n * size := Nat.mul_le_mul_right _ hj
  obtain ⟨h1, ⟨h2, h3⟩ | ⟨b2, o, cs, et, fz, h3, h4, h5⟩⟩ := h
  · exact ⟨by rw [List.length_take]; omega, .inl ⟨h2, by omega⟩⟩
  · exact ⟨by rw [List.length_take]; omega, .inr ⟨b2, o, cs, et, fz, h3, h4, by rw [← h5, List.take_take, Nat.min_eq_left hle]⟩⟩
theorem RoS.sub {B : Frag} {n j c : Nat} {A : Option Addr} {xs : List Value} (h : RoS B size A n xs) (hj : j ≤ n) (hn : n ≤ c) : RoS B size (subA A c j size) (n - j) (xs.drop (j * size)) := by
  have hle : j * size ≤ n * size := Nat.mul_le_mul_right _ hj
  have e : (n - j) * size = n * size - j * size := Nat.sub_mul _ _ _
  obtain ⟨h1, ⟨h2, h3⟩ | ⟨b2, o, cs, et, fz, h3, h4, h5⟩⟩ := h
  · subst h2
    exact ⟨by rw [List.length_drop]; omega, .inl ⟨subA_none _ _ _, by omega⟩⟩
  · subst h3
    refine ⟨by rw [List.length_drop]; omega, .inr ?_⟩
    by_cases hc : c = j
    · have hnj : n = j := by omega
      refine ⟨b2, o, cs, et, fz, by unfold subA; rw [if_pos hc], h4, ?_⟩
      subst hnj
      rw [Nat.sub_self, Nat.zero_mul, List.take_zero, List.drop_of_length_le (by omega)]
    · refine ⟨b2, o + j * size, cs, et, fz, by unfold subA; rw [if_neg hc]; simp [add_mk], h4, ?_⟩
      rw [← h5, e, ← List.drop_drop, List.drop_take]
end
end Go.SL
