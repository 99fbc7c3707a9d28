/-
  Ranges over functions, over the states of the small separation logic: a yield's contract, an iterator's contract, the statement, the function's end.
-/
import Derived.Test.YtgcebieihmlaoaaSlh
namespace Go.SL
open Go.RowKit
set_option linter.unusedSimpArgs false
set_option linter.unusedVariables false

/-- A yield of loop l: called with these, owning pre beside whatever R, it says yes or no. -/
def Yd (P : Program) (l : Nat) (args : List Value) (B : Frag) (pre : HP) (Φ : Bool → Frag → HP → Prop) : Prop :=
  ∀ (N0 : Nat) (w : World) (R : HP), St N0 B (pre * R) w → ∃ fn tmps assign body, (Instr.yield l args.toArray).run P w = .ok (.round l fn tmps assign body) w ∧
    RoundIn (FW none) 0 P l fn tmps assign body w fun x w' => ∃ t B' H', x = .returned (.bool t) ∧ Φ t B' H' ∧ B.le B' ∧ Below N0 w w' ∧ St N0 B' (H' * R) w'

/-- An iterator's contract: it hands xs to yield, one by one, till yield says no; own is its own while it runs. -/
def It (P : Program) (gf : FuncId) (caps : List Value) {α : Type} (enc : α → List Value) (xs : List α) (B : Frag) (own : HP) : Prop :=
  (∀ args w, (callFunc gf args).run P w = .ok (.enter gf args) w) ∧
  ∀ (l : Nat) (J Jx : List α → Frag → HP → Prop),
    (∀ pre x post B1 H1, xs = pre ++ x :: post → B.le B1 → J pre B1 H1 → Yd P l (enc x) B1 H1 fun t B' H' => (t = true ∧ J (pre ++ [x]) B' H') ∨ (t = false ∧ Jx (pre ++ [x]) B' H')) →
    ∀ B1 H1, B.le B1 → J [] B1 H1 → Ct P gf (.func (.yield l) #[] #[] :: caps) B1 (own * H1) fun v B' H' => ∃ H2, H' = own * H2 ∧ (J xs B' H2 ∨ ∃ pre post, xs = pre ++ post ∧ Jx pre B' H2)

section
variable {e : Env} {ds : List Deferred} {Q : Exit → Act → World → Prop} {ρ ρ' : Sl} {B B' B0 B1 : Frag} {H H' R : HP} {K : Act → World → Prop} {P : Program}

theorem Ox.yield {x : Operand} {xs : Array Operand} {ts : Array TypeId} {ty : TypeId} {l : Nat} {vs : List Value} {pre R : HP} {Φ : Bool → Frag → HP → Prop}
    (hf : ev ρ x = some (.func (.yield l) #[] #[])) (hx : evl ρ xs.toList = some vs) (hy : Yd e.P l vs B pre Φ) (hH : H = pre * R) :
    Ox e ds (.call { callee := .value x, args := xs, argTypes := ts }) ty ρ B H (fun v B' H' => ∃ t H1, v = .bool t ∧ H' = H1 * R ∧ Φ t B' H1) :=
  ⟨fun _ h => (by cases h), fun a w dst pos after guard K Q f b s k => by
    have hfv := f.ev _ _ hf
    have hxv : xs.map a.eval = vs.toArray := by
      have := f.ev.map hx
      apply Array.toList_inj.1
      simp [this]
    obtain ⟨fn, tmps, assign, body, hr, hR⟩ := hy e.N0 w R (hH ▸ s)
    have hrun : (execOp a.eval ⟨dst, .call { callee := .value x, args := xs, argTypes := ts }, ty, pos, after, guard⟩).run e.P w = .ok (.round l fn tmps assign body) w := by
      simp only [execOp, resolve, hfv, Deferred.ofValue, hxv, Sem.run_bind, Sem.run_pure, Result.andThen, invoke]
      simpa using hr
    rw [hrun]
    refine ⟨fun h => by simp [FW] at h, RoundIn.mono (F := FW e.r) hR ?_⟩
    rintro y w' ⟨t, B', H', rfl, hΦ, hB, b', s'⟩
    exact k (.bool t) B' _ w' ⟨t, H', rfl, rfl, hΦ⟩ hB (b.trans b') s'⟩

variable {ops : Array Oper} {rest : List Oper}
theorem Lx.yield {x : Operand} {xs : Array Operand} {ts : Array TypeId} {ty : TypeId} {pos : String} {af : Array Edge} {d l : Nat} {vs : List Value} {pre R : HP} {Φ : Bool → Frag → HP → Prop}
    (hf : ev ρ x = some (.func (.yield l) #[] #[])) (hx : evl ρ xs.toList = some vs) (hy : Yd e.P l vs B pre Φ) (hH : H = pre * R) (hd : Nat.blt d e.nt = true)
    (k : ∀ t B' H', Φ t B' H' → B.le B' → Lx e ds ops Q rest ((d, .bool t) :: ρ) B' (H' * R)) : Lx e ds ops Q (⟨some d, .call { callee := .value x, args := xs, argTypes := ts }, ty, pos, af, none⟩ :: rest) ρ B H :=
  Lx.o (Ox.yield hf hx hy hH) hd fun v B' H' ⟨t, H1, e1, e2, hΦ⟩ hB => by subst e1; subst e2; exact k t B' H1 hΦ hB

/-- The slots of a round's begin. -/
def asgn : List Tmp → List Value → Sl → Sl
  | p :: ps, v :: vs, ρ => asgn ps vs ((p, v) :: ρ)
  | _, _, ρ => ρ
theorem asgn_fr {nt : Nat} : ∀ (ps : List Tmp) (vs : List Value) (ρ : Sl) (t : Array Value), ps.all (fun p => Nat.blt p nt) = true → Fr ρ nt [] ⟨t, []⟩ →
    Fr (asgn ps vs ρ) nt [] ⟨(ps.zip vs).foldl (fun t (x : Tmp × Value) => t.setIfInBounds x.1 x.2) t, []⟩ := by
  intro ps
  induction ps with
  | nil => intro vs ρ t _ h; simpa [asgn] using h
  | cons p ps ih =>
    intro vs ρ t hp h
    cases vs with
    | nil => simpa [asgn] using h
    | cons v vs =>
      simp only [List.all_cons, Bool.and_eq_true] at hp
      simp only [asgn, List.zip_cons_cons, List.foldl_cons]
      exact ih vs _ _ hp.2 (h.put hp.1 v)

/-- What is asked at a round's end. -/
def RQ {α : Type} (N0 : Nat) (w0 : World) (B1 : Frag) (J : List α → Frag → HP → Prop) (Jx : Code → List α → Frag → HP → Prop) (pre : List α) (F : HP) : Exit → Act → World → Prop
  | .normal, _, w => ∃ B' H', J pre B' H' ∧ B1.le B' ∧ Below N0 w0 w ∧ St N0 B' (H' * F) w
  | .ret, _, w => ∃ B' H', Jx .ret pre B' H' ∧ B1.le B' ∧ Below N0 w0 w ∧ St N0 B' (H' * F) w
  | .exit id, _, w => ∃ B' H', Jx (.exit id) pre B' H' ∧ B1.le B' ∧ Below N0 w0 w ∧ St N0 B' (H' * F) w
  | _, _, _ => False
variable {α : Type} {N0 nt : Nat} {w0 : World} {r : Option Nat} {J : List α → Frag → HP → Prop} {Jx : Code → List α → Frag → HP → Prop} {pre : List α} {F : HP}
theorem Xx.rqn (hJ : J pre B H') (hB : B1.le B) (hH : H = H' * F) : Xx ⟨P, r, N0, w0, nt⟩ ds (RQ N0 w0 B1 J Jx pre F .normal) ρ B H := fun _ _ _ b s => ⟨B, H', hJ, hB, b, hH ▸ s⟩
theorem Xx.rqr (hJ : Jx .ret pre B H') (hB : B1.le B) (hH : H = H' * F) : Xx ⟨P, r, N0, w0, nt⟩ ds (RQ N0 w0 B1 J Jx pre F .ret) ρ B H := fun _ _ _ b s => ⟨B, H', hJ, hB, b, hH ▸ s⟩
theorem Xx.rqe {id : Nat} (hJ : Jx (.exit id) pre B H') (hB : B1.le B) (hH : H = H' * F) : Xx ⟨P, r, N0, w0, nt⟩ ds (RQ N0 w0 B1 J Jx pre F (.exit id)) ρ B H := fun _ _ _ b s => ⟨B, H', hJ, hB, b, hH ▸ s⟩

theorem St.putObj {o o' : Obj} {b : Nat} {w : World} (h : St N0 B (SL.blk b o * R) w) : St N0 B (SL.blk b o' * R) (w.putObj b o') ∧ Below N0 w (w.putObj b o') := by
  have hlt : b < w.heap.size := (Array.getElem?_eq_some_iff.1 h.blk.1).1
  exact ⟨h.put (World.putObj_heap_same hlt) (fun k hk => World.putObj_heap_other hk) (by simp), ⟨rfl, rfl, rfl, by simp, fun k hk => World.putObj_heap_other (by have := h.blk.2.2; omega)⟩⟩

abbrev mkRec (fn : FuncId) (tmps : Array Value) (ps : Array Tmp) (assign body : Code) (D : Nat) (st : LoopState) (pe : Option Code) : Loop :=
  { state := st, pending := pe, fn, tmps, params := ps, assign, body, defers := D }
abbrev dfr : Obj := .deferred (some [])
abbrev mark (D : Nat) : Deferred := { target := .collected D, args := #[] }

/-- A range over a function, outside of every other one. -/
theorem Cx.rangeF {g : Operand} {ps : Array Tmp} {assign body : Code} {gf : FuncId} {caps : List Value} {enc : α → List Value} {xs : List α} {own H1 R : HP}
    (hr : e.r = none) (hg : ev ρ g = some (.func (.func gf) #[] caps.toArray)) (hIt : It e.P gf caps enc xs B own) (hH : H = own * (H1 * R)) (hnt : ps.toList.all (fun p => Nat.blt p e.nt) = true) (hps : ∀ x, (enc x).length = ps.size)
    (J : List α → Frag → HP → Prop) (Jx : Code → List α → Frag → HP → Prop) (AS : List α → α → Frag → Sl → Frag → HP → Prop) (h0 : J [] B H1)
    (hassign : ∀ (l N0 : Nat) (w0 : World) pre x post B1 H1 (F : HP) (K : Act → World → Prop), xs = pre ++ x :: post → B.le B1 → J pre B1 H1 →
      (∀ ρ' B' H', AS pre x B1 ρ' B' H' → B1.le B' → Xx ⟨e.P, some l, N0, w0, e.nt⟩ [] K ρ' B' (H' * F)) →
      Cx ⟨e.P, some l, N0, w0, e.nt⟩ [] assign (Exit.then K (fun _ _ _ => False)) (asgn ps.toList (enc x) ρ) B1 (H1 * F))
    (hbody : ∀ (l N0 : Nat) (w0 : World) pre x post B1 (F : HP) ρ' B' H', xs = pre ++ x :: post → B.le B1 → B1.le B' → AS pre x B1 ρ' B' H' → Cx ⟨e.P, some l, N0, w0, e.nt⟩ [] body (RQ N0 w0 B1 J Jx (pre ++ [x]) F) ρ' B' (H' * F))
    (hdone : ∀ D B' H', B.le B' → J xs B' H' → Xx e (mark D :: ds) (Q .normal) ρ B' (H' * (blk D dfr * (own * R))))
    (hstop : ∀ D c pre post B' H', xs = pre ++ post → B.le B' → Jx c pre B' H' → Cx e (mark D :: ds) c Q ρ B' (H' * (blk D dfr * (own * R)))) :
    Cx e ds (.rangeFunc g ps assign body) Q ρ B H := by
  intro a w f b s
  refine wpIn_rangeFunc ?_
  intro fn _
  have hgv := f.ev _ _ hg
  have s1 := (s.alloc dfr).alloc (.loop (mkRec fn a.tmps ps assign body w.heap.size .ready none))
  have b1 : Below e.N0 e.w0 ((w.alloc dfr).alloc (.loop (mkRec fn a.tmps ps assign body w.heap.size .ready none))) := (b.alloc s.sz _).alloc (s.alloc dfr).sz _
  rw [World.size_alloc, hH] at s1
  -- the loop's record l, the block D
  generalize hl : w.heap.size + 1 = l at *
  generalize hD : w.heap.size = D at *
  generalize hw1 : (w.alloc dfr).alloc (.loop (mkRec fn a.tmps ps assign body D .ready none)) = w1 at *
  have s2 : St e.N0 B ((own * (H1 * (blk l (.loop (mkRec fn a.tmps ps assign body D .ready none)) * blk D dfr))) * R) w1 := by
    exact s1.of_eq (by ac_rfl)
  have heg := hIt.1 #[.func (.yield l) #[] #[], ] w1
  let J' : List α → Frag → HP → Prop := fun pre B' H' => ∃ H1, H' = H1 * (blk l (.loop (mkRec fn a.tmps ps assign body D .ready none)) * blk D dfr) ∧ J pre B' H1
  let Jx' : List α → Frag → HP → Prop := fun pre B' H' => ∃ c H1, H' = H1 * (blk l (.loop (mkRec fn a.tmps ps assign body D .done (some c))) * blk D dfr) ∧ Jx c pre B' H1
  have hct := hIt.2 l J' Jx' ?round B _ (Frag.le_refl _) ⟨H1, rfl, h0⟩
  case round =>
    rintro pre x post B1 _ hxs hB1 ⟨H2, rfl, hJ⟩ N0 wy Rf sy
    have hrl : wy.heap[l]? = some (.loop (mkRec fn a.tmps ps assign body D .ready none)) := by
      have : St N0 B1 (blk l (.loop (mkRec fn a.tmps ps assign body D .ready none)) * (H2 * (blk D dfr * Rf))) wy := sy.of_eq (by ac_rfl)
      exact this.blk.1
    have hy := run_yield (P := e.P) (args := (enc x).toArray) hrl (by simpa using hps x)
    refine ⟨fn, _, assign, body, hy, roundIn_of_wpIn trivial ?_⟩
    have hfr := asgn_fr (nt := e.nt) ps.toList (enc x) ρ a.tmps hnt ⟨f.size, f.get, rfl⟩
    have hzip : (ps.zip (enc x).toArray).foldl (fun tmps (t, a) => tmps.setIfInBounds t a) a.tmps = (ps.toList.zip (enc x)).foldl (fun t (y : Tmp × Value) => t.setIfInBounds y.1 y.2) a.tmps := by
      rw [← Array.foldl_toList, Array.toList_zip]
    show Code.wpIn (FW (some l)) 0 e.P assign _ { tmps := (ps.zip (enc x).toArray).foldl (fun tmps (t, a) => tmps.setIfInBounds t a) a.tmps, defers := [] } wy
    rw [hzip]
    refine hassign l N0 wy pre x post B1 H2 ((blk l (.loop (mkRec fn a.tmps ps assign body D .ready none)) * blk D dfr) * Rf) _ hxs hB1 hJ ?_ _ wy hfr (Below.refl _ _) (by rw [← star_assoc]; exact sy)
    intro ρ' B' H' hAS hB' a1 wa fa ba sa
    have sa' : St N0 B' (blk l (.loop (mkRec fn a.tmps ps assign body D .ready none)) * (H' * (blk D dfr * Rf))) wa := sa.of_eq (by ac_rfl)
    have hbr := run_beginRound (P := e.P) sa'.blk.1 rfl
    refine ⟨_, hbr, ?_⟩
    have sb := sa'.putObj (o' := .loop { mkRec fn a.tmps ps assign body D .ready none with state := .busy })
    have sb2 : St N0 B' (H' * ((blk l (.loop { mkRec fn a.tmps ps assign body D .ready none with state := .busy }) * blk D dfr) * Rf)) (wa.putObj l (.loop { mkRec fn a.tmps ps assign body D .ready none with state := .busy })) := sb.1.of_eq (by ac_rfl)
    refine wpIn_mono (hbody l N0 wy pre x post B1 _ ρ' B' H' hxs hB1 hB' hAS a1 _ fa (ba.trans sb.2) sb2) ?_
    have fin : ∀ (jump : Option Code) (w3 : World) B3 H3, St N0 B3 (H3 * ((blk l (.loop { mkRec fn a.tmps ps assign body D .ready none with state := .busy }) * blk D dfr) * Rf)) w3 →
        (Instr.endRound l jump).run e.P w3 = .ok (.bool jump.isNone) (w3.putObj l (.loop (mkRec fn a.tmps ps assign body D (if jump.isNone then .ready else .done) jump))) ∧ Below N0 w3 (w3.putObj l (.loop (mkRec fn a.tmps ps assign body D (if jump.isNone then .ready else .done) jump))) ∧
        St N0 B3 ((H3 * (blk l (.loop (mkRec fn a.tmps ps assign body D (if jump.isNone then .ready else .done) jump)) * blk D dfr)) * Rf) (w3.putObj l (.loop (mkRec fn a.tmps ps assign body D (if jump.isNone then .ready else .done) jump))) := by
      intro jump w3 B3 H3 s3
      have s3' : St N0 B3 (blk l (.loop { mkRec fn a.tmps ps assign body D .ready none with state := .busy }) * (H3 * (blk D dfr * Rf))) w3 := s3.of_eq (by ac_rfl)
      have h1 := run_endRound (P := e.P) jump s3'.blk.1
      have h2 := s3'.putObj (o' := .loop (mkRec fn a.tmps ps assign body D (if jump.isNone then .ready else .done) jump))
      refine ⟨h1, h2.2, h2.1.of_eq (by ac_rfl)⟩
    rintro x3 a3 w3 hp
    cases x3 with
    | normal =>
      obtain ⟨B3, H3, hJ3, hB3, b3, s3⟩ := hp
      obtain ⟨h1, h2, h3⟩ := fin none w3 B3 H3 s3
      exact ⟨_, _, h1, true, B3, _, rfl, .inl ⟨rfl, H3, rfl, hJ3⟩, hB3, b3.trans h2, h3⟩
    | ret =>
      obtain ⟨B3, H3, hJ3, hB3, b3, s3⟩ := hp
      obtain ⟨h1, h2, h3⟩ := fin (some .ret) w3 B3 H3 s3
      exact ⟨_, _, h1, false, B3, _, rfl, .inr ⟨rfl, _, H3, rfl, hJ3⟩, hB3, b3.trans h2, h3⟩
    | exit id =>
      obtain ⟨B3, H3, hJ3, hB3, b3, s3⟩ := hp
      obtain ⟨h1, h2, h3⟩ := fin (some (.exit id)) w3 B3 H3 s3
      exact ⟨_, _, h1, false, B3, _, rfl, .inr ⟨rfl, _, H3, rfl, hJ3⟩, hB3, b3.trans h2, h3⟩
    | goto t => exact hp.elim
    | panic ch => exact hp.elim
    | outgrown => exact hp.elim
  refine ⟨l, [mark D], w1, { target := .fn (.func gf) caps.toArray, args := #[.func (.yield l) #[] #[]] }, w1, gf, (.func (.yield l) #[] #[] :: caps).toArray, w1, ?_, ?_, fun _ _ => trivial, ?_, fun h => by simp [FW] at h, ?_⟩
  · have : (FW e.r).round = none := hr
    rw [this, ← hw1, ← hl]
    have := run_enterLoop_outer (P := e.P) (w := w) fn a.tmps ps assign body
    rw [hD] at this
    exact this
  · simp only [resolve, hgv, Deferred.ofValue]
    simp [Act.eval]
  · simp only [invoke]
    have := hIt.1 (#[.func (.yield l) #[] #[]] ++ caps.toArray) w1
    simpa using this
  · refine callsIn_FW.2 ((hct.2 e.N0 w1 R s2).mono ?_)
    rintro y w2 ⟨v, B', _, rfl, ⟨H2, rfl, (⟨H3, rfl, hJ⟩ | ⟨pre, post, hpp, c, H3, rfl, hJ⟩)⟩, hB', b2, s3⟩
    · have s3' : St e.N0 B' (blk l (.loop (mkRec fn a.tmps ps assign body D .ready none)) * (H3 * (blk D dfr * (own * R)))) w2 := s3.of_eq (by ac_rfl)
      have h1 := run_endLoop (P := e.P) s3'.blk.1 (by simp)
      have h2 := s3'.putObj (o' := .loop { mkRec fn a.tmps ps assign body D .ready none with state := .exhausted })
      refine ⟨none, _, h1, ?_⟩
      exact hdone D B' H3 hB' hJ _ _ ⟨f.size, f.get, by simp [f.defers]⟩ ((b1.trans b2).trans h2.2) h2.1.drop
    · have s3' : St e.N0 B' (blk l (.loop (mkRec fn a.tmps ps assign body D .done (some c))) * (H3 * (blk D dfr * (own * R)))) w2 := s3.of_eq (by ac_rfl)
      have h1 := run_endLoop (P := e.P) s3'.blk.1 (by simp)
      have h2 := s3'.putObj (o' := .loop { mkRec fn a.tmps ps assign body D .done (some c) with state := .exhausted })
      refine ⟨some c, _, h1, ?_⟩
      exact hstop D c pre post B' H3 hpp hB' hJ _ _ ⟨f.size, f.get, by simp [f.defers]⟩ ((b1.trans b2).trans h2.2) h2.1.drop

/-- The same; σ: slots that the rounds may look at. -/
theorem Cx.rangeK {g : Operand} {ps : Array Tmp} {assign body : Code} {gf : FuncId} {caps : List Value} {enc : α → List Value} {xs : List α} {own H1 R : HP} {σ : Sl} (hσ : Sub ρ σ)
    (hr : e.r = none) (hg : ev ρ g = some (.func (.func gf) #[] caps.toArray)) (hIt : It e.P gf caps enc xs B own) (hH : H = own * (H1 * R)) (hnt : ps.toList.all (fun p => Nat.blt p e.nt) = true) (hps : ∀ x, (enc x).length = ps.size)
    (J : List α → Frag → HP → Prop) (Jx : Code → List α → Frag → HP → Prop) (AS : List α → α → Frag → Sl → Frag → HP → Prop) (h0 : J [] B H1)
    (hassign : ∀ (l N0 : Nat) (w0 : World) pre x post B1 H1 (F : HP) (K : Act → World → Prop), xs = pre ++ x :: post → B.le B1 → J pre B1 H1 →
      (∀ ρ' B' H', AS pre x B1 ρ' B' H' → B1.le B' → Xx ⟨e.P, some l, N0, w0, e.nt⟩ [] K (ρ' ++ σ) B' (H' * F)) →
      Cx ⟨e.P, some l, N0, w0, e.nt⟩ [] assign (Exit.then K (fun _ _ _ => False)) (asgn ps.toList (enc x) ρ) B1 (H1 * F))
    (hbody : ∀ (l N0 : Nat) (w0 : World) pre x post B1 (F : HP) ρ' B' H', xs = pre ++ x :: post → B.le B1 → B1.le B' → AS pre x B1 ρ' B' H' → Cx ⟨e.P, some l, N0, w0, e.nt⟩ [] body (RQ N0 w0 B1 J Jx (pre ++ [x]) F) (ρ' ++ σ) B' (H' * F))
    (hdone : ∀ D B' H', B.le B' → J xs B' H' → Xx e (mark D :: ds) (Q .normal) ρ B' (H' * (blk D dfr * (own * R))))
    (hstop : ∀ D c pre post B' H', xs = pre ++ post → B.le B' → Jx c pre B' H' → Cx e (mark D :: ds) c Q ρ B' (H' * (blk D dfr * (own * R)))) :
    Cx e ds (.rangeFunc g ps assign body) Q ρ B H :=
  Cx.rangeF hr hg hIt hH hnt hps J Jx (fun pre x B1 ρ' B' H' => ∃ ρ'', ρ' = ρ'' ++ σ ∧ AS pre x B1 ρ'' B' H') h0
    (fun l N0 w0 pre x post B1 H1 F K hxs hB1 hJ hK => hassign l N0 w0 pre x post B1 H1 F K hxs hB1 hJ fun ρ' B' H' hAS hB' => hK _ B' H' ⟨ρ', rfl, hAS⟩ hB')
    (fun l N0 w0 pre x post B1 F ρ' B' H' hxs hB1 hB' ⟨ρ'', h1, hAS⟩ => by subst h1; exact hbody l N0 w0 pre x post B1 F ρ'' B' H' hxs hB1 hB' hAS) hdone hstop

/-- The end of a function that ranged over functions: each mark's block is there, and empty. -/
def marks : List Nat → HP
  | [] => 1
  | D :: l => blk D dfr * marks l
theorem leavesM {fn : Func} {tmps : Array Value} {Rr : Ending → World → Prop} {HR : HP} : ∀ (Ds : List Nat) (w : World), Below N0 w0 w → St N0 B (marks Ds * HR) w →
    (∀ w', Below N0 w0 w' → St N0 B HR w' → ∃ v, (results fn tmps).run P w' = .ok v w' ∧ Rr (.returned v) w') → LeavesInM (FW r) 0 P fn tmps Rr (Ds.map mark) .returning w := by
  intro Ds
  induction Ds with
  | nil =>
    intro w hb hs h
    simp only [marks, one_star] at hs
    exact h w hb hs
  | cons D Ds ih =>
    intro w hb hs h
    have hs' : St N0 B (SL.blk D dfr * (marks Ds * HR)) w := hs.of_eq (by simp only [marks]; ac_rfl)
    have h2 := hs'.putObj (o' := .deferred none)
    exact ⟨by simp, .inl ⟨D, _, rfl, run_takeDeferred hs'.blk.1, ih _ (hb.trans h2.2) h2.1.drop h⟩⟩

theorem Xx.rM {fn : Func} {Ds : List Nat} {Φ : Value → Frag → HP → Prop} {v : Value} (hr : ∀ a w, Fr ρ nt (Ds.map mark) a → St N0 B (H' * R) w → (results fn a.tmps).run P w = .ok v w)
    (hΦ : Φ v B H') (hB : B0.le B) (hH : H = marks Ds * (H' * R)) : Xx ⟨P, r, N0, w0, nt⟩ (Ds.map mark) (bodyPostM (FW none) 0 P fn (Fin N0 w0 R B0 Φ) .ret) ρ B H := fun a w f b s => by
  show LeavesInM (FW none) 0 P fn a.tmps _ a.defers .returning w
  rw [f.defers]
  exact leavesM Ds w b (hH ▸ s) fun w' b' s' => ⟨v, hr a w' f s', v, B, H', rfl, hΦ, hB, b', s'⟩
theorem Xx.rBM {fn : Func} {Ds : List Nat} {Φ : Value → Frag → Prop} {v : Value} (hr : ∀ a w, Fr ρ nt (Ds.map mark) a → St N0 B R w → (results fn a.tmps).run P w = .ok v w)
    (hΦ : Φ v B) (hB : B0.le B) (hH : H = marks Ds * R) : Xx ⟨P, r, N0, w0, nt⟩ (Ds.map mark) (bodyPostM (FW none) 0 P fn (FinB N0 w0 R B0 Φ) .ret) ρ B H := fun a w f b s => by
  show LeavesInM (FW none) 0 P fn a.tmps _ a.defers .returning w
  rw [f.defers]
  exact leavesM Ds w b (hH ▸ s) fun w' b' s' => ⟨v, hr a w' f s', v, B, rfl, hΦ, hB, b', s'⟩
/-- What a slot, or two, hand back. -/
theorem res1 {fn : Func} {t : Tmp} {v : Value} {ds : List Deferred} (hr : fn.results = #[.tmp t]) (hv : lk ρ t = some v) : ∀ a w, Fr ρ nt ds a → St N0 B H w → (results fn a.tmps).run P w = .ok v w := fun a w f _ => by
  rw [results_tmp hr]; have := f.get t v hv; simp [this]
theorem res2 {fn : Func} {t u : Tmp} {v x : Value} {ds : List Deferred} (hr : fn.results = #[.tmp t, .tmp u]) (hv : lk ρ t = some v) (hx : lk ρ u = some x) : ∀ a w, Fr ρ nt ds a → St N0 B H w → (results fn a.tmps).run P w = .ok (.tuple #[v, x]) w := fun a w f _ => by
  rw [results_tmp2 hr]; have h1 := f.get t v hv; have h2 := f.get u x hx; simp [h1, h2]
/-- A result in a cell of one's own. -/
theorem resC1 {fn : Func} {t : Tmp} {ty : TypeId} {v : Value} {ds : List Deferred} {b : Nat} {et : TypeId} {d : TypeDesc} (hr : fn.results = #[.cell t ty]) (ht : P.underlying ty = some d) (hd : aggB d = false) (hv : lk ρ t = some (.pointer (some ⟨b, 0, none⟩))) [hp : PickB H b (.cells [v].toArray et (0, 0)) R] :
    ∀ a w, Fr ρ nt ds a → St N0 B H w → (results fn a.tmps).run P w = .ok v w := fun a w f s => by
  have s' : St N0 B (blk b (.cells [v].toArray et (0, 0)) * R) w := hp.eq ▸ s
  have h1 := f.get t _ hv
  have hc := cell_of_heap (o := 0) s'.blk.1 (v := v) rfl
  have hg := run_isAgg (P := P) ht w
  rw [hd] at hg
  simp [results, hr, h1, Sem.run_bind, asAddr, loadVar, hg, hc]
/-- A block let go, or made only to read, wherever it stands. -/
theorem Xx.dropB (b : Nat) {o : Obj} [hp : PickB H b o R] (h : Xx e ds K ρ B R) : Xx e ds K ρ B H := Xx.perm (Xx.drop h) hp.eq
theorem Xx.freezeB (b : Nat) {o : Obj} [hp : PickB H b o R] (h : ∀ B', B.le B' → B' b = some o → Xx e ds K ρ B' R) : Xx e ds K ρ B H := Xx.perm (Xx.freeze h) hp.eq
/-- The buffer at A, wherever it stands. -/
class PickS (H : HP) (A : Option Addr) (et : outParam TypeId) (size n c : outParam Nat) (xs : outParam (List Value)) (R : outParam HP) : Prop where
  eq : H = sbuf et size A n c xs * R
instance (A : Option Addr) (et : TypeId) (size n c : Nat) (xs : List Value) (R : HP) : PickS (sbuf et size A n c xs * R) A et size n c xs R := ⟨rfl⟩
instance (y H : HP) (A : Option Addr) (et : TypeId) (size n c : Nat) (xs : List Value) (R : HP) [h : PickS H A et size n c xs R] : PickS (y * H) A et size n c xs (y * R) := ⟨by rw [h.eq, star_left]⟩
theorem Xx.freezeT (A : Option Addr) {et : TypeId} {size n c : Nat} {xs : List Value} [hp : PickS H A et size n c xs R]
    (h : ∀ B', B.le B' → RoS B' size A n xs → n ≤ c → xs.length = n * size → Xx e ds K ρ B' R) : Xx e ds K ρ B H :=
  Xx.perm (Xx.sbuf_facts fun h1 _ => Xx.freezeS fun B' h2 h3 h4 => h B' h2 h3 h4 h1) hp.eq
/-- append to a buffer what a row of one's own holds. -/
theorem appR {e : Env} {ds : List Deferred} {ρ : Sl} {B : Frag} {H R1 R : HP} {t tx et ty : TypeId} {x y : Operand} {size bytes nl c nx cx b : Nat} {zs xs news cs : List Value} {A : Option Addr} {tyx et' : TypeId} {fz : Nat × Nat}
    (ht : e.P.underlying t = some (.slice et)) (htx : e.P.underlying tx = some (.slice tyx)) (hz : TI e.P et zs size bytes)
    (hx : ev ρ x = some (.slice A nl c)) (hy : ev ρ y = some (.slice (some ⟨b, 0, none⟩) nx cx)) [h1 : PickS H A et size nl c xs R1] [h2 : PickB R1 b (.cells cs.toArray et' fz) R] (hl : news.length = nx * size) (hn : (cs.drop 0).take (nx * size) = news) (h1 : news.all (·.oneCell') = true)
    (hb : nl + nx ≤ 9223372036854775807) (hbb : (nl + nx) * bytes ≤ 140737488355328) :
    Ox e ds (.call { callee := .builtin .append, args := #[x, y], argTypes := #[t, tx] }) ty ρ B H
      (fun v B' H' => ∃ A' c', v = .slice A' (nl + nx) c' ∧ (0 < nl + nx → ∃ b, A' = some ⟨b, 0, none⟩) ∧ xs.length = nl * size ∧ nl + nx ≤ c' ∧ B' = B ∧ H' = sbuf et size A' (nl + nx) c' (xs ++ news) * (blk b (.cells cs.toArray et' fz) * R)) :=
  appO ht htx hz hx hy (Src'.row hl hn) h1 (by rw [PickS.eq (H := H) (A := A), h2.eq]) hb hbb
/-- A row of one's own, as a buffer. -/
theorem Xx.toS (b : Nat) {cs : List Value} {et : TypeId} (size n c : Nat) [hp : PickB H b (.cells cs.toArray et (0, 0)) R] (h1 : cs.length = n * size) (h2 : n ≤ c) (h3 : cs.length = c * size)
    (h : Xx e ds K ρ B (sbuf et size (some ⟨b, 0, none⟩) n c cs * R)) : Xx e ds K ρ B H :=
  Xx.perm (Xx.imp h (star_mono (fun k hk => sbuf_one (sp := []) h1 h2 (by simpa using h3) k (by simpa using hk)) fun _ h => h)) hp.eq
/-- A result in a cell, in a function that ranged over functions. -/
theorem Xx.rBMc {fn : Func} {Ds : List Nat} {Φ : Value → Frag → Prop} {v : Value} {G : HP} (hr : ∀ a w, Fr ρ nt (Ds.map mark) a → St N0 B (G * R) w → (results fn a.tmps).run P w = .ok v w)
    (hΦ : Φ v B) (hB : B0.le B) (hH : H = marks Ds * (G * R)) : Xx ⟨P, r, N0, w0, nt⟩ (Ds.map mark) (bodyPostM (FW none) 0 P fn (FinB N0 w0 R B0 Φ) .ret) ρ B H := fun a w f b s => by
  show LeavesInM (FW none) 0 P fn a.tmps _ a.defers .returning w
  rw [f.defers]
  exact leavesM Ds w b (hH ▸ s) fun w' b' s' => ⟨v, hr a w' f s', v, B, rfl, hΦ, hB, b', s'.drop⟩
/-- A place of a slice that is only read. -/
theorem _root_.Go.SL.RoS.at {B : Frag} {size n k : Nat} {A : Option Addr} {xs : List Value} (h : RoS B size A n xs) (hk : k < n) :
    ∃ b o cs et fz, A = some ⟨b, o, none⟩ ∧ B b = some (.cells (List.toArray cs) et fz) ∧ (cs.drop (o + k * size)).take size = (xs.drop (k * size)).take size := by
  obtain ⟨h1, h2 | ⟨b, o, cs, et, fz, h3, h4, h5⟩⟩ := h
  · omega
  · refine ⟨b, o, cs, et, fz, h3, h4, ?_⟩
    subst h5
    rw [List.drop_take, List.drop_drop, List.take_take, Nat.min_eq_left]
    have : (k + 1) * size ≤ n * size := Nat.mul_le_mul_right _ hk
    rw [Nat.add_mul, Nat.one_mul] at this
    omega
theorem _root_.Go.SL.RoS.at1 {B : Frag} {n k : Nat} {A : Option Addr} {xs : List Value} (h : RoS B 1 A n xs) (hk : k < n) :
    ∃ b o cs et fz, A = some ⟨b, o, none⟩ ∧ B b = some (.cells (List.toArray cs) et fz) ∧ cs[o + k * 1]? = xs[k]? := by
  obtain ⟨b, o, cs, et, fz, h1, h2, h3⟩ := h.at hk
  refine ⟨b, o, cs, et, fz, h1, h2, ?_⟩
  have := congrArg (·[0]?) h3
  simpa [List.getElem?_take, List.getElem?_drop] using this
end
end Go.SL
