/-
  Texts of this seat, one behind the other: Slv, SlA, SlB, BtN, DrB, DrC, DrD, BtQ, BtR, DrE, DrF.
-/
import Derived.Sort.OwnSortedInts
import Derived.Test.YtdidpocakipinaaGreatDoorProg
import Derived.Test.YtdidpocakipinaaGreatDoorMp4
set_option linter.unusedSectionVars false
set_option linter.unusedSimpArgs false
set_option linter.unusedVariables false
namespace Go.SL
open Go.RowKit
open Go.ChangeMaps (setBlock)
open Go.Sort Go.Proofs
def ItA (P : Program) (gf : FuncId) (caps : List Value) {α : Type} (enc : α → List Value) (Adm Fn : List α → Prop) (B : Frag) (own : HP) : Prop :=
  (∀ args w, (callFunc gf args).run P w = .ok (.enter gf args) w) ∧
  ∀ (l : Nat) (J Jx : List α → Frag → HP → Prop),
    (∀ pre x B1 H1, Adm (pre ++ [x]) → B.le B1 → J pre B1 H1 → Yd P l (enc x) B1 H1 fun t B' H' => (t = true ∧ J (pre ++ [x]) B' H') ∨ (t = false ∧ Jx (pre ++ [x]) B' H')) →
    ∀ B1 H1, B.le B1 → J [] B1 H1 → Ct P gf (.func (.yield l) #[] #[] :: caps) B1 (own * H1) fun v B' H' => ∃ H2, H' = own * H2 ∧ ((∃ xs, Fn xs ∧ J xs B' H2) ∨ ∃ pre, Jx pre B' H2)
section
variable {e : Env} {ds : List Deferred} {Q : Exit → Act → World → Prop} {ρ ρ' : Sl} {B B' B0 B1 : Frag} {H H' R : HP} {K : Act → World → Prop} {P : Program} {α : Type}
theorem Cx.rangeAF {g : Operand} {ps : Array Tmp} {assign body : Code} {gf : FuncId} {caps : List Value} {enc : α → List Value} {Adm Fn : List α → Prop} {own H1 R : HP}
    (hr : e.r = none) (hg : ev ρ g = some (.func (.func gf) #[] caps.toArray)) (hIt : ItA e.P gf caps enc Adm Fn B own) (hH : H = own * (H1 * R)) (hnt : ps.toList.all (fun p => Nat.blt p e.nt) = true) (hps : ∀ x, (enc x).length = ps.size)
    (J : List α → Frag → HP → Prop) (Jx : Code → List α → Frag → HP → Prop) (AS : List α → α → Frag → Sl → Frag → HP → Prop) (h0 : J [] B H1)
    (hassign : ∀ (l N0 : Nat) (w0 : World) pre x B1 H1 (F : HP) (K : Act → World → Prop), Adm (pre ++ [x]) → B.le B1 → J pre B1 H1 →
      (∀ ρ' B' H', AS pre x B1 ρ' B' H' → B1.le B' → Xx ⟨e.P, some l, N0, w0, e.nt⟩ [] K ρ' B' (H' * F)) →
      Cx ⟨e.P, some l, N0, w0, e.nt⟩ [] assign (Exit.then K (fun _ _ _ => False)) (asgn ps.toList (enc x) ρ) B1 (H1 * F))
    (hbody : ∀ (l N0 : Nat) (w0 : World) pre x B1 (F : HP) ρ' B' H', Adm (pre ++ [x]) → B.le B1 → B1.le B' → AS pre x B1 ρ' B' H' → Cx ⟨e.P, some l, N0, w0, e.nt⟩ [] body (RQ N0 w0 B1 J Jx (pre ++ [x]) F) ρ' B' (H' * F))
    (hdone : ∀ D xs B' H', Fn xs → B.le B' → J xs B' H' → Xx e (mark D :: ds) (Q .normal) ρ B' (H' * (blk D dfr * (own * R))))
    (hstop : ∀ D c pre B' H', B.le B' → Jx c pre B' H' → Cx e (mark D :: ds) c Q ρ B' (H' * (blk D dfr * (own * R)))) :
    Cx e ds (.rangeFunc g ps assign body) Q ρ B H := by
  intro a w f b s
  refine wpIn_rangeFunc ?_
  intro fn _
  have hgv := f.ev _ _ hg
  have s1 := (s.alloc dfr).alloc (.loop (mkRec fn a.tmps ps assign body w.heap.size .ready none))
  have b1 : Below e.N0 e.w0 ((w.alloc dfr).alloc (.loop (mkRec fn a.tmps ps assign body w.heap.size .ready none))) := (b.alloc s.sz _).alloc (s.alloc dfr).sz _
  rw [World.size_alloc, hH] at s1
  generalize hl : w.heap.size + 1 = l at *
  generalize hD : w.heap.size = D at *
  generalize hw1 : (w.alloc dfr).alloc (.loop (mkRec fn a.tmps ps assign body D .ready none)) = w1 at *
  have s2 : St e.N0 B ((own * (H1 * (blk l (.loop (mkRec fn a.tmps ps assign body D .ready none)) * blk D dfr))) * R) w1 := by
    exact s1.of_eq (by ac_rfl)
  have heg := hIt.1 #[.func (.yield l) #[] #[], ] w1
  let J' : List α → Frag → HP → Prop := fun pre B' H' => ∃ H1, H' = H1 * (blk l (.loop (mkRec fn a.tmps ps assign body D .ready none)) * blk D dfr) ∧ J pre B' H1
  let Jx' : List α → Frag → HP → Prop := fun pre B' H' => ∃ c H1, H' = H1 * (blk l (.loop (mkRec fn a.tmps ps assign body D .done (some c))) * blk D dfr) ∧ Jx c pre B' H1
  have hct := hIt.2 l J' Jx' ?round B _ (Frag.le_refl _) ⟨H1, rfl, h0⟩
  case round =>
    rintro pre x B1 _ hxs hB1 ⟨H2, rfl, hJ⟩ N0 wy Rf sy
    have hrl : wy.heap[l]? = some (.loop (mkRec fn a.tmps ps assign body D .ready none)) := by
      have : St N0 B1 (blk l (.loop (mkRec fn a.tmps ps assign body D .ready none)) * (H2 * (blk D dfr * Rf))) wy := sy.of_eq (by ac_rfl)
      exact this.blk.1
    have hy := run_yield (P := e.P) (args := (enc x).toArray) hrl (by simpa using hps x)
    refine ⟨fn, _, assign, body, hy, roundIn_of_wpIn trivial ?_⟩
    have hfr := asgn_fr (nt := e.nt) ps.toList (enc x) ρ a.tmps hnt ⟨f.size, f.get, rfl⟩
    have hzip : (ps.zip (enc x).toArray).foldl (fun tmps (t, a) => tmps.setIfInBounds t a) a.tmps = (ps.toList.zip (enc x)).foldl (fun t (y : Tmp × Value) => t.setIfInBounds y.1 y.2) a.tmps := by
      rw [← Array.foldl_toList, Array.toList_zip]
    show Code.wpIn (FW (some l)) 0 e.P assign _ { tmps := (ps.zip (enc x).toArray).foldl (fun tmps (t, a) => tmps.setIfInBounds t a) a.tmps, defers := [] } wy
    rw [hzip]
    refine hassign l N0 wy pre x B1 H2 ((blk l (.loop (mkRec fn a.tmps ps assign body D .ready none)) * blk D dfr) * Rf) _ hxs hB1 hJ ?_ _ wy hfr (Below.refl _ _) (by rw [← star_assoc]; exact sy)
    intro ρ' B' H' hAS hB' a1 wa fa ba sa
    have sa' : St N0 B' (blk l (.loop (mkRec fn a.tmps ps assign body D .ready none)) * (H' * (blk D dfr * Rf))) wa := sa.of_eq (by ac_rfl)
    have hbr := run_beginRound (P := e.P) sa'.blk.1 rfl
    refine ⟨_, hbr, ?_⟩
    have sb := sa'.putObj (o' := .loop { mkRec fn a.tmps ps assign body D .ready none with state := .busy })
    have sb2 : St N0 B' (H' * ((blk l (.loop { mkRec fn a.tmps ps assign body D .ready none with state := .busy }) * blk D dfr) * Rf)) (wa.putObj l (.loop { mkRec fn a.tmps ps assign body D .ready none with state := .busy })) := sb.1.of_eq (by ac_rfl)
    refine wpIn_mono (hbody l N0 wy pre x B1 _ ρ' B' H' hxs hB1 hB' hAS a1 _ fa (ba.trans sb.2) sb2) ?_
    have fin : ∀ (jump : Option Code) (w3 : World) B3 H3, St N0 B3 (H3 * ((blk l (.loop { mkRec fn a.tmps ps assign body D .ready none with state := .busy }) * blk D dfr) * Rf)) w3 →
        (Instr.endRound l jump).run e.P w3 = .ok (.bool jump.isNone) (w3.putObj l (.loop (mkRec fn a.tmps ps assign body D (if jump.isNone then .ready else .done) jump))) ∧ Below N0 w3 (w3.putObj l (.loop (mkRec fn a.tmps ps assign body D (if jump.isNone then .ready else .done) jump))) ∧
        St N0 B3 ((H3 * (blk l (.loop (mkRec fn a.tmps ps assign body D (if jump.isNone then .ready else .done) jump)) * blk D dfr)) * Rf) (w3.putObj l (.loop (mkRec fn a.tmps ps assign body D (if jump.isNone then .ready else .done) jump))) := by
      intro jump w3 B3 H3 s3
      have s3' : St N0 B3 (blk l (.loop { mkRec fn a.tmps ps assign body D .ready none with state := .busy }) * (H3 * (blk D dfr * Rf))) w3 := s3.of_eq (by ac_rfl)
      have h1 := run_endRound (P := e.P) jump s3'.blk.1
      have h2 := s3'.putObj (o' := .loop (mkRec fn a.tmps ps assign body D (if jump.isNone then .ready else .done) jump))
      refine ⟨h1, h2.2, h2.1.of_eq (by ac_rfl)⟩
    rintro x3 a3 w3 hp
    cases x3 with
    | normal =>
      obtain ⟨B3, H3, hJ3, hB3, b3, s3⟩ := hp
      obtain ⟨h1, h2, h3⟩ := fin none w3 B3 H3 s3
      exact ⟨_, _, h1, true, B3, _, rfl, .inl ⟨rfl, H3, rfl, hJ3⟩, hB3, b3.trans h2, h3⟩
    | ret =>
      obtain ⟨B3, H3, hJ3, hB3, b3, s3⟩ := hp
      obtain ⟨h1, h2, h3⟩ := fin (some .ret) w3 B3 H3 s3
      exact ⟨_, _, h1, false, B3, _, rfl, .inr ⟨rfl, _, H3, rfl, hJ3⟩, hB3, b3.trans h2, h3⟩
    | exit id =>
      obtain ⟨B3, H3, hJ3, hB3, b3, s3⟩ := hp
      obtain ⟨h1, h2, h3⟩ := fin (some (.exit id)) w3 B3 H3 s3
      exact ⟨_, _, h1, false, B3, _, rfl, .inr ⟨rfl, _, H3, rfl, hJ3⟩, hB3, b3.trans h2, h3⟩
    | goto t => exact hp.elim
    | panic ch => exact hp.elim
    | outgrown => exact hp.elim
  refine ⟨l, [mark D], w1, { target := .fn (.func gf) caps.toArray, args := #[.func (.yield l) #[] #[]] }, w1, gf, (.func (.yield l) #[] #[] :: caps).toArray, w1, ?_, ?_, fun _ _ => trivial, ?_, fun h => by simp [FW] at h, ?_⟩
  · have : (FW e.r).round = none := hr
    rw [this, ← hw1, ← hl]
    have := run_enterLoop_outer (P := e.P) (w := w) fn a.tmps ps assign body
    rw [hD] at this
    exact this
  · simp only [resolve, hgv, Deferred.ofValue]
    simp [Act.eval]
  · simp only [invoke]
    have := hIt.1 (#[.func (.yield l) #[] #[]] ++ caps.toArray) w1
    simpa using this
  · refine callsIn_FW.2 ((hct.2 e.N0 w1 R s2).mono ?_)
    rintro y w2 ⟨v, B', _, rfl, ⟨H2, rfl, (⟨xs, hxs, H3, rfl, hJ⟩ | ⟨pre, c, H3, rfl, hJ⟩)⟩, hB', b2, s3⟩
    · have s3' : St e.N0 B' (blk l (.loop (mkRec fn a.tmps ps assign body D .ready none)) * (H3 * (blk D dfr * (own * R)))) w2 := s3.of_eq (by ac_rfl)
      have h1 := run_endLoop (P := e.P) s3'.blk.1 (by simp)
      have h2 := s3'.putObj (o' := .loop { mkRec fn a.tmps ps assign body D .ready none with state := .exhausted })
      refine ⟨none, _, h1, ?_⟩
      exact hdone D xs B' H3 hxs hB' hJ _ _ ⟨f.size, f.get, by simp [f.defers]⟩ ((b1.trans b2).trans h2.2) h2.1.drop
    · have s3' : St e.N0 B' (blk l (.loop (mkRec fn a.tmps ps assign body D .done (some c))) * (H3 * (blk D dfr * (own * R)))) w2 := s3.of_eq (by ac_rfl)
      have h1 := run_endLoop (P := e.P) s3'.blk.1 (by simp)
      have h2 := s3'.putObj (o' := .loop { mkRec fn a.tmps ps assign body D .done (some c) with state := .exhausted })
      refine ⟨some c, _, h1, ?_⟩
      exact hstop D c pre B' H3 hB' hJ _ _ ⟨f.size, f.get, by simp [f.defers]⟩ ((b1.trans b2).trans h2.2) h2.1.drop
theorem Cx.rangeA {g : Operand} {ps : Array Tmp} {assign body : Code} {gf : FuncId} {caps : List Value} {enc : α → List Value} {Adm Fn : List α → Prop} {own H1 R : HP} {σ : Sl} (hσ : Sub ρ σ)
    (hr : e.r = none) (hg : ev ρ g = some (.func (.func gf) #[] caps.toArray)) (hIt : ItA e.P gf caps enc Adm Fn B own) (hH : H = own * (H1 * R)) (hnt : ps.toList.all (fun p => Nat.blt p e.nt) = true) (hps : ∀ x, (enc x).length = ps.size)
    (J : List α → Frag → HP → Prop) (Jx : Code → List α → Frag → HP → Prop) (AS : List α → α → Frag → Sl → Frag → HP → Prop) (h0 : J [] B H1)
    (hassign : ∀ (l N0 : Nat) (w0 : World) pre x B1 H1 (F : HP) (K : Act → World → Prop), Adm (pre ++ [x]) → B.le B1 → J pre B1 H1 →
      (∀ ρ' B' H', AS pre x B1 ρ' B' H' → B1.le B' → Xx ⟨e.P, some l, N0, w0, e.nt⟩ [] K (ρ' ++ σ) B' (H' * F)) →
      Cx ⟨e.P, some l, N0, w0, e.nt⟩ [] assign (Exit.then K (fun _ _ _ => False)) (asgn ps.toList (enc x) ρ) B1 (H1 * F))
    (hbody : ∀ (l N0 : Nat) (w0 : World) pre x B1 (F : HP) ρ' B' H', Adm (pre ++ [x]) → B.le B1 → B1.le B' → AS pre x B1 ρ' B' H' → Cx ⟨e.P, some l, N0, w0, e.nt⟩ [] body (RQ N0 w0 B1 J Jx (pre ++ [x]) F) (ρ' ++ σ) B' (H' * F))
    (hdone : ∀ D xs B' H', Fn xs → B.le B' → J xs B' H' → Xx e (mark D :: ds) (Q .normal) ρ B' (H' * (blk D dfr * (own * R))))
    (hstop : ∀ D c pre B' H', B.le B' → Jx c pre B' H' → Cx e (mark D :: ds) c Q ρ B' (H' * (blk D dfr * (own * R)))) :
    Cx e ds (.rangeFunc g ps assign body) Q ρ B H :=
  Cx.rangeAF hr hg hIt hH hnt hps J Jx (fun pre x B1 ρ' B' H' => ∃ ρ'', ρ' = ρ'' ++ σ ∧ AS pre x B1 ρ'' B' H') h0
    (fun l N0 w0 pre x B1 H1 F K hxs hB1 hJ hK => hassign l N0 w0 pre x B1 H1 F K hxs hB1 hJ fun ρ' B' H' hAS hB' => hK _ B' H' ⟨ρ', rfl, hAS⟩ hB')
    (fun l N0 w0 pre x B1 F ρ' B' H' hxs hB1 hB' ⟨ρ'', h1, hAS⟩ => by subst h1; exact hbody l N0 w0 pre x B1 F ρ'' B' H' hxs hB1 hB' hAS) hdone hstop
end
section
variable {α : Type} {kv : α → Int × Value}
def mz (kv : α → Int × Value) (z : α × Nat) : Me := ((kv z.1).1, (kv z.1).2, z.2)
def VisF (Z dz : List (α × Nat)) : Prop := (∀ z ∈ dz, z ∈ Z) ∧ (dz.map fun z => z.2).Nodup
def AfterF (Z dz dz' : List (α × Nat)) : Option (α × Nat) → Prop
  | none => dz' = dz ∧ ∀ z ∈ Z, z.2 ∈ dz.map fun z => z.2
  | some z => dz' = dz ++ [z] ∧ z ∈ Z ∧ z.2 ∉ dz.map fun z => z.2
end
section
variable {e : Env} {ds : List Deferred} {ρ : Sl} {B : Frag} {H R R2 : HP} {t kt et ty : TypeId} {x : Operand} {b i c : Nat} {α : Type} {kv : α → Int × Value} {Z dz : List (α × Nat)}
end
theorem St.putG {N0 : Nat} {B : Frag} {b : Nat} {o o' : Obj} {R : HP} {w w' : World} (h : St N0 B (SL.blk b o * R) w) (hb : w'.heap[b]? = some o') (hs : ∀ k, k < w.heap.size → k ≠ b → w'.heap[k]? = w.heap[k]?)
    (hz' : w.heap.size ≤ w'.heap.size) : St N0 B (SL.blk b o' * R) w' := by
  have hlt : ∀ {b : Nat} {u : Obj}, w.heap[b]? = some u → b < w.heap.size := fun h => (Array.getElem?_eq_some_iff.1 h).1
  obtain ⟨_, hB, hN⟩ := h.blk
  obtain ⟨hr, hz, k, hk, a, c, d, e, x, y⟩ := h
  have hx : a = Frag.one b o := x
  subst hx
  refine ⟨fun i u hi => ?_, Nat.le_trans hz hz', (Frag.one b o').un c, fun i u hi => ?_, Frag.one b o', c, fun i => ?_, rfl, rfl, y⟩
  · rw [hs i (hlt (hr i u hi)) (fun e => by subst e; rw [hB] at hi; cases hi)]; exact hr i u hi
  · by_cases e2 : i = b
    · subst e2
      simp [Frag.un, Frag.one] at hi
      subst hi
      exact ⟨hb, hB, hN⟩
    · have h2 : (Frag.un (Frag.one b o) c) i = some u := by
        simp [Frag.un, Frag.one, e2] at hi ⊢; exact hi
      rw [← e] at h2
      rw [hs i (hlt (hk i u h2).1) e2]
      exact hk i u h2
  · rcases d i with z | z
    · left
      simp only [Frag.one] at z ⊢
      split at z
      · cases z
      · rename_i hne; simp [hne]
    · exact .inr z
abbrev ints (zs : List Int) : List Value := zs.map (Value.int .i64)
abbrev sortI (zs : List Int) : List Int := zs.mergeSort fun x y => decide (x ≤ y)
end Go.SL
namespace Go.SL
open Go.RowKit
open Go.ChangeMaps (setBlock)
class MKey (κ : Type) [DecidableEq κ] where
  enc : κ → Value
  desc : TypeDesc
  same : ∀ a b : κ, Instr.sameNow desc (enc a) (enc b) = some (decide (a = b))
  chk : ∀ (P : Program) (w : World) (kt : TypeId) (e : Bool) (k : κ), P.underlying kt = some desc → (Instr.checkKey e 10000 kt (enc k)).run P w = .ok () w
  bits : ∀ k : κ, Instr.sameBits 10000 (enc k) (enc k) = true
instance : MKey (BitVec 64) where
  enc x := u64 x
  desc := .int .u64
  same a b := by
    simp only [Instr.sameNow, if_pos]
    congr 1
    by_cases h : a = b
    · subst h; simp
    · rw [decide_eq_false h, beq_eq_false_iff_ne]
      exact fun e => h (BitVec.eq_of_toNat_eq (Int.ofNat.inj e))
  chk P w kt e k hk := by
    have h : ∀ n, (Instr.checkKey e (n + 1) kt (u64 k)).run P w = .ok () w := fun n => by simp [Instr.checkKey, run_underlying hk, Result.andThen]
    exact h 9999
  bits k := by simp [Instr.sameBits]
instance : MKey (List UInt8) where
  enc x := str x
  desc := .string
  same a b := by
    simp only [Instr.sameNow]
    congr 1
    show ((a.toArray == b.toArray) : Bool) = _
    by_cases h : a = b
    · subst h; simp
    · rw [decide_eq_false h, beq_eq_false_iff_ne]
      exact fun e => h (by simpa using e)
  chk P w kt e k hk := by
    have h : ∀ n, (Instr.checkKey e (n + 1) kt (str k)).run P w = .ok () w := fun n => by simp [Instr.checkKey, run_underlying hk, Result.andThen]
    exact h 9999
  bits k := by
    show ((k.toArray == k.toArray) : Bool) = true
    simp
abbrev Ge (κ : Type) := κ × Value × Nat
variable {κ : Type} [DecidableEq κ] [MKey κ]
def ge (t : Ge κ) : MapEntry := ⟨MKey.enc t.1, t.2.1, t.2.2⟩
def GStp (T : List (Ge κ)) (c : Nat) : Prop := (T.map fun t => t.2.2).Nodup ∧ ∀ t ∈ T, t.2.2 < c
def gkvs (T : List (Ge κ)) : List (κ × Value) := T.map fun t => (t.1, t.2.1)
abbrev gObj (T : List (Ge κ)) (c : Nat) : Obj := .map (T.map ge).toArray c
def gmap (b : Nat) (l : List (κ × Value)) : HP := fun h => ∃ T c, GStp T c ∧ gkvs T = l ∧ blk b (gObj T c) h
def gget (k : κ) : List (κ × Value) → Option Value
  | [] => none
  | (j, v) :: l => if k = j then some v else gget k l
def gset (k : κ) (v : Value) : List (κ × Value) → List (κ × Value)
  | [] => [(k, v)]
  | (j, u) :: l => if k = j then (k, v) :: l else (j, u) :: gset k v l
def gdel (k : κ) : List (κ × Value) → List (κ × Value)
  | [] => []
  | (j, u) :: l => if k = j then l else (j, u) :: gdel k l
def gix (k : κ) : List (Ge κ) → Option (Nat × Value)
  | [] => none
  | t :: T => if k = t.1 then some (0, t.2.1) else (gix k T).map fun p => (p.1 + 1, p.2)
theorem gix_get (k : κ) (T : List (Ge κ)) : (gix k T).map (·.2) = gget k (gkvs T) := by
  induction T with
  | nil => rfl
  | cons t T ih =>
    show _ = gget k ((t.1, t.2.1) :: gkvs T)
    simp only [gix, gget]
    split
    · rfl
    · rw [← ih, Option.map_map]; rfl
theorem find_ge (k : κ) : ∀ (T : List (Ge κ)) (i : Nat), Instr.findNow (MKey.desc κ) (MKey.enc k) (T.map ge) i = some ((gix k T).map fun p => (i + p.1, p.2)) := by
  intro T
  induction T with
  | nil => intro i; rfl
  | cons t T ih =>
    intro i
    show (match Instr.sameNow (MKey.desc κ) (MKey.enc k) (MKey.enc t.1) with | some true => some (some (i, t.2.1)) | some false => Instr.findNow (MKey.desc κ) (MKey.enc k) (T.map ge) (i + 1) | none => none) = _
    have e : Instr.sameNow (MKey.desc κ) (MKey.enc k) (MKey.enc t.1) = some (decide (k = t.1)) := MKey.same _ _
    rw [e]
    by_cases h : k = t.1
    · rw [decide_eq_true h]
      simp [gix, h]
    · rw [decide_eq_false h]
      simp only [gix, if_neg h, ih, Option.map_map]
      congr 2
      funext p
      simp only [Function.comp_apply, Prod.mk.injEq, and_true]
      omega
section
variable {P : Program} {w : World} {t kt et : TypeId} {b c : Nat} {T : List (Ge κ)} {k : κ}
theorem run_gfind (hk : P.underlying kt = some (MKey.desc κ)) : (Instr.findKey kt (MKey.enc k) (T.map ge)).run P w = .ok (gix k T) w := by
  simp only [Instr.findKey, Sem.run_bind, run_underlying hk, Result.andThen, find_ge, Sem.run_pure]
  simp
theorem run_gcheck (hk : P.underlying kt = some (MKey.desc κ)) (e : Bool) : (Instr.checkKey e 10000 kt (MKey.enc k)).run P w = .ok () w := MKey.chk P w kt e k hk
theorem run_glook (ht : P.underlying t = some (.map kt et)) (hk : P.underlying kt = some (MKey.desc κ)) (hb : w.heap[b]? = some (gObj T c)) {z : Value} (hz : (zeroValue et).run P w = .ok z w) (ok : Bool) :
    (Instr.lookup t (.map (some b)) (MKey.enc k) ok).run P w = .ok (if ok then .tuple #[(gget k (gkvs T)).getD z, .bool (gget k (gkvs T)).isSome] else (gget k (gkvs T)).getD z) w := by
  rw [← gix_get]
  cases h : gix k T with
  | none => simp [Instr.lookup, run_underlying ht, MapKept.run_getObj_map hb, run_gcheck hk, run_gfind hk, h, hz, Result.andThen]
  | some p => simp [Instr.lookup, run_underlying ht, MapKept.run_getObj_map hb, run_gcheck hk, run_gfind hk, h, Result.andThen]
theorem gix_at : ∀ {T : List (Ge κ)} {p : Nat × Value}, gix k T = some p → ∃ t, T[p.1]? = some t ∧ t.1 = k ∧ t.2.1 = p.2 := by
  intro T
  induction T with
  | nil => intro p h; cases h
  | cons t T ih =>
    intro p h
    simp only [gix] at h
    split at h
    · rename_i e
      cases h
      exact ⟨t, rfl, e.symm, rfl⟩
    · obtain ⟨q, hq, rfl⟩ := Option.map_eq_some_iff.1 h
      obtain ⟨u, h1, h2, h3⟩ := ih hq
      exact ⟨u, by simpa using h1, h2, h3⟩
def gnewV (k : κ) (v : Value) (t : Ge κ) : Ge κ := (k, v, t.2.2)
theorem gkvs_mod {v : Value} : ∀ {T : List (Ge κ)} {p : Nat × Value}, gix k T = some p → gkvs (T.modify p.1 (gnewV k v)) = gset k v (gkvs T) := by
  intro T
  induction T with
  | nil => intro p h; cases h
  | cons t T ih =>
    intro p h
    show _ = gset k v ((t.1, t.2.1) :: gkvs T)
    simp only [gix] at h
    split at h
    · rename_i e
      cases h
      simp only [gset, if_pos e]
      rfl
    · rename_i e
      obtain ⟨q, hq, rfl⟩ := Option.map_eq_some_iff.1 h
      simp only [gset, if_neg e, ← ih hq]
      rfl
theorem gkvs_push {v : Value} : ∀ {T : List (Ge κ)}, gix k T = none → gkvs (T ++ [(k, v, c)]) = gset k v (gkvs T) := by
  intro T
  induction T with
  | nil => intro h; rfl
  | cons t T ih =>
    intro h
    show (t.1, t.2.1) :: gkvs (T ++ [(k, v, c)]) = gset k v ((t.1, t.2.1) :: gkvs T)
    simp only [gix] at h
    split at h
    · cases h
    · rename_i e
      simp only [gset, if_neg e]
      rw [ih (by simpa using h)]
theorem gkvs_del : ∀ {T : List (Ge κ)} {p : Nat × Value}, gix k T = some p → gkvs (T.eraseIdx p.1) = gdel k (gkvs T) := by
  intro T
  induction T with
  | nil => intro p h; cases h
  | cons t T ih =>
    intro p h
    show _ = gdel k ((t.1, t.2.1) :: gkvs T)
    simp only [gix] at h
    split at h
    · rename_i e
      cases h
      simp only [gdel, if_pos e]
      rfl
    · rename_i e
      obtain ⟨q, hq, rfl⟩ := Option.map_eq_some_iff.1 h
      simp only [gdel, if_neg e, ← ih hq]
      rfl
theorem gkvs_none : ∀ {T : List (Ge κ)}, gix k T = none → gdel k (gkvs T) = gkvs T := by
  intro T
  induction T with
  | nil => intro h; rfl
  | cons t T ih =>
    intro h
    show gdel k ((t.1, t.2.1) :: gkvs T) = (t.1, t.2.1) :: gkvs T
    simp only [gix] at h
    split at h
    · cases h
    · rename_i e
      simp only [gdel, if_neg e]
      rw [ih (by simpa using h)]
theorem GStp.push {v : Value} (h : GStp T c) : GStp (T ++ [(k, v, c)]) (c + 1) := by
  obtain ⟨h1, h2⟩ := h
  refine ⟨?_, fun t ht => ?_⟩
  · rw [List.map_append, List.nodup_append]
    refine ⟨h1, by simp, fun a ha b hb => ?_⟩
    obtain ⟨t, ht, rfl⟩ := List.mem_map.1 ha
    have := h2 t ht
    simp at hb
    omega
  · rcases List.mem_append.1 ht with ht | ht
    · have := h2 t ht; omega
    · simp at ht; subst ht; exact Nat.lt_succ_self _
theorem GStp.stamps {T' : List (Ge κ)} (h : GStp T c) (e : T'.map (fun t => t.2.2) = T.map fun t => t.2.2) : GStp T' c := by
  refine ⟨by rw [e]; exact h.1, fun t ht => ?_⟩
  have : t.2.2 ∈ T'.map (fun t => t.2.2) := List.mem_map.2 ⟨t, ht, rfl⟩
  rw [e] at this
  obtain ⟨u, hu, e2⟩ := List.mem_map.1 this
  rw [← e2]; exact h.2 u hu
theorem GStp.mod {v : Value} {j : Nat} (h : GStp T c) : GStp (T.modify j (gnewV k v)) c := h.stamps (by
  rw [map_modify (fun t : Ge κ => t.2.2) (gnewV k v) id (fun x => rfl)]
  induction T.map (fun t : Ge κ => t.2.2) generalizing j with
  | nil => simp
  | cons x l ih => cases j with
    | zero => simp
    | succ j => simp [ih])
theorem GStp.del {j : Nat} (h : GStp T c) : GStp (T.eraseIdx j) c :=
  ⟨(h.1).sublist ((List.eraseIdx_sublist T j).map _), fun t ht => h.2 t ((List.eraseIdx_sublist T j).subset ht)⟩
theorem run_gset (ht : P.underlying t = some (.map kt et)) (hk : P.underlying kt = some (MKey.desc κ)) (hb : w.heap[b]? = some (gObj T c)) (hs : GStp T c) (v : Value) :
    ∃ T' c', (Instr.mapUpdate t (.map (some b)) (MKey.enc k) v).run P w = .ok () (setBlock w b (gObj T' c')) ∧ GStp T' c' ∧ gkvs T' = gset k v (gkvs T) := by
  cases h : gix k T with
  | none =>
    refine ⟨T ++ [(k, v, c)], c + 1, ?_, hs.push, gkvs_push h⟩
    have e : ((T ++ [(k, v, c)]).map ge).toArray = (T.map ge).toArray.push ⟨MKey.enc k, v, c⟩ := by
      apply Array.toList_inj.1; simp [ge]
    unfold gObj
    rw [e]
    simp [Instr.mapUpdate, run_underlying ht, MapKept.run_getObj_map hb, run_gcheck hk, run_gfind hk, h, MapKept.run_setObj_map _ hb, Result.andThen, setBlock]
  | some p =>
    refine ⟨T.modify p.1 (gnewV k v), c, ?_, hs.mod, gkvs_mod h⟩
    obtain ⟨u, hu, hk1, hk2⟩ := gix_at h
    have e : ((T.modify p.1 (gnewV k v)).map ge).toArray = (T.map ge).toArray.modify p.1 (fun e => { e with key := MKey.enc k, val := v }) := by
      apply Array.toList_inj.1
      rw [map_modify ge (gnewV k v) (fun e => { e with key := MKey.enc k, val := v }) (fun x => rfl)]
      simp
    have hst : (Instr.keyThatStays (MKey.enc k) (MKey.enc k)).run P w = .ok (MKey.enc k) w := by
      simp [Instr.keyThatStays, MKey.bits]
    have hkey : (((T.map ge)[p.1]?).map (·.key)).getD (MKey.enc k) = MKey.enc k := by
      rw [List.getElem?_map, hu]; simp [ge, hk1]
    unfold gObj
    rw [e]
    simp only [Instr.mapUpdate, Sem.run_bind, run_underlying ht, MapKept.run_getObj_map hb, run_gcheck hk, run_gfind hk, h, Result.andThen, List.getElem?_toArray, hkey, hst, MapKept.run_setObj_map _ hb]
    rfl
theorem run_gdel {ty : TypeId} (ht : P.underlying t = some (.map kt et)) (hk : P.underlying kt = some (MKey.desc κ)) (hb : w.heap[b]? = some (gObj T c)) (hs : GStp T c) (kt' : TypeId) :
    ∃ T', (Builtin.delete_ #[t, kt'] ty #[.map (some b), MKey.enc k]).run P w = .ok (.tuple #[]) (setBlock w b (gObj T' c)) ∧ GStp T' c ∧ gkvs T' = gdel k (gkvs T) := by
  cases h : gix k T with
  | none =>
    refine ⟨T, ?_, hs, (gkvs_none h).symm⟩
    simp [Builtin.delete_, run_underlying ht, MapKept.run_getObj_map hb, run_gcheck hk, run_gfind hk, h, MapKept.run_setObj_map _ hb, Result.andThen, setBlock]
  | some p =>
    refine ⟨T.eraseIdx p.1, ?_, hs.del, gkvs_del h⟩
    obtain ⟨u, hu, _⟩ := gix_at h
    have hj : p.1 < T.length := (List.getElem?_eq_some_iff.1 hu).1
    have e : ((T.eraseIdx p.1).map ge).toArray = (T.map ge).toArray.eraseIdxIfInBounds p.1 := by
      apply Array.toList_inj.1
      unfold Array.eraseIdxIfInBounds
      rw [dif_pos (by simpa using hj), ChangeMaps.map_eraseIdx]
      simp
    unfold gObj
    rw [e]
    simp [Builtin.delete_, run_underlying ht, MapKept.run_getObj_map hb, run_gcheck hk, run_gfind hk, h, MapKept.run_setObj_map _ hb, Result.andThen, setBlock]
end
class PickG (H : HP) (b : Nat) (l : outParam (List (κ × Value))) (R : outParam HP) : Prop where
  eq : H = gmap b l * R
instance (b : Nat) (l : List (κ × Value)) (R : HP) : PickG (gmap b l * R) b l R := ⟨rfl⟩
instance (y H : HP) (b : Nat) (l : List (κ × Value)) (R : HP) [h : PickG H b l R] : PickG (y * H) b l (y * R) := ⟨by rw [h.eq, star_left]⟩
theorem St.gmap {N0 b : Nat} {B : Frag} {R : HP} {w : World} {l : List (κ × Value)} (s : St N0 B (SL.gmap b l * R) w) : ∃ T c, GStp T c ∧ gkvs T = l ∧ St N0 B (SL.blk b (gObj T c) * R) w := by
  obtain ⟨ro, sz, k, hk, h1, h2, d, e, ⟨T, c, hs, hl, hb⟩, y⟩ := s
  exact ⟨T, c, hs, hl, ro, sz, k, hk, h1, h2, d, e, hb, y⟩
theorem St.of_gmap {N0 b c : Nat} {B : Frag} {R : HP} {w : World} {T : List (Ge κ)} (hs : GStp T c) (s : St N0 B (SL.blk b (gObj T c) * R) w) : St N0 B (SL.gmap b (gkvs T) * R) w := by
  obtain ⟨ro, sz, k, hk, h1, h2, d, e, hb, y⟩ := s
  exact ⟨ro, sz, k, hk, h1, h2, d, e, ⟨T, c, hs, rfl, hb⟩, y⟩
section
variable {e : Env} {ds : List Deferred} {ρ : Sl} {B : Frag} {H R : HP} {t kt et ty tk : TypeId} {x y z : Operand} {b : Nat} {l : List (κ × Value)} {k : κ} {v zv : Value}
theorem mkG (κ : Type) [DecidableEq κ] [MKey κ] : Ox e ds (.makeMap t none) ty ρ B H (fun v B' H' => ∃ b, v = .map (some b) ∧ B' = B ∧ H' = gmap b ([] : List (κ × Value)) * H) :=
  .of_run (fun _ h => by cases h) fun f w dst pos after guard he s => by
    refine ⟨.map (some w.heap.size), w.alloc (gObj ([] : List (Ge κ)) 0), B, _, ?_, ⟨w.heap.size, rfl, rfl, rfl⟩, Frag.le_refl _, Below.alloc (Below.refl _ w) s.sz _, St.of_gmap (T := ([] : List (Ge κ))) ⟨by simp, fun t h => by cases h⟩ (s.alloc _)⟩
    simp [execOp, Instr.makeMap, Result.andThen]
    rfl
theorem stG (ht : e.P.underlying t = some (.map kt et)) (hk : e.P.underlying kt = some (MKey.desc κ)) (hx : ev ρ x = some (.map (some b))) (hy : ev ρ y = some (MKey.enc k)) (hz : ev ρ z = some v) [hp : PickG H b l R] :
    Ox e ds (.mapUpdate t x y z) ty ρ B H (fun _ B' H' => B' = B ∧ H' = gmap b (gset k v l) * R) :=
  .of_skip (fun _ h => by cases h) fun f w _ _ _ _ he s => by
    have s' : St e.N0 B (gmap b l * R) w := hp.eq ▸ s
    obtain ⟨T, c, hs, rfl, s2⟩ := s'.gmap
    obtain ⟨T', c', hr, hs', hl'⟩ := run_gset ht hk s2.blk.1 hs v
    refine ⟨setBlock w b (gObj T' c'), B, _, ?_, ⟨rfl, rfl⟩, Frag.le_refl _, (s2.setBlk _).2, by rw [← hl']; exact St.of_gmap hs' (s2.setBlk _).1⟩
    simp [execOp, he _ _ hx, he _ _ hy, he _ _ hz, hr, Result.andThen]
theorem delG (ht : e.P.underlying t = some (.map kt et)) (hk : e.P.underlying kt = some (MKey.desc κ)) (hx : ev ρ x = some (.map (some b))) (hy : ev ρ y = some (MKey.enc k)) [hp : PickG H b l R] :
    Ox e ds (.call { callee := .builtin .delete, args := #[x, y], argTypes := #[t, tk] }) ty ρ B H (fun v B' H' => v = .tuple #[] ∧ B' = B ∧ H' = gmap b (gdel k l) * R) :=
  .of_run (fun _ h => by cases h) fun f w dst pos after guard he s => by
    have s' : St e.N0 B (gmap b l * R) w := hp.eq ▸ s
    obtain ⟨T, c, hs, rfl, s2⟩ := s'.gmap
    obtain ⟨T', hr, hs', hl'⟩ := run_gdel (ty := ty) ht hk s2.blk.1 hs tk
    refine ⟨_, setBlock w b (gObj T' c), B, _, ?_, ⟨rfl, rfl, rfl⟩, Frag.le_refl _, (s2.setBlk _).2, by rw [← hl']; exact St.of_gmap hs' (s2.setBlk _).1⟩
    simp [execOp, resolve, he _ _ hx, he _ _ hy, invoke, builtin, hr]
theorem Xx.openG {K : Act → World → Prop} (b : Nat) [hp : PickG H b l R] (h : ∀ T c, GStp T c → gkvs T = l → Xx e ds K ρ B (blk b (gObj T c) * R)) : Xx e ds K ρ B H := fun a w f bl s => by
  have s' : St e.N0 B (gmap b l * R) w := hp.eq ▸ s
  obtain ⟨T, c, hs, hl, s2⟩ := s'.gmap
  exact h T c hs hl a w f bl s2
theorem Xx.closeG {K : Act → World → Prop} (b : Nat) {T : List (Ge κ)} {c : Nat} [hp : PickB H b (gObj T c) R] (hs : GStp T c) (h : Xx e ds K ρ B (gmap b (gkvs T) * R)) : Xx e ds K ρ B H := fun a w f bl s => by
  have s' : St e.N0 B (blk b (gObj T c) * R) w := hp.eq ▸ s
  exact h a w f bl (St.of_gmap hs s')
abbrev gitObj (b c : Nat) (done : List (Ge κ)) : Obj := .mapIter (some b) c (done.map fun t => t.2.2).toArray c
def GVis (T done : List (Ge κ)) : Prop := (∀ t ∈ done, t ∈ T) ∧ (done.map fun t => t.2.2).Nodup
theorem rgG {T : List (Ge κ)} {c : Nat} (ht : e.P.underlying t = some (.map kt et)) (hx : ev ρ x = some (.map (some b))) [hp : PickB H b (gObj T c) R] :
    Ox e ds (.range t x) ty ρ B H (fun v B' H' => ∃ i, v = .pointer (some ⟨i, 0, none⟩) ∧ B' = B ∧ H' = blk i (gitObj b c ([] : List (Ge κ))) * H) :=
  .of_run (fun _ h => by cases h) fun f w dst pos after guard he s => by
    have s' : St e.N0 B (blk b (gObj T c) * R) w := hp.eq ▸ s
    have hr := run_range_map (P := e.P) w t kt et b _ _ ht s'.blk.1
    refine ⟨_, w.alloc (gitObj b c ([] : List (Ge κ))), B, _, ?_, ⟨w.heap.size, rfl, rfl, rfl⟩, Frag.le_refl _, Below.alloc (Below.refl _ w) s.sz _, s.alloc _⟩
    simp [execOp, he _ _ hx, hr, Result.andThen]
    rfl
def gnx : Option (Ge κ) → Array Value
  | none => #[.bool false]
  | some t => #[.bool true, MKey.enc t.1, t.2.1]
theorem gnx0 (o : Option (Ge κ)) : (gnx o)[0]? = some (.bool o.isSome) := by cases o <;> rfl
def GAfter (T done : List (Ge κ)) (done' : List (Ge κ)) : Option (Ge κ) → Prop
  | none => done' = done ∧ ∀ t ∈ T, t.2.2 ∈ done.map fun t => t.2.2
  | some t => done' = done ++ [t] ∧ t ∈ T ∧ t.2.2 ∉ done.map fun t => t.2.2
end
theorem run_nextG {P : Program} {w : World} {ty : TypeId} {b c i : Nat} {T done : List (Ge κ)} (hs : GStp T c) (hb : w.heap[b]? = some (gObj T c)) (hi : w.heap[i]? = some (gitObj b c done)) (hT : ∀ t ∈ done, t ∈ T) :
    ∃ o done' w', (Instr.next (.pointer (some ⟨i, 0, none⟩)) false ty).run P w = .ok (.tuple (gnx o)) w' ∧ GAfter T done done' o ∧ ((w' = w ∧ done' = done) ∨ ∃ w1 : World, (w1 = w ∨ w1 = w.drew) ∧ w' = setBlock w1 i (gitObj b c done')) := by
  have hold : ∀ x ∈ (T.map ge).toArray.toList, x.born < c := fun x hx => by
    simp at hx
    obtain ⟨a, b', c', hm, rfl⟩ := hx
    exact hs.2 _ hm
  simp only [Instr.next, getObj, Sem.run_bind, Sem.run, hi, hb, Result.andThen, next_test_false _ _ c c hold (Nat.le_refl _), Bool.false_eq_true, if_false]
  have hmem : ∀ x ∈ ((T.map ge).toArray.filter (fun e => !((done.map fun t => t.2.2).toArray).contains e.born)).toList, ∃ t ∈ T, t.2.2 ∉ (done.map fun t => t.2.2) ∧ x = ge t := fun x hx => by
    simp at hx
    obtain ⟨⟨a, b', c', hm, rfl⟩, hn⟩ := hx
    exact ⟨(a, b', c'), hm, by simpa [ge] using hn, rfl⟩
  have hnone : ((T.map ge).toArray.filter (fun e => !((done.map fun t => t.2.2).toArray).contains e.born)) = #[] → ∀ t ∈ T, t.2.2 ∈ done.map fun t => t.2.2 := fun h t ht => by
    rw [Array.filter_eq_empty_iff] at h
    have := h (ge t) (by simp; exact ⟨_, _, _, ht, rfl⟩)
    simpa [ge] using this
  generalize ((T.map ge).toArray.filter (fun e => !((done.map fun t => t.2.2).toArray).contains e.born)) = L at hmem hnone ⊢
  have e1 : L.filter (fun x => decide (x.born < c)) = L := Array.filter_eq_self.2 (fun x hx => by
    obtain ⟨t, ht, _, rfl⟩ := hmem x (by simpa using hx)
    have := hs.2 t ht
    exact decide_eq_true this)
  have e2 : L.filter (fun x => decide (x.born ≥ c)) = #[] := by
    rw [Array.filter_eq_empty_iff]
    intro x hx
    obtain ⟨t, ht, _, rfl⟩ := hmem x (by simpa using hx)
    have := hs.2 t ht
    simp [ge]
    omega
  simp only [e1, e2, Array.append_empty]
  by_cases h0 : L.size = 0
  · have hL : L = #[] := Array.eq_empty_of_size_eq_zero h0
    refine ⟨none, done, w, ?_, ⟨rfl, hnone hL⟩, .inl ⟨rfl, rfl⟩⟩
    subst hL
    simp [choose, Sem.run, Question.forced, gnx]
  · have hne : L.isEmpty = false := by simp [Array.isEmpty, h0]
    simp only [hne, Bool.false_eq_true, if_false, Array.empty_append, Array.size_map]
    have hch : ∃ (j : Nat) (w1 : World), j < L.size ∧ (w1 = w ∨ w1 = w.drew) ∧ (choose (Question.mapNext L.size)).run P w = .ok j w1 := by
      by_cases hf : L.size ≤ 1
      · exact ⟨0, w, by omega, .inl rfl, by simp [choose, Sem.run, Question.forced, hf]⟩
      · exact ⟨_, w.drew, Nat.mod_lt _ (by omega), .inr rfl, by
          simp only [choose, Sem.run, Question.forced, decide_eq_true_eq, hf, if_false, Question.cut]
          rfl⟩
    obtain ⟨j, w1, hj, hal, hrun⟩ := hch
    obtain ⟨t, ht, hn, hx⟩ := hmem L[j] (by simp)
    refine ⟨some t, done ++ [t], setBlock w1 i (gitObj b c (done ++ [t])), ?_, ⟨rfl, ht, hn⟩, .inr ⟨w1, hal, rfl⟩⟩
    have hi1 : w1.heap[i]? = some (gitObj b c done) := by rcases hal with rfl | rfl <;> exact hi
    have hset : (setObj i (.mapIter (some b) c ((done.map fun t => t.2.2).toArray.push (L[j]).born) c)).run P w1 = .ok () (setBlock w1 i (gitObj b c (done ++ [t]))) := by
      have e9 : gitObj b c (done ++ [t]) = .mapIter (some b) c ((done.map fun t => t.2.2).toArray.push (L[j]).born) c := by
        unfold gitObj
        rw [hx]
        congr 1
        apply Array.toList_inj.1
        simp [ge]
      rw [e9]
      simp only [setObj, Sem.run, hi1]
      rfl
    simp only [hrun, Array.getElem?_map, Array.getElem?_eq_getElem hj, Option.map_some, Sem.run_bind, hset, Result.andThen]
    rw [hx]
    rfl
section
variable {e : Env} {ds : List Deferred} {ρ : Sl} {B : Frag} {H R R2 : HP} {ty : TypeId} {x : Operand} {b i c : Nat} {T done : List (Ge κ)}
theorem nxG (hs : GStp T c) (hv : GVis T done) (hx : ev ρ x = some (.pointer (some ⟨i, 0, none⟩))) [h1 : PickB H i (gitObj b c done) R] [h2 : PickB R b (gObj T c) R2] :
    Ox e ds (.next x false) ty ρ B H (fun v B' H' => ∃ o done', v = .tuple (gnx o) ∧ GAfter T done done' o ∧ B' = B ∧ H' = blk i (gitObj b c done') * R) :=
  .of_run (fun _ h => by cases h) fun f w dst pos after guard he s => by
    have s1 : St e.N0 B (blk i (gitObj b c done) * R) w := h1.eq ▸ s
    have s2 : St e.N0 B (blk b (gObj T c) * R2) w := h2.eq ▸ s1.drop
    obtain ⟨o, done', w', hr, ha, hw⟩ := run_nextG (P := e.P) (ty := ty) hs s2.blk.1 s1.blk.1 hv.1
    refine ⟨_, w', B, _, ?_, ⟨o, done', rfl, ha, rfl, rfl⟩, Frag.le_refl _, ?_⟩
    · simp [execOp, he _ _ hx, hr, Result.andThen]
    · rcases hw with ⟨rfl, rfl⟩ | ⟨w1, hal, rfl⟩
      · exact ⟨Below.refl _ _, s1⟩
      · have s3 : St e.N0 B (blk i (gitObj b c done) * R) w1 := by
          rcases hal with rfl | rfl
          · exact s1
          · exact s1.drew
        have hb1 : Below e.N0 w w1 := by
          rcases hal with rfl | rfl
          · exact Below.refl _ _
          · exact ⟨rfl, rfl, rfl, Nat.le_refl _, fun _ _ => rfl⟩
        exact ⟨hb1.trans (s3.setBlk _).2, (s3.setBlk _).1⟩
end
section
variable {α : Type} {kv : α → κ × Value}
def gz (kv : α → κ × Value) (z : α × Nat) : Ge κ := ((kv z.1).1, (kv z.1).2, z.2)
theorem gzip_of {T : List (Ge κ)} {fs : List α} (h : gkvs T = fs.map kv) : ∃ Z : List (α × Nat), T = Z.map (gz kv) ∧ Z.map (·.1) = fs := by
  induction T generalizing fs with
  | nil =>
    cases fs with
    | nil => exact ⟨[], rfl, rfl⟩
    | cons f fs => cases h
  | cons t T ih =>
    cases fs with
    | nil => cases h
    | cons f fs =>
      injection h with h1 h2
      obtain ⟨Z, rfl, rfl⟩ := ih h2
      refine ⟨(f, t.2.2) :: Z, ?_, rfl⟩
      rw [List.map_cons]
      congr 1
      unfold gz
      rw [← h1]
def GVisF (Z dz : List (α × Nat)) : Prop := (∀ z ∈ dz, z ∈ Z) ∧ (dz.map fun z => z.2).Nodup
theorem GVisF.nil (Z : List (α × Nat)) : GVisF Z [] := ⟨fun t h => absurd h List.not_mem_nil, List.nodup_nil⟩
def GAfterF (Z dz dz' : List (α × Nat)) : Option (α × Nat) → Prop
  | none => dz' = dz ∧ ∀ z ∈ Z, z.2 ∈ dz.map fun z => z.2
  | some z => dz' = dz ++ [z] ∧ z ∈ Z ∧ z.2 ∉ dz.map fun z => z.2
theorem gz_stamps (Z : List (α × Nat)) : (Z.map (gz kv)).map (fun t => t.2.2) = Z.map fun z => z.2 := by rw [List.map_map]; rfl
theorem GVisF.vis {Z dz : List (α × Nat)} (h : GVisF Z dz) : GVis (Z.map (gz kv)) (dz.map (gz kv)) :=
  ⟨fun t ht => by obtain ⟨z, hz, rfl⟩ := List.mem_map.1 ht; exact List.mem_map.2 ⟨z, h.1 z hz, rfl⟩, by rw [gz_stamps]; exact h.2⟩
theorem GVisF.step {Z dz : List (α × Nat)} {z : α × Nat} (h : GVisF Z dz) (hz : z ∈ Z) (hn : z.2 ∉ dz.map fun z => z.2) : GVisF Z (dz ++ [z]) := by
  refine ⟨fun u hu => ?_, ?_⟩
  · rcases List.mem_append.1 hu with hu | hu
    · exact h.1 u hu
    · rw [List.mem_singleton.1 hu]; exact hz
  · rw [List.map_append, List.nodup_append]
    refine ⟨h.2, by simp, fun a ha b hb => ?_⟩
    simp at hb
    subst hb
    exact fun e => hn (e ▸ ha)
theorem GVisF.len {Z dz : List (α × Nat)} (h : GVisF Z dz) : dz.length ≤ Z.length := nodup_len _ _ (nodup_of_map _ h.2) h.1
theorem gstampF_inj : ∀ {Z : List (α × Nat)}, (Z.map fun z => z.2).Nodup → ∀ {a b : α × Nat}, a ∈ Z → b ∈ Z → a.2 = b.2 → a = b := by
  intro Z
  induction Z with
  | nil => intro _ a b ha; cases ha
  | cons t T ih =>
    intro hn a b ha hb e
    rw [List.map_cons, List.nodup_cons] at hn
    rcases List.mem_cons.1 ha with h1 | ha
    · rcases List.mem_cons.1 hb with h2 | hb
      · rw [h1, h2]
      · exact absurd (List.mem_map.2 ⟨b, hb, by rw [← e, h1]⟩) hn.1
    · rcases List.mem_cons.1 hb with h2 | hb
      · exact absurd (List.mem_map.2 ⟨a, ha, by rw [e, h2]⟩) hn.1
      · exact ih hn.2 ha hb e
theorem GVisF.all {Z dz : List (α × Nat)} {c : Nat} (h : GVisF Z dz) (hs : GStp (Z.map (gz kv)) c) (hall : ∀ z ∈ Z, z.2 ∈ dz.map fun z => z.2) : (dz.map (·.1)).Perm (Z.map (·.1)) := by
  have hs1 := hs.1
  rw [gz_stamps] at hs1
  refine List.Perm.map _ ((List.perm_ext_iff_of_nodup (nodup_of_map _ h.2) (nodup_of_map _ hs1)).2 fun t => ⟨fun ht => h.1 t ht, fun ht => ?_⟩)
  obtain ⟨u, hu, e⟩ := List.mem_map.1 (hall t ht)
  rw [← gstampF_inj hs1 (h.1 u hu) ht e]; exact hu
end
section
variable {e : Env} {ds : List Deferred} {ρ : Sl} {B : Frag} {H R R2 : HP} {t kt et ty : TypeId} {x : Operand} {b i c : Nat} {α : Type} {kv : α → κ × Value} {Z dz : List (α × Nat)}
theorem Xx.openGF {K : Act → World → Prop} {fs : List α} (b : Nat) [hp : PickG H b (fs.map kv) R] (h : ∀ (Z : List (α × Nat)) c, GStp (Z.map (gz kv)) c → Z.map (·.1) = fs → Xx e ds K ρ B (blk b (gObj (Z.map (gz kv)) c) * R)) : Xx e ds K ρ B H :=
  Xx.openG (κ := κ) b fun T c hs hl => by
    obtain ⟨Z, rfl, hZ⟩ := gzip_of hl
    exact h Z c hs hZ
theorem Xx.closeGF {K : Act → World → Prop} {fs : List α} (b : Nat) {c : Nat} [hp : PickB H b (gObj (Z.map (gz kv)) c) R] (hs : GStp (Z.map (gz kv)) c) (hZ : Z.map (·.1) = fs) (h : Xx e ds K ρ B (gmap b (fs.map kv) * R)) : Xx e ds K ρ B H :=
  Xx.closeG (κ := κ) b hs (by
    have e9 : gkvs (Z.map (gz kv)) = fs.map kv := by
      rw [← hZ]; unfold gkvs; rw [List.map_map, List.map_map]; rfl
    rw [e9]; exact h)
theorem nxGF (hs : GStp (Z.map (gz kv)) c) (hv : GVisF Z dz) (hx : ev ρ x = some (.pointer (some ⟨i, 0, none⟩))) [h1 : PickB H i (gitObj b c (dz.map (gz kv))) R] [h2 : PickB R b (gObj (Z.map (gz kv)) c) R2] :
    Ox e ds (.next x false) ty ρ B H (fun v B' H' => ∃ o dz', v = .tuple (gnx (o.map (gz kv))) ∧ GAfterF Z dz dz' o ∧ B' = B ∧ H' = blk i (gitObj b c (dz'.map (gz kv))) * R) := by
  have h := nxG (e := e) (ds := ds) (B := B) (ty := ty) hs (hv.vis (kv := kv)) hx (H := H) (R := R) (R2 := R2)
  refine ⟨h.1, fun a w dst pos after guard K Q f b s k => h.2 a w dst pos after guard K Q f b s fun v B' H' w' ⟨o, done', e1, e2, e3, e4⟩ hB hb hs => k v B' H' w' ?_ hB hb hs⟩
  cases o with
  | none =>
    obtain ⟨rfl, hall⟩ := e2
    refine ⟨none, dz, e1, ⟨rfl, fun z hz => ?_⟩, e3, e4⟩
    have := hall (gz kv z) (List.mem_map.2 ⟨z, hz, rfl⟩)
    rw [gz_stamps] at this
    exact this
  | some t =>
    obtain ⟨rfl, ht, hn⟩ := e2
    obtain ⟨z, hz, rfl⟩ := List.mem_map.1 ht
    rw [gz_stamps] at hn
    exact ⟨some z, dz ++ [z], e1, ⟨rfl, hz, hn⟩, e3, by rw [e4, List.map_append]; rfl⟩
theorem entGF {P : Program} {N0 : Nat} {z : α × Nat} (hs : GStp (Z.map (gz kv)) c) (hz : z ∈ Z) (hx : ev ρ x = some (.pointer (some ⟨i, 0, none⟩))) [h1 : PickB H i (gitObj b c ((dz ++ [z]).map (gz kv))) R] [h2 : PickB R b (gObj (Z.map (gz kv)) c) R2] :
    Yx P (.entry x) ty ρ (St N0 B H) (.tuple #[MKey.enc (kv z.1).1, (kv z.1).2]) := .of (fun _ h => by cases h) fun f w _ _ _ _ he s => by
  have s1 : St N0 B (blk i (gitObj b c ((dz ++ [z]).map (gz kv))) * R) w := h1.eq ▸ s
  have s2 : St N0 B (blk b (gObj (Z.map (gz kv)) c) * R2) w := h2.eq ▸ s1.drop
  have hi := s1.blk.1
  have hb := s2.blk.1
  have hbk : (((dz ++ [z]).map (gz kv)).map fun t => t.2.2).toArray.back? = some z.2 := by
    rw [gz_stamps]; simp
  have hf : ((Z.map (gz kv)).map ge).toArray.find? (fun e => e.born == z.2) = some (ge (gz kv z)) := by
    have := find_born (ge (gz kv z)) ((Z.map (gz kv)).map ge) (by
      rw [List.map_map]
      exact hs.1) (List.mem_map.2 ⟨_, List.mem_map.2 ⟨z, hz, rfl⟩, rfl⟩)
    rw [List.find?_toArray]
    exact this
  have hr : (Instr.entry (.pointer (some ⟨i, 0, none⟩))).run P w = .ok (.tuple #[MKey.enc (kv z.1).1, (kv z.1).2]) w := by
    simp only [Instr.entry, getObj, Sem.run_bind, Sem.run, hi, hb, Result.andThen, hbk, bne_self_eq_false, Bool.false_eq_true, if_false, hf]
    rfl
  simp [execOp, he _ _ hx, hr, Result.andThen]
end
def MapL {κ : Type} [DecidableEq κ] [MKey κ] (N0 : Nat) (B : Frag) (H : HP) (b : Nat) (l : List (κ × Value)) : Prop := ∀ w, St N0 B H w → ∃ T c, GStp T c ∧ gkvs T = l ∧ w.heap[b]? = some (gObj T c)
section
variable {κ : Type} [DecidableEq κ] [MKey κ] {e : Env} {ds : List Deferred} {ρ : Sl} {B : Frag} {H R R2 : HP} {N0 : Nat} {P : Program} {t kt et ty tk : TypeId} {x y z : Operand} {b i c : Nat} {l : List (κ × Value)} {k : κ} {v zv : Value} {T done : List (Ge κ)}
theorem MapL.own [hp : PickG H b l R] : MapL N0 B H b l := fun w s => by
  have s' : St N0 B (gmap b l * R) w := hp.eq ▸ s
  obtain ⟨T, c, hs, hl, s2⟩ := s'.gmap
  exact ⟨T, c, hs, hl, s2.blk.1⟩
theorem MapL.ro (hB : B b = some (gObj T c)) (hs : GStp T c) (hl : gkvs T = l) : MapL N0 B H b l := fun w s => ⟨T, c, hs, hl, s.ro _ _ hB⟩
theorem lkL (hm : MapL N0 B H b l) (ht : P.underlying t = some (.map kt et)) (hk : P.underlying kt = some (MKey.desc κ)) (hz : ∀ w, (zeroValue et).run P w = .ok zv w) (hx : ev ρ x = some (.map (some b))) (hy : ev ρ y = some (MKey.enc k)) (hv : (gget k l).getD zv = v) :
    Yx P (.lookup t x y false) ty ρ (St N0 B H) v := .of (fun _ h => by cases h) fun f w _ _ _ _ he s => by
  subst hv
  obtain ⟨T, c, hs, rfl, h2⟩ := hm w s
  simp [execOp, he _ _ hx, he _ _ hy, run_glook ht hk h2 (hz w), Result.andThen]
theorem lkL2 (hm : MapL N0 B H b l) (ht : P.underlying t = some (.map kt et)) (hk : P.underlying kt = some (MKey.desc κ)) (hz : ∀ w, (zeroValue et).run P w = .ok zv w) (hx : ev ρ x = some (.map (some b))) (hy : ev ρ y = some (MKey.enc k)) (hv : (gget k l).getD zv = v) {o : Bool} (ho : (gget k l).isSome = o) :
    Yx P (.lookup t x y true) ty ρ (St N0 B H) (.tuple #[v, .bool o]) := .of (fun _ h => by cases h) fun f w _ _ _ _ he s => by
  subst hv ho
  obtain ⟨T, c, hs, rfl, h2⟩ := hm w s
  simp [execOp, he _ _ hx, he _ _ hy, run_glook ht hk h2 (hz w), Result.andThen]
theorem lenL (hm : MapL N0 B H b l) (ht : P.underlying t = some (.map kt et)) (hx : ev ρ x = some (.map (some b))) : Yx P (.call { callee := .builtin .len, args := #[x], argTypes := #[t] }) ty ρ (St N0 B H) (i64 (l.length : Nat)) := .of (fun _ h => by cases h) fun f w _ _ _ _ he s => by
  obtain ⟨T, c, hs, rfl, h2⟩ := hm w s
  simp [execOp, resolve, invoke, builtin, Builtin.len_, he _ _ hx, run_underlying ht, MapKept.run_getObj_map h2, goInt, Result.andThen, gkvs]
theorem rgR (hB : B b = some (gObj T c)) (ht : e.P.underlying t = some (.map kt et)) (hx : ev ρ x = some (.map (some b))) :
    Ox e ds (.range t x) ty ρ B H (fun v B' H' => ∃ i, v = .pointer (some ⟨i, 0, none⟩) ∧ B' = B ∧ H' = blk i (gitObj b c ([] : List (Ge κ))) * H) :=
  .of_run (fun _ h => by cases h) fun f w dst pos after guard he s => by
    have hr := run_range_map (P := e.P) w t kt et b _ _ ht (s.ro _ _ hB)
    refine ⟨_, w.alloc (gitObj b c ([] : List (Ge κ))), B, _, ?_, ⟨w.heap.size, rfl, rfl, rfl⟩, Frag.le_refl _, Below.alloc (Below.refl _ w) s.sz _, s.alloc _⟩
    simp [execOp, he _ _ hx, hr, Result.andThen]
    rfl
theorem nxR (hB : B b = some (gObj T c)) (hs : GStp T c) (hv : GVis T done) (hx : ev ρ x = some (.pointer (some ⟨i, 0, none⟩))) [h1 : PickB H i (gitObj b c done) R] :
    Ox e ds (.next x false) ty ρ B H (fun v B' H' => ∃ o done', v = .tuple (gnx o) ∧ GAfter T done done' o ∧ B' = B ∧ H' = blk i (gitObj b c done') * R) :=
  .of_run (fun _ h => by cases h) fun f w dst pos after guard he s => by
    have s1 : St e.N0 B (blk i (gitObj b c done) * R) w := h1.eq ▸ s
    obtain ⟨o, done', w', hr, ha, hw⟩ := run_nextG (P := e.P) (ty := ty) hs (s.ro _ _ hB) s1.blk.1 hv.1
    refine ⟨_, w', B, _, ?_, ⟨o, done', rfl, ha, rfl, rfl⟩, Frag.le_refl _, ?_⟩
    · simp [execOp, he _ _ hx, hr, Result.andThen]
    · rcases hw with ⟨rfl, rfl⟩ | ⟨w1, hal, rfl⟩
      · exact ⟨Below.refl _ _, s1⟩
      · have s3 : St e.N0 B (blk i (gitObj b c done) * R) w1 := by
          rcases hal with rfl | rfl
          · exact s1
          · exact s1.drew
        have hb1 : Below e.N0 w w1 := by
          rcases hal with rfl | rfl
          · exact Below.refl _ _
          · exact ⟨rfl, rfl, rfl, Nat.le_refl _, fun _ _ => rfl⟩
        exact ⟨hb1.trans (s3.setBlk _).2, (s3.setBlk _).1⟩
end
theorem St.less {N0 : Nat} {B B' : Frag} {H : HP} {w : World} (h : B.le B') (s : St N0 B' H w) : St N0 B H w := by
  obtain ⟨ro, sz, k, hk, hh⟩ := s
  refine ⟨fun b o hb => ro b o (h b o hb), sz, k, fun b o hb => ?_, hh⟩
  obtain ⟨h1, h2, h3⟩ := hk b o hb
  refine ⟨h1, ?_, h3⟩
  cases hB : B b with
  | none => rfl
  | some u => rw [h b u hB] at h2; cases h2
theorem CtC.lendB {P : Program} {f : FuncId} {args : List Value} {B : Frag} {p : HP} {v : Value} (he : ∀ args w, (callFunc f args).run P w = .ok (.enter f args) w)
    (h : ∀ k : Frag, p k → k.apart B → CtB P f args (Frag.un B k) (fun v' _ => v' = v)) : CtC P f args B p v p :=
  ⟨he, fun N0 w R s => by
    obtain ⟨k, hk, hap, s', back⟩ := s.lend
    refine ((h k hk hap).2 N0 w R s').mono ?_
    rintro x w' ⟨v', B', hx, rfl, hB', hb, s2⟩
    exact ⟨_, B, p, hx, ⟨rfl, rfl, rfl⟩, Frag.le_refl _, hb, back R w' (s2.less hB')⟩⟩
end Go.SL
namespace Go.SL
open Go.RowKit
section
variable {e : Env} {ds : List Deferred} {K : Act → World → Prop} {ρ : Sl} {B : Frag} {H R R1 : HP}
theorem Xx.srcT (A : Option Addr) {et : TypeId} {size n c : Nat} {xs : List Value} [hp : PickS H A et size n c xs R]
    (h : (A = none ∧ n = 0 ∧ xs = [] ∨ ∃ b, A = some ⟨b, 0, none⟩ ∧ xs.length = n * size) → Xx e ds K ρ B H) : Xx e ds K ρ B H := fun a w f b s => by
  have s' := s.of_eq hp.eq
  rcases s'.cases_sbuf with ⟨h1, h2, h3, h4, _⟩ | ⟨bb, sp, h1, h2, h3, _, _⟩
  · exact h (.inl ⟨h1, h2, h4⟩) a w f b s
  · exact h (.inr ⟨bb, h1, h2⟩) a w f b s
theorem appS {t tx et ty : TypeId} {x y : Operand} {size bytes nl c nx cx : Nat} {zs xs : List Value} {A Ax : Option Addr} {tyx et' : TypeId} (n' : Nat) (news xs' : List Value)
    (ht : e.P.underlying t = some (.slice et)) (htx : e.P.underlying tx = some (.slice tyx)) (hz : TI e.P et zs size bytes)
    (hx : ev ρ x = some (.slice A nl c)) (hy : ev ρ y = some (.slice Ax nx cx)) [h1 : PickS H A et size nl c xs R1] [h2 : PickS R1 Ax et' size nx cx news R]
    (hs : Ax = none ∧ nx = 0 ∧ news = [] ∨ ∃ b, Ax = some ⟨b, 0, none⟩ ∧ news.length = nx * size) (ha : news.all (·.oneCell') = true)
    (hb : nl + nx ≤ 9223372036854775807) (hbb : (nl + nx) * bytes ≤ 140737488355328) (hn' : nl + nx = n') (hx' : xs ++ news = xs') :
    Ox e ds (.call { callee := .builtin .append, args := #[x, y], argTypes := #[t, tx] }) ty ρ B H
      (fun v B' H' => ∃ A' c', v = .slice A' n' c' ∧ (0 < n' → ∃ b, A' = some ⟨b, 0, none⟩) ∧ xs.length = nl * size ∧ n' ≤ c' ∧ B' = B ∧ H' = sbuf et size A' n' c' xs' * (sbuf et' size Ax nx cx news * R)) := by
  subst hn' hx'
  exact appO ht htx hz hx hy (Src'.sbuf (c := cx) (et := et') hs) ha (by rw [h1.eq, h2.eq]) hb hbb
theorem Ox.mono {op : Op} {ty : TypeId} {Φ Ψ : Value → Frag → HP → Prop} (h : Ox e ds op ty ρ B H Φ) (hm : ∀ v B' H', Φ v B' H' → Ψ v B' H') : Ox e ds op ty ρ B H Ψ :=
  ⟨h.1, fun a w dst pos after guard K Q f b s k => h.2 a w dst pos after guard K Q f b s fun v B' H' w' hΦ hB hb hs => k v B' H' w' (hm _ _ _ hΦ) hB hb hs⟩
theorem appZ {t tx et ty : TypeId} {x y : Operand} {size bytes c cx b : Nat} {zs : List Value} {Ax : Option Addr} {tyx : TypeId}
    (ht : e.P.underlying t = some (.slice et)) (htx : e.P.underlying tx = some (.slice tyx)) (hz : TI e.P et zs size bytes)
    (hx : ev ρ x = some (.slice (some ⟨b, 0, none⟩) 0 c)) (hy : ev ρ y = some (.slice Ax 0 cx)) [hp : PickS H (some ⟨b, 0, none⟩) et size 0 c [] R] :
    Ox e ds (.call { callee := .builtin .append, args := #[x, y], argTypes := #[t, tx] }) ty ρ B H (fun v B' H' => v = .slice (some ⟨b, 0, none⟩) 0 c ∧ B' = B ∧ H' = H) :=
  .of_run (fun _ h => by cases h) fun f w dst pos after guard he s => by
    obtain ⟨i, zv, z1, z2, z3, z4, z5, z6, z7⟩ := hz
    have s0 := s.of_eq hp.eq
    have hsrc : Src e.P i.size tx (.slice Ax 0 cx) 0 [] w := by
      cases Ax with
      | none => exact Src.ofNil w htx cx
      | some a => exact Src.ofSlice w htx a 0 cx [] (by simp) (fun j u hj => by simp at hj) (fun u hu => by cases hu)
    have hrunE : ∀ {r w'}, (Builtin.append_ #[t, tx] ty #[.slice (some ⟨b, 0, none⟩) 0 c, .slice Ax 0 cx]).run e.P w = .ok r w' → (execOp f ⟨dst, .call { callee := .builtin .append, args := #[x, y], argTypes := #[t, tx] }, ty, pos, after, guard⟩).run e.P w = .ok (.value r) w' := by
      intro r w' hr
      simp [execOp, resolve, he _ _ hx, he _ _ hy, invoke, builtin, hr]
    rcases s0.cases_sbuf with ⟨e1, _⟩ | ⟨b', sp, e1, e2, e3, e4, s'⟩
    · cases e1
    · injection e1 with e1
      injection e1 with e1
      subst e1
      have hh := s'.blk.1
      have hst := run_storeCells_at (P := e.P) b (0 * size) et [] 0 ([] ++ sp).toArray w hh (by simp) (fun u hu => by cases hu)
      simp only [List.toList_toArray] at hst
      have hl2 : ([] ++ sp).take (0 * size + 0) ++ ([] : List Value) ++ ([] ++ sp).drop (0 * size + 0 + ([] : List Value).length) = sp := by simp
      rw [hl2] at hst
      have hlen := hsrc.len w
      have hfc := hsrc.cells
      rw [z4] at hfc
      have hr : (Builtin.append_ #[t, tx] ty #[.slice (some ⟨b, 0, none⟩) 0 c, .slice Ax 0 cx]).run e.P w = .ok (.slice (some ⟨b, 0, none⟩) (0 + 0) c) (w.setRow b sp.toArray) := by
        have hroom : 0 + 0 ≤ c := by omega
        simp only [Builtin.append_, Sem.run_bind, Sem.run_pure, Result.andThen, run_underlying ht, run_underlying htx, sizeOf, typeInfo, run_program, z1, z4, hlen, hroom, if_true, hfc, add_mk, Nat.zero_add, hst, List.getElem?_toArray, List.getElem?_cons_zero, List.getElem?_cons_succ]
        simp [hlen, hfc]
        simp at hst
        simp [hst]
      refine ⟨_, _, B, _, hrunE hr, ⟨rfl, rfl, rfl⟩, Frag.le_refl _, (s'.setRow _).2, ?_⟩
      exact (St.of_sbuf (xs := []) (sp := sp) (by simp) (by omega) e4 (s'.setRow sp.toArray).1).of_eq hp.eq.symm
theorem appC {t tx et ty : TypeId} {x y : Operand} {size bytes c nx cx b : Nat} {zs news : List Value} {Ax : Option Addr} {tyx : TypeId}
    (ht : e.P.underlying t = some (.slice et)) (htx : e.P.underlying tx = some (.slice tyx)) (hz : TI e.P et zs size bytes)
    (hx : ev ρ x = some (.slice (some ⟨b, 0, none⟩) 0 c)) (hy : ev ρ y = some (.slice Ax nx cx)) [hp : PickS H (some ⟨b, 0, none⟩) et size 0 c [] R]
    (hs : nx = 0 ∧ news = [] ∨ RoS B size Ax nx news) (h1 : news.all (·.oneCell') = true) (hb : nx ≤ 9223372036854775807) (hbb : nx * bytes ≤ 140737488355328) :
    Ox e ds (.call { callee := .builtin .append, args := #[x, y], argTypes := #[t, tx] }) ty ρ B H (fun v B' H' => ∃ A' c', v = .slice A' nx c' ∧ nx ≤ c' ∧ B' = B ∧ H' = sbuf et size A' nx c' news * R) := by
  rcases hs with ⟨rfl, rfl⟩ | hs
  · exact (appZ ht htx hz hx hy).mono fun v B' H' ⟨h1, h2, h3⟩ => ⟨_, _, h1, Nat.zero_le _, h2, h3.trans hp.eq⟩
  · exact (appB nx news ht htx hz hx hy hs h1 (by omega) (by simpa using hbb) (by omega) (by simp)).mono fun v B' H' ⟨A', c', h1, h2, h3, h4, h5⟩ => ⟨A', c', h1, h3, h4, h5⟩
end
end Go.SL
namespace Go.Proofs.YtdidpocakipinaaGreatDoor
open Go.SL Go.RowKit
set_option maxRecDepth 100000
open Ke1 Ke3 Ke4 Ke5 Ke6 Ke7 Ke8 Ke9 KeA KeB KeC KeD KeE KeF KeG KeI RgA BtB BtC BtD BtE BtG BtH BtI BtF BtJ BtK BtL BtM BtX
namespace BtN
theorem sz9 : (Tryz.prog.info? 9).map (·.size) = some 1 := by kernel_rfl
theorem ti9 : TI Tryz.prog 9 [str []] 1 16 := TI.of (by kernel_rfl) rfl rfl
set_option maxHeartbeats 4000000 in
theorem Del_row (b i n c : Nat) (xs sp : List Value) (B : Frag) (hi : i < n) (hxl : xs.length = n) (hnc : n ≤ c) (hcl : (xs ++ sp).length = c) (hx1 : xs.all (·.oneCell') = true) (hbd : n ≤ 4611686018427387904) : Ct Tryz.prog 84 [.slice (some ⟨b, 0, none⟩) n c, i64 (i : Nat), i64 (i + 1 : Nat)] B (row b 9 (xs ++ sp)) (fun v B' H' => v = .slice (some ⟨b, 0, none⟩) (n - 1) c ∧ B' = B ∧ ∃ sp', H' = row b 9 ((xs.take i ++ xs.drop (i + 1)) ++ sp') ∧ ((xs.take i ++ xs.drop (i + 1)) ++ sp').length = c) := by
 have hcl2 := hcl
 rw [List.length_append] at hcl2
 have hT : (xs.take i).length = i := by rw [List.length_take]; omega
 have hD : (xs.drop (i + 1)).length = n - (i + 1) := by rw [List.length_drop]; omega
 have hD1 : (xs.drop (i + 1)).all (·.oneCell') = true := by rw [List.all_eq_true] at hx1 ⊢; exact fun v hv => hx1 v (List.mem_of_mem_drop hv)
 refine Ct.of_body Tryz.func84 rfl (nt := 33) rfl (by kernel_rfl) rfl ?_
 intro N0 w0 R
 refine Cx.seq (fun K1 k1 => ?_)
 refine Cx.region <| Lx.y (asg rfl) rfl <| Lx.nil <| ?_
 refine Xx.tn (k1 _ _ _ _ ?_)
 refine Cx.seq (fun K2 k2 => ?_)
 refine Cx.region <| Lx.y (mv rfl) rfl <| Lx.y (mv rfl) rfl <| Lx.y (mv rfl) rfl <| Lx.y (mv rfl) rfl <| Lx.y (lenV (ty' := 0) U23 rfl) rfl <| Lx.y (sl4V U23 sz9 rfl rfl rfl rfl (by omega) (by omega) (by omega) (by omega)) rfl <| Lx.nil <| ?_
 refine Xx.tn (k2 _ _ _ _ ?_)
 refine Cx.seq (fun K3 k3 => ?_)
 refine Cx.seq (fun K4 k4 => ?_)
 refine Cx.region <| Lx.y (mv rfl) rfl <| Lx.y (mv rfl) rfl <| Lx.y (eqI rfl rfl) rfl <| Lx.nil <| ?_
 refine Xx.tn (k4 _ _ _ _ ?_)
 refine Cx.condD rfl (fun h5 => ?_) (fun h5 => ?_)
 ·
  exact absurd h5 (by omega)
 ·
  refine Cx.skip ?_
  refine Xx.tn (k3 _ _ _ _ ?_)
  refine Cx.seq (fun K6 k6 => ?_)
  refine Cx.region <| Lx.y (mv rfl) rfl <| Lx.y (lenV (ty' := 0) U23 rfl) rfl <| Lx.y (asg rfl) rfl <| Lx.nil <| ?_
  refine Xx.tn (k6 _ _ _ _ ?_)
  refine Cx.seq (fun K7 k7 => ?_)
  refine Cx.drawn (by kernel_rfl) ?_
  refine Dx.p (i := 0) rfl (by kernel_rfl) (mv rfl) rfl ?_
  refine Dx.p (i := 1) rfl (by kernel_rfl) (mv rfl) rfl ?_
  refine Dx.p (i := 2) rfl (by kernel_rfl) (sl2V U23 sz9 rfl rfl (Int.toNat_natCast _) (by omega) (by omega)) rfl ?_
  refine Dx.p (i := 3) rfl (by kernel_rfl) (mv rfl) rfl ?_
  refine Dx.p (i := 4) rfl (by kernel_rfl) (mv rfl) rfl ?_
  refine Dx.p (i := 5) rfl (by kernel_rfl) (sl1V U23 sz9 rfl rfl (Int.toNat_natCast _) (by omega) (by omega)) rfl ?_
  refine Dx.one (i := 6) (by kernel_rfl) ?_
  refine Dstep.o (i := 6) rfl (apR (cs' := (xs.take i ++ xs.drop (i + 1)) ++ (xs ++ sp).drop (i + (n - (i + 1)))) U23 U23 ti9 rfl rfl (by have := SrcH.sub (N0 := N0) (B := B) (H := row b 9 (xs ++ sp) * R) (c := c) (j := i + 1) (size := 1) (b := b) (by omega : xs.length = n * 1) (by omega) hnc; rw [Nat.mul_one] at this; exact this) (by omega) hD1 (by omega) (by rw [hD, List.length_append]; omega) (by rw [hD, List.take_append_of_le_length (by omega), Nat.zero_add, Nat.mul_one])) rfl (fun v B' H' hΦ hB => ?_)
  obtain ⟨rfl, hBB, rfl⟩ := hΦ
  subst hBB
  rename Frag => B
  clear hB
  rw [show i + (n - (i + 1)) = n - 1 by omega]
  refine ⟨JOk.top, ?_⟩
  refine Dx.p (i := 7) rfl (by kernel_rfl) (asg rfl) rfl ?_
  refine Dx.done (by kernel_rfl) ?_
  refine Xx.tn (k7 _ _ _ _ ?_)
  refine Cx.seq (fun K8 k8 => ?_)
  refine Cx.region <| Lx.y (mv rfl) rfl <| Lx.y (mv rfl) rfl <| Lx.y (lenV (ty' := 0) U23 rfl) rfl <| Lx.y (mv rfl) rfl <| Lx.y (sl3A (n - 1) n U23 sz9 rfl rfl rfl rfl rfl (by omega) (by omega) (by omega)) rfl <| ?_
  refine Lx.o0 (clO U23 ti9 rfl (by omega) rfl (by simp only [List.length_append, List.length_drop, hT]; omega)) (fun v B' H' hΦ hB => ?_)
  obtain ⟨rfl, hBB, zz, hzl, rfl⟩ := hΦ
  subst hBB
  rename Frag => B
  clear hB
  refine Lx.nil ?_
  refine Xx.tn (k8 _ _ _ _ ?_)
  refine Cx.seq (fun K9 k9 => ?_)
  refine Cx.region <| Lx.y (mv rfl) rfl <| Lx.y (asg rfl) rfl <| Lx.nil <| ?_
  refine Xx.tn (k9 _ _ _ _ ?_)
  refine Cx.ret ?_
  have e1 : ((xs.take i ++ xs.drop (i + 1)) ++ (xs ++ sp).drop (n - 1)).take (0 + (n - 1) * 1) = (xs.take i ++ xs.drop (i + 1)) := by rw [List.take_append_of_le_length (by rw [List.length_append, hT, hD]; omega), List.take_of_length_le (by rw [List.length_append, hT, hD]; omega)]
  rw [e1, List.append_assoc]
  exact Xx.ret1 rfl rfl ⟨rfl, rfl, _, rfl, by simp only [List.length_append, List.length_drop, hT, hD, hzl]; omega⟩ (Frag.le_refl _) rfl
theorem Del_ct (A : Option Addr) (i n c : Nat) (xs : List Value) (B : Frag) (hi : i < n) (hxl : xs.length = n) (hx1 : xs.all (·.oneCell') = true) (hbd : n ≤ 4611686018427387904) : Ct Tryz.prog 84 [.slice A n c, i64 (i : Nat), i64 (i + 1 : Nat)] B (sbuf 9 1 A n c xs) (fun v B' H' => v = .slice A (n - 1) c ∧ B' = B ∧ H' = sbuf 9 1 A (n - 1) c (xs.take i ++ xs.drop (i + 1))) := by
  have h0 := Ct.of_sbuf (P := Tryz.prog) (f := 84) (args := [.slice A n c, i64 (i : Nat), i64 (i + 1 : Nat)]) (B := B) (et := 9) (size := 1) (n := n) (c := c) (A := A) (xs := xs) (q := 1) (Φ := fun v B' H' => v = .slice A (n - 1) c ∧ B' = B ∧ H' = sbuf 9 1 A (n - 1) c (xs.take i ++ xs.drop (i + 1))) (by omega) ?_ (Go.SL.enters_of Tryz.func84 rfl (by kernel_rfl))
  · rw [star_one] at h0; exact h0
  · intro b sp hA hx hnc hcl
    subst hA
    rw [one_star]
    have hm := Del_row b i n c xs sp B hi hxl hnc (by omega) hx1 hbd
    refine ⟨hm.1, fun N0 w R s => (hm.2 N0 w R s).mono ?_⟩
    rintro x w' ⟨v, B', _, hx', ⟨rfl, rfl, sp', rfl, hl⟩, hBB, hb, s'⟩
    refine ⟨_, _, _, hx', ⟨rfl, rfl, rfl⟩, hBB, hb, row_sbuf ?_ (by omega) (by omega) s'⟩
    simp only [List.length_append, List.length_take, List.length_drop, hxl]; omega
end BtN
end Go.Proofs.YtdidpocakipinaaGreatDoor
namespace Go.Proofs.YtdidpocakipinaaGreatDoor
open Go.SL Go.RowKit
set_option maxRecDepth 100000
open Ke1 Ke3 Ke4 Ke5 Ke6 Ke7 Ke8 Ke9 KeA KeB KeC KeD KeE KeF KeG KeI RgA BtB BtC BtD BtE BtG BtX BtH BtI BtF BtJ BtN BtO BtY BtZ DrA
namespace DrB
theorem sz9 : (Tryz.prog.info? 9).map (·.size) = some 1 := by kernel_rfl
theorem sz23 : (Tryz.prog.info? 23).map (·.size) = some 1 := by kernel_rfl
theorem sz110 : (Tryz.prog.info? 110).map (·.size) = some 1 := by kernel_rfl
theorem sz111 : (Tryz.prog.info? 111).map (·.size) = some 1 := by kernel_rfl
theorem ti9 : TI Tryz.prog 9 [str []] 1 16 := TI.of (by kernel_rfl) rfl rfl
theorem ti110 : TI Tryz.prog 110 [.pointer none] 1 8 := TI.of (by kernel_rfl) rfl rfl
theorem fo113_0 : FO Tryz.prog 113 0 0 1 false := FO.of U113 rfl rfl (by kernel_rfl) U23 rfl rfl
theorem fo113_1 : FO Tryz.prog 113 1 1 1 false := FO.of U113 rfl rfl (by kernel_rfl) U23 rfl rfl
theorem fo113_2 : FO Tryz.prog 113 2 2 1 false := FO.of U113 rfl rfl (by kernel_rfl) U111 rfl rfl
set_option maxHeartbeats 4000000 in
theorem fr_raw (b bl bk n nl nk p ql qk i : Nat) (Ak Av Ac Al Bl Cl Am Bm Cm : Option Addr) (ck cv cc cl1 cl2 cl3 cm1 cm2 cm3 : Nat) (ks vs lk lv kk kv : List Str8) (ps lp kp : List Value) (K W : Str8) (B : Frag) (hn : n ≤ 100) (hp : p = n + 1) (hi : i + 1 < p) (hks : ks.length = n) (hvs : vs.length = n) (hpl : ps.length = p) (hnl : nl ≤ 7) (hlk : lk.length = nl) (hlv : lv.length = nl) (hkk : kk.length = nk) (hkv : kv.length = nk) (hlp : lp.length = ql) (hkp : kp.length = qk) (hql : ql ≤ 8) (hqk : qk ≤ 8) (hpl1 : (ps.drop (0 + i * 1)).take 1 = [.pointer (some ⟨bl, 0, none⟩)]) (hpk1 : (ps.drop (0 + (i + 1) * 1)).take 1 = [.pointer (some ⟨bk, 0, none⟩)]) (hK : ((ks.map str).drop (0 + i * 1)).take 1 = [str K]) (hW : ((vs.map str).drop (0 + i * 1)).take 1 = [str W]) (hpa : ps.all (·.oneCell') = true) (hla : lp.all (·.oneCell') = true) (hka : kp.all (·.oneCell') = true) (Kx Wx : Str8) (hnk : 4 ≤ nk ∧ nk ≤ 7) (hK1 : ((kk.map str).drop (0 + 0 * 1)).take 1 = [str Kx]) (hW1 : ((kv.map str).drop (0 + 0 * 1)).take 1 = [str Wx]) (g : Nat) (hg : qk ≠ 0 → kp.take 1 = [.pointer (some ⟨g, 0, none⟩)]) : Ct Tryz.prog 103 [.pointer (some ⟨b, 0, none⟩), i64 i] B (row b 113 [.slice Ak (n) ck, .slice Av (n) cv, .slice Ac (p) cc] * (sbuf 9 1 Ak (n) ck (ks.map str) * (sbuf 9 1 Av (n) cv (vs.map str) * (sbuf 110 1 Ac (p) cc (ps) * (row bl 113 [.slice Al (nl) cl1, .slice Bl (nl) cl2, .slice Cl (ql) cl3] * (sbuf 9 1 Al (nl) cl1 (lk.map str) * (sbuf 9 1 Bl (nl) cl2 (lv.map str) * (sbuf 110 1 Cl (ql) cl3 (lp) * (row bk 113 [.slice Am (nk) cm1, .slice Bm (nk) cm2, .slice Cm (qk) cm3] * (sbuf 9 1 Am (nk) cm1 (kk.map str) * (sbuf 9 1 Bm (nk) cm2 (kv.map str) * (sbuf 110 1 Cm (qk) cm3 (kp))))))))))))) (fun v B' H' => v = .tuple #[] ∧ B' = B ∧ ∃ Al9 cl9 Bl9 dl9 Cl9 el9, H' = row b 113 [.slice Ak (n) ck, .slice Av (n) cv, .slice Ac (p) cc] * (sbuf 9 1 Ak (n) ck ((ks.set i Kx).map str) * (sbuf 9 1 Av (n) cv ((vs.set i Wx).map str) * (sbuf 110 1 Ac (p) cc (ps) * (row bl 113 [.slice Al9 (nl + 1) cl9, .slice Bl9 (nl + 1) dl9, .slice Cl9 (ql + min qk 1) el9] * (sbuf 9 1 Al9 (nl + 1) cl9 (lk.map str ++ [str K]) * (sbuf 9 1 Bl9 (nl + 1) dl9 (lv.map str ++ [str W]) * (sbuf 110 1 Cl9 (ql + min qk 1) el9 (lp ++ kp.take 1) * (row bk 113 [.slice Am (nk - 1) cm1, .slice Bm (nk - 1) cm2, .slice Cm (qk - 1) cm3] * (sbuf 9 1 Am (nk - 1) cm1 ((kk.map str).drop 1) * (sbuf 9 1 Bm (nk - 1) cm2 ((kv.map str).drop 1) * (sbuf 110 1 Cm (qk - 1) cm3 (kp.drop 1))))))))))))) := by
 refine Ct.of_body Tryz.func103 rfl (nt := 122) rfl (by kernel_rfl) rfl ?_
 intro N0 w0 R
 simp only [star_assoc]
 refine Xx.addrT Ac (by omega) (fun bC hAc _ _ => ?_)
 subst hAc
 refine Xx.addrT Ak (by omega) (fun bK hAk _ _ => ?_)
 subst hAk
 refine Xx.addrT Av (by omega) (fun bV hAv _ _ => ?_)
 subst hAv
 refine Xx.addrT Am (by omega) (fun bK2 hAm _ hcm1 => ?_)
 subst hAm
 refine Xx.addrT Bm (by omega) (fun bV2 hBm _ hcm2 => ?_)
 subst hBm
 refine Cx.seq (fun K1 k1 => ?_)
 refine Cx.drawn (by kernel_rfl) ?_
 refine Dx.p (i := 0) rfl (by kernel_rfl) (mv rfl) rfl ?_
 refine Dx.p (i := 1) rfl (by kernel_rfl) (nilc rfl) rfl ?_
 refine Dx.p (i := 2) rfl (by kernel_rfl) (fa' fo113_2 rfl) rfl ?_
 refine Dx.r (i := 3) rfl (by kernel_rfl) (ld U111 rfl rfl rfl) rfl ?_
 refine Dx.p (i := 4) rfl (by kernel_rfl) (mv rfl) rfl ?_
 refine Dx.p (i := 5) rfl (by kernel_rfl) (ia U111 sz110 rfl rfl (by first | exact Int.toNat_natCast _ | rfl) (by omega) (by omega)) rfl ?_
 refine Dx.r (i := 6) rfl (by kernel_rfl) (ldC U110 rfl rfl (Cells.buf (m := 1) hpl1 (by omega))) rfl ?_
 refine Dx.p (i := 7) rfl (by kernel_rfl) (mv rfl) rfl ?_
 refine Dx.p (i := 8) rfl (by kernel_rfl) (nilc rfl) rfl ?_
 refine Dx.p (i := 9) rfl (by kernel_rfl) (fa' fo113_2 rfl) rfl ?_
 refine Dx.r (i := 10) rfl (by kernel_rfl) (ld U111 rfl rfl rfl) rfl ?_
 refine Dx.p (i := 11) rfl (by kernel_rfl) (mv rfl) rfl ?_
 refine Dx.p (i := 12) rfl (by kernel_rfl) (Yx.val (add rfl rfl (by first | exact wrap64 (by omega) (by omega) | rfl)) (show _ = i64 ((i + 1 : Nat) : Int) from rfl)) rfl ?_
 refine Dx.p (i := 13) rfl (by kernel_rfl) (ia U111 sz110 rfl rfl (by first | exact Int.toNat_natCast _ | rfl) (by omega) (by omega)) rfl ?_
 refine Dx.r (i := 14) rfl (by kernel_rfl) (ldC U110 rfl rfl (Cells.buf (m := 1) hpk1 (by omega))) rfl ?_
 refine Dx.p (i := 15) rfl (by kernel_rfl) (asg rfl) rfl ?_
 refine Dx.p (i := 16) rfl (by kernel_rfl) (asg rfl) rfl ?_
 refine Dx.done (by kernel_rfl) ?_
 refine Xx.tn (k1 _ _ _ _ ?_)
 refine Cx.seq (fun K2 k2 => ?_)
 refine Cx.drawn (by kernel_rfl) ?_
 refine Dx.p (i := 0) rfl (by kernel_rfl) (mv rfl) rfl ?_
 refine Dx.p (i := 1) rfl (by kernel_rfl) (mv rfl) rfl ?_
 refine Dx.p (i := 2) rfl (by kernel_rfl) (mv rfl) rfl ?_
 refine Dx.p (i := 3) rfl (by kernel_rfl) (nilc rfl) rfl ?_
 refine Dx.p (i := 4) rfl (by kernel_rfl) (fa' fo113_0 rfl) rfl ?_
 refine Dx.r (i := 5) rfl (by kernel_rfl) (ld U23 rfl rfl rfl) rfl ?_
 refine Dx.p (i := 6) rfl (by kernel_rfl) (mv rfl) rfl ?_
 refine Dx.p (i := 7) rfl (by kernel_rfl) (nilc rfl) rfl ?_
 refine Dx.p (i := 8) rfl (by kernel_rfl) (fa' fo113_0 rfl) rfl ?_
 refine Dx.r (i := 9) rfl (by kernel_rfl) (ld U23 rfl rfl rfl) rfl ?_
 refine Dx.p (i := 10) rfl (by kernel_rfl) (mv rfl) rfl ?_
 refine Dx.p (i := 11) rfl (by kernel_rfl) (ia U23 sz9 rfl rfl (by first | exact Int.toNat_natCast _ | rfl) (by omega) (by omega)) rfl ?_
 refine Dx.r (i := 12) rfl (by kernel_rfl) (ldC U9 rfl rfl (Cells.buf (m := 1) hK (by rw [List.length_map]; omega))) rfl ?_
 refine Dx.p (i := 15) rfl (by kernel_rfl) (mv rfl) rfl ?_
 refine Dx.p (i := 16) rfl (by kernel_rfl) (nilc rfl) rfl ?_
 refine Dx.p (i := 17) rfl (by kernel_rfl) (fa' fo113_1 rfl) rfl ?_
 refine Dx.r (i := 18) rfl (by kernel_rfl) (ld U23 rfl rfl rfl) rfl ?_
 refine Dx.p (i := 19) rfl (by kernel_rfl) (mv rfl) rfl ?_
 refine Dx.p (i := 20) rfl (by kernel_rfl) (nilc rfl) rfl ?_
 refine Dx.p (i := 21) rfl (by kernel_rfl) (fa' fo113_1 rfl) rfl ?_
 refine Dx.r (i := 22) rfl (by kernel_rfl) (ld U23 rfl rfl rfl) rfl ?_
 refine Dx.p (i := 23) rfl (by kernel_rfl) (mv rfl) rfl ?_
 refine Dx.p (i := 24) rfl (by kernel_rfl) (ia U23 sz9 rfl rfl (by first | exact Int.toNat_natCast _ | rfl) (by omega) (by omega)) rfl ?_
 refine Dx.r (i := 25) rfl (by kernel_rfl) (ldC U9 rfl rfl (Cells.buf (m := 1) hW (by rw [List.length_map]; omega))) rfl ?_
 refine Dx.two (i := 13) (j := 26) (by kernel_rfl) ?_ ?_
 ·
  refine Dstep.o (i := 13) rfl (bsl1 U23 ti9 rfl rfl rfl (by decide)) rfl (fun v B' H' hΦ hB => ?_)
  obtain ⟨b1, rfl, rfl, rfl⟩ := hΦ; clear hB
  refine ⟨JOk.yes (JOk.yes (JOk.yes (JOk.edge (JOk.yes (JOk.yes (JOk.top) (ld U23 rfl rfl rfl)) (ld U23 rfl rfl rfl)) (by kernel_rfl)) (ld U23 rfl rfl rfl)) (ld U23 rfl rfl rfl)) (ldC U9 rfl rfl (Cells.buf (m := 1) hW (by rw [List.length_map]; omega))), ?_⟩
  refine Dx.two (i := 14) (j := 26) (by kernel_rfl) ?_ ?_
  ·
   refine Dstep.o (i := 14) rfl (appN (et := 9) (nl + 1) [str K] (lk.map str ++ [str K]) U23 U23 ti9 rfl rfl rfl rfl rfl (by omega) (by omega) rfl rfl) rfl (fun v B' H' hΦ hB => ?_)
   obtain ⟨Al9, cl9, rfl, _, _, hcl9, hBB, rfl⟩ := hΦ
   subst hBB
   rename Frag => B
   clear hB
   refine ⟨JOk.yes (JOk.yes (JOk.yes (JOk.yes (JOk.yes (JOk.edge (JOk.top) (by kernel_rfl)) (ld U23 rfl rfl rfl)) (ldC U9 rfl rfl (Cells.buf (m := 1) hK (by rw [List.length_map]; omega)))) (ld U23 rfl rfl rfl)) (ld U23 rfl rfl rfl)) (ldC U9 rfl rfl (Cells.buf (m := 1) hW (by rw [List.length_map]; omega))), ?_⟩
   refine Dx.one (i := 26) (by kernel_rfl) ?_
   refine Dstep.o (i := 26) rfl (bsl1 U23 ti9 rfl rfl rfl (by decide)) rfl (fun v B' H' hΦ hB => ?_)
   obtain ⟨b2, rfl, rfl, rfl⟩ := hΦ; clear hB
   refine ⟨JOk.edge (JOk.yes (JOk.yes (JOk.yes (JOk.yes (JOk.yes (JOk.top) (ld U23 rfl rfl rfl)) (ld U23 rfl rfl rfl)) (ldC U9 rfl rfl (Cells.buf (m := 1) hK (by rw [List.length_map]; omega)))) (ld U23 rfl rfl rfl)) (ld U23 rfl rfl rfl)) (by kernel_rfl), ?_⟩
   refine Dx.one (i := 27) (by kernel_rfl) ?_
   refine Dstep.o (i := 27) rfl (appN (et := 9) (nl + 1) [str W] (lv.map str ++ [str W]) U23 U23 ti9 rfl rfl rfl rfl rfl (by omega) (by omega) rfl rfl) rfl (fun v B' H' hΦ hB => ?_)
   obtain ⟨Bl9, dl9, rfl, _, _, hdl9, hBB, rfl⟩ := hΦ
   subst hBB
   rename Frag => B
   clear hB
   refine ⟨JOk.yes (JOk.yes (JOk.edge (JOk.yes (JOk.yes (JOk.yes (JOk.top) (ld U23 rfl rfl rfl)) (ld U23 rfl rfl rfl)) (ldC U9 rfl rfl (Cells.buf (m := 1) hK (by rw [List.length_map]; omega)))) (by kernel_rfl)) (ld U23 rfl rfl rfl)) (ldC U9 rfl rfl (Cells.buf (m := 1) hW (by rw [List.length_map]; omega))), ?_⟩
   refine Dx.p (i := 28) rfl (by kernel_rfl) (nilc rfl) rfl ?_
   refine Dx.p (i := 29) rfl (by kernel_rfl) (fa' fo113_0 rfl) rfl ?_
   refine Dx.one (i := 30) (by kernel_rfl) ?_
   refine Dstep.o0 (i := 30) rfl (stO U23 sz23 rfl rfl rfl (by simp) rfl) (fun v B' H' hΦ hB => ?_)
   obtain ⟨rfl, rfl⟩ := hΦ; clear hB v
   refine ⟨JOk.edge (JOk.edge (JOk.edge (JOk.edge (JOk.edge (JOk.edge (JOk.top) (by kernel_rfl)) (by kernel_rfl)) (by kernel_rfl)) (by kernel_rfl)) (by kernel_rfl)) (by kernel_rfl), ?_⟩
   refine Dx.p (i := 31) rfl (by kernel_rfl) (nilc rfl) rfl ?_
   refine Dx.p (i := 32) rfl (by kernel_rfl) (fa' fo113_1 rfl) rfl ?_
   refine Dx.one (i := 33) (by kernel_rfl) ?_
   refine Dstep.o0 (i := 33) rfl (stO U23 sz23 rfl rfl rfl (by simp) rfl) (fun v B' H' hΦ hB => ?_)
   obtain ⟨rfl, rfl⟩ := hΦ; clear hB v
   refine ⟨JOk.edge (JOk.edge (JOk.edge (JOk.edge (JOk.edge (JOk.edge (JOk.top) (by kernel_rfl)) (by kernel_rfl)) (by kernel_rfl)) (by kernel_rfl)) (by kernel_rfl)) (by kernel_rfl), ?_⟩
   refine Dx.done (by kernel_rfl) ?_
   refine Xx.tn (k2 _ _ _ _ ?_)
   refine Cx.seq (fun K3 k3 => ?_)
   refine Xx.dropB b1 (Xx.dropB b2 ?_)
   refine Xx.openT (some ⟨bK, 0, none⟩) (by omega) (fun bKx spK hAk hkx hkc hkcl => ?_)
   cases hAk
   refine Xx.openT (some ⟨bV, 0, none⟩) (by omega) (fun bVx spV hAv hvx hvc hvcl => ?_)
   cases hAv
   refine Cx.drawn (by kernel_rfl) ?_
   refine Dx.p (i := 0) rfl (by kernel_rfl) (mv rfl) rfl ?_
   refine Dx.p (i := 1) rfl (by kernel_rfl) (nilc rfl) rfl ?_
   refine Dx.p (i := 2) rfl (by kernel_rfl) (fa' fo113_0 rfl) rfl ?_
   refine Dx.r (i := 3) rfl (by kernel_rfl) (ld U23 rfl rfl rfl) rfl ?_
   refine Dx.p (i := 4) rfl (by kernel_rfl) (mv rfl) rfl ?_
   refine Dx.p (i := 5) rfl (by kernel_rfl) (mv rfl) rfl ?_
   refine Dx.p (i := 6) rfl (by kernel_rfl) (nilc rfl) rfl ?_
   refine Dx.p (i := 7) rfl (by kernel_rfl) (fa' fo113_1 rfl) rfl ?_
   refine Dx.r (i := 8) rfl (by kernel_rfl) (ld U23 rfl rfl rfl) rfl ?_
   refine Dx.p (i := 9) rfl (by kernel_rfl) (mv rfl) rfl ?_
   refine Dx.p (i := 10) rfl (by kernel_rfl) (mv rfl) rfl ?_
   refine Dx.p (i := 11) rfl (by kernel_rfl) (nilc rfl) rfl ?_
   refine Dx.p (i := 12) rfl (by kernel_rfl) (fa' fo113_0 rfl) rfl ?_
   refine Dx.r (i := 13) rfl (by kernel_rfl) (ld U23 rfl rfl rfl) rfl ?_
   refine Dx.p (i := 14) rfl (by kernel_rfl) (ia U23 sz9 rfl rfl (show Int.toNat _ = 0 from rfl) (by omega) (by omega)) rfl ?_
   refine Dx.r (i := 15) rfl (by kernel_rfl) (ldC U9 rfl rfl (Cells.buf (m := 1) hK1 (by rw [List.length_map]; omega))) rfl ?_
   refine Dx.p (i := 16) rfl (by kernel_rfl) (mv rfl) rfl ?_
   refine Dx.p (i := 17) rfl (by kernel_rfl) (nilc rfl) rfl ?_
   refine Dx.p (i := 18) rfl (by kernel_rfl) (fa' fo113_1 rfl) rfl ?_
   refine Dx.r (i := 19) rfl (by kernel_rfl) (ld U23 rfl rfl rfl) rfl ?_
   refine Dx.p (i := 20) rfl (by kernel_rfl) (ia U23 sz9 rfl rfl (show Int.toNat _ = 0 from rfl) (by omega) (by omega)) rfl ?_
   refine Dx.r (i := 21) rfl (by kernel_rfl) (ldC U9 rfl rfl (Cells.buf (m := 1) hW1 (by rw [List.length_map]; omega))) rfl ?_
   refine Dx.p (i := 22) rfl (by kernel_rfl) (ia U23 sz9 rfl rfl (Int.toNat_natCast _) (by omega) (by omega)) rfl ?_
   refine Dx.one (i := 23) (by kernel_rfl) ?_
   refine Dstep.o0 (i := 23) rfl (stO U9 sz9 rfl rfl rfl (by rw [List.length_append, List.length_map]; omega) (frc_gen _ _)) (fun v B' H' hΦ hB => ?_)
   obtain ⟨rfl, rfl⟩ := hΦ; clear hB v
   refine ⟨JOk.edge (JOk.edge (JOk.edge (JOk.edge (JOk.edge (JOk.edge (JOk.top) (by kernel_rfl)) (by kernel_rfl)) (by kernel_rfl)) (by kernel_rfl)) (by kernel_rfl)) (by kernel_rfl), ?_⟩
   refine Dx.p (i := 24) rfl (by kernel_rfl) (ia U23 sz9 rfl rfl (Int.toNat_natCast _) (by omega) (by omega)) rfl ?_
   refine Dx.one (i := 25) (by kernel_rfl) ?_
   refine Dstep.o0 (i := 25) rfl (stO U9 sz9 rfl rfl rfl (by rw [List.length_append, List.length_map]; omega) (frc_gen _ _)) (fun v B' H' hΦ hB => ?_)
   obtain ⟨rfl, rfl⟩ := hΦ; clear hB v
   refine ⟨JOk.edge (JOk.edge (JOk.edge (JOk.edge (JOk.edge (JOk.edge (JOk.top) (by kernel_rfl)) (by kernel_rfl)) (by kernel_rfl)) (by kernel_rfl)) (by kernel_rfl)) (by kernel_rfl), ?_⟩
   refine Dx.done (by kernel_rfl) ?_
   refine Xx.tn (k3 _ _ _ _ ?_)
   refine Cx.seq (fun K4 k4 => ?_)
   refine Xx.closeT bK ((ks.set i Kx).map str) spK 1 n ck (set_str (by omega)) (by simp; omega) hkc (by rw [List.length_append, List.length_map, List.length_set]; rw [List.length_append, List.length_map] at hkcl; exact hkcl) ?_
   refine Xx.closeT bV ((vs.set i Wx).map str) spV 1 n cv (set_str (by omega)) (by simp; omega) hvc (by rw [List.length_append, List.length_map, List.length_set]; rw [List.length_append, List.length_map] at hvcl; exact hvcl) ?_
   refine Cx.drawn (by kernel_rfl) ?_
   refine Dx.p (i := 0) rfl (by kernel_rfl) (mv rfl) rfl ?_
   refine Dx.p (i := 1) rfl (by kernel_rfl) (mv rfl) rfl ?_
   refine Dx.p (i := 2) rfl (by kernel_rfl) (mv rfl) rfl ?_
   refine Dx.p (i := 3) rfl (by kernel_rfl) (nilc rfl) rfl ?_
   refine Dx.p (i := 4) rfl (by kernel_rfl) (fa' fo113_0 rfl) rfl ?_
   refine Dx.r (i := 5) rfl (by kernel_rfl) (ld U23 rfl rfl rfl) rfl ?_
   refine Dx.p (i := 7) rfl (by kernel_rfl) (mv rfl) rfl ?_
   refine Dx.p (i := 8) rfl (by kernel_rfl) (nilc rfl) rfl ?_
   refine Dx.p (i := 9) rfl (by kernel_rfl) (fa' fo113_1 rfl) rfl ?_
   refine Dx.r (i := 10) rfl (by kernel_rfl) (ld U23 rfl rfl rfl) rfl ?_
   refine Dx.one (i := 6) (by kernel_rfl) ?_
   refine Dstep.o (i := 6) rfl (Ox.call rfl rfl rfl (Del_ct (some ⟨bK2, 0, none⟩) 0 (nk) cm1 (kk.map str) _ (by omega) (by rw [List.length_map]; omega) (strs_all _) (by omega)) (pickS _)) rfl (fun v B' H' hΦ hB => ?_)
   obtain ⟨_, rfl, hΦ⟩ := hΦ
   obtain ⟨rfl, hBB, rfl⟩ := hΦ
   subst hBB
   rename Frag => B
   clear hB
   refine ⟨JOk.yes (JOk.edge (JOk.top) (by kernel_rfl)) (ld U23 rfl rfl rfl), ?_⟩
   refine Dx.one (i := 11) (by kernel_rfl) ?_
   refine Dstep.o (i := 11) rfl (Ox.call rfl rfl rfl (Del_ct (some ⟨bV2, 0, none⟩) 0 (nk) cm2 (kv.map str) _ (by omega) (by rw [List.length_map]; omega) (strs_all _) (by omega)) (pickS _)) rfl (fun v B' H' hΦ hB => ?_)
   obtain ⟨_, rfl, hΦ⟩ := hΦ
   obtain ⟨rfl, hBB, rfl⟩ := hΦ
   subst hBB
   rename Frag => B
   clear hB
   refine ⟨JOk.edge (JOk.yes (JOk.top) (ld U23 rfl rfl rfl)) (by kernel_rfl), ?_⟩
   refine Dx.p (i := 12) rfl (by kernel_rfl) (nilc rfl) rfl ?_
   refine Dx.p (i := 13) rfl (by kernel_rfl) (fa' fo113_0 rfl) rfl ?_
   refine Dx.one (i := 14) (by kernel_rfl) ?_
   refine Dstep.o0 (i := 14) rfl (stO U23 sz23 rfl rfl rfl (by simp) rfl) (fun v B' H' hΦ hB => ?_)
   obtain ⟨rfl, rfl⟩ := hΦ; clear hB v
   refine ⟨JOk.edge (JOk.edge (JOk.top) (by kernel_rfl)) (by kernel_rfl), ?_⟩
   refine Dx.p (i := 15) rfl (by kernel_rfl) (nilc rfl) rfl ?_
   refine Dx.p (i := 16) rfl (by kernel_rfl) (fa' fo113_1 rfl) rfl ?_
   refine Dx.one (i := 17) (by kernel_rfl) ?_
   refine Dstep.o0 (i := 17) rfl (stO U23 sz23 rfl rfl rfl (by simp) rfl) (fun v B' H' hΦ hB => ?_)
   obtain ⟨rfl, rfl⟩ := hΦ; clear hB v
   refine ⟨JOk.edge (JOk.edge (JOk.top) (by kernel_rfl)) (by kernel_rfl), ?_⟩
   refine Dx.done (by kernel_rfl) ?_
   refine Xx.tn (k4 _ _ _ _ ?_)
   refine Cx.seq (fun K5 k5 => ?_)
   refine Cx.region <| Lx.y (mv rfl) rfl <| Lx.y (nilc rfl) rfl <| Lx.y (fa' fo113_2 rfl) rfl <| Lx.y (ld U111 rfl rfl rfl) rfl <| Lx.y (lenV (ty' := 0) U111 rfl) rfl <| Lx.y (gtr rfl rfl) rfl <| Lx.nil <| ?_
   refine Xx.tn (k5 _ _ _ _ ?_)
   refine Cx.condD rfl (fun h6 => ?_) (fun h6 => ?_)
   ·
    have hq1 : qk ≠ 0 := by have := h6; omega
    refine Xx.addrT Cm (by omega) (fun bQ hCm _ hcm3 => ?_)
    subst hCm
    have hg1 : (kp.drop (0 + 0 * 1)).take 1 = [.pointer (some ⟨g, 0, none⟩)] := by rw [← hg hq1]; rfl
    refine Cx.seq (fun K7 k7 => ?_)
    refine Cx.drawn (by kernel_rfl) ?_
    refine Dx.p (i := 0) rfl (by kernel_rfl) (mv rfl) rfl ?_
    refine Dx.p (i := 1) rfl (by kernel_rfl) (mv rfl) rfl ?_
    refine Dx.p (i := 2) rfl (by kernel_rfl) (nilc rfl) rfl ?_
    refine Dx.p (i := 3) rfl (by kernel_rfl) (fa' fo113_2 rfl) rfl ?_
    refine Dx.r (i := 4) rfl (by kernel_rfl) (ld U111 rfl rfl rfl) rfl ?_
    refine Dx.p (i := 5) rfl (by kernel_rfl) (mv rfl) rfl ?_
    refine Dx.p (i := 6) rfl (by kernel_rfl) (nilc rfl) rfl ?_
    refine Dx.p (i := 7) rfl (by kernel_rfl) (fa' fo113_2 rfl) rfl ?_
    refine Dx.r (i := 8) rfl (by kernel_rfl) (ld U111 rfl rfl rfl) rfl ?_
    refine Dx.p (i := 9) rfl (by kernel_rfl) (ia U111 sz110 rfl rfl (show Int.toNat _ = 0 from rfl) (by omega) (by omega)) rfl ?_
    refine Dx.r (i := 10) rfl (by kernel_rfl) (ldC U110 rfl rfl (Cells.buf (m := 1) hg1 (by omega))) rfl ?_
    refine Dx.one (i := 11) (by kernel_rfl) ?_
    refine Dstep.o (i := 11) rfl (bsl1 U111 ti110 rfl rfl rfl (by decide)) rfl (fun v B' H' hΦ hB => ?_)
    obtain ⟨b3, rfl, rfl, rfl⟩ := hΦ; clear hB
    refine ⟨JOk.edge (JOk.yes (JOk.yes (JOk.top) (ld U111 rfl rfl rfl)) (ld U111 rfl rfl rfl)) (by kernel_rfl), ?_⟩
    refine Dx.one (i := 12) (by kernel_rfl) ?_
    refine Dstep.o (i := 12) rfl (appN (et := 110) (ql + 1) [.pointer (some ⟨g, 0, none⟩)] (lp ++ [.pointer (some ⟨g, 0, none⟩)]) U111 U111 ti110 rfl rfl rfl rfl rfl (by omega) (by omega) rfl rfl) rfl (fun v B' H' hΦ hB => ?_)
    obtain ⟨Cl9, el9, rfl, _, _, hel9, hBB, rfl⟩ := hΦ
    subst hBB
    rename Frag => B
    clear hB
    refine ⟨JOk.yes (JOk.yes (JOk.edge (JOk.top) (by kernel_rfl)) (ld U111 rfl rfl rfl)) (ldC U110 rfl rfl (Cells.buf (m := 1) hg1 (by omega))), ?_⟩
    refine Dx.p (i := 13) rfl (by kernel_rfl) (nilc rfl) rfl ?_
    refine Dx.p (i := 14) rfl (by kernel_rfl) (fa' fo113_2 rfl) rfl ?_
    refine Dx.one (i := 15) (by kernel_rfl) ?_
    refine Dstep.o0 (i := 15) rfl (stO U111 sz111 rfl rfl rfl (by simp) rfl) (fun v B' H' hΦ hB => ?_)
    obtain ⟨rfl, rfl⟩ := hΦ; clear hB v
    refine ⟨JOk.edge (JOk.edge (JOk.edge (JOk.top) (by kernel_rfl)) (by kernel_rfl)) (by kernel_rfl), ?_⟩
    refine Dx.done (by kernel_rfl) ?_
    refine Xx.tn (k7 _ _ _ _ ?_)
    refine Xx.dropB b3 ?_
    refine Cx.region <| Lx.y (mv rfl) rfl <| Lx.y (mv rfl) rfl <| Lx.y (nilc rfl) rfl <| Lx.y (fa' fo113_2 rfl) rfl <| Lx.y (ld U111 rfl rfl rfl) rfl <| ?_
    refine Lx.c rfl rfl rfl (DelN_ct (some ⟨bQ, 0, none⟩) 0 (qk) cm3 (kp) _ (by omega) (by omega) hka (by omega)) (pickS _) rfl ?_
    rintro v B1 H1 ⟨rfl, hBB, rfl⟩ hB1
    subst hBB
    rename Frag => B
    clear hB1
    refine Lx.y (nilc rfl) rfl <| Lx.y (fa' fo113_2 rfl) rfl <| ?_
    refine Lx.st (stO U111 sz111 rfl rfl rfl (by simp) rfl) ?_
    refine Lx.nil ?_
    exact Xx.end0 rfl ⟨rfl, rfl, Al9, cl9, Bl9, dl9, Cl9, el9, rfl⟩ (Frag.le_refl _) (by rw [show min qk 1 = 1 by omega, hg (by omega)]; simp only [List.take_zero, List.nil_append, Nat.zero_add]; ac_rfl)
   ·
    have hq0 : qk = 0 := by have := h6; omega
    subst hq0
    obtain rfl := List.length_eq_zero_iff.1 hkp
    refine Cx.skip ?_
    exact Xx.end0 rfl ⟨rfl, rfl, Al9, cl9, Bl9, dl9, Cl, cl3, rfl⟩ (Frag.le_refl _) (by rw [show min 0 1 = 0 by omega, show 0 - 1 = 0 by omega]; simp only [List.take_zero, List.nil_append, Nat.zero_add, List.take_nil, List.drop_nil, List.append_nil, Nat.add_zero]; ac_rfl)
  refine Dstep.o (i := 26) rfl (bsl1 U23 ti9 rfl rfl rfl (by decide)) rfl (fun v B' H' hΦ hB => ?_)
  obtain ⟨b2, rfl, rfl, rfl⟩ := hΦ; clear hB
  refine ⟨JOk.edge (JOk.yes (JOk.yes (JOk.yes (JOk.yes (JOk.yes (JOk.top) (ld U23 rfl rfl rfl)) (ld U23 rfl rfl rfl)) (ldC U9 rfl rfl (Cells.buf (m := 1) hK (by rw [List.length_map]; omega)))) (ld U23 rfl rfl rfl)) (ld U23 rfl rfl rfl)) (by kernel_rfl), ?_⟩
  refine Dx.one (i := 14) (by kernel_rfl) ?_
  refine Dstep.o (i := 14) rfl (appN (et := 9) (nl + 1) [str K] (lk.map str ++ [str K]) U23 U23 ti9 rfl rfl rfl rfl rfl (by omega) (by omega) rfl rfl) rfl (fun v B' H' hΦ hB => ?_)
  obtain ⟨Al9, cl9, rfl, _, _, hcl9, hBB, rfl⟩ := hΦ
  subst hBB
  rename Frag => B
  clear hB
  refine ⟨JOk.yes (JOk.yes (JOk.yes (JOk.yes (JOk.yes (JOk.edge (JOk.top) (by kernel_rfl)) (ld U23 rfl rfl rfl)) (ldC U9 rfl rfl (Cells.buf (m := 1) hK (by rw [List.length_map]; omega)))) (ld U23 rfl rfl rfl)) (ld U23 rfl rfl rfl)) (ldC U9 rfl rfl (Cells.buf (m := 1) hW (by rw [List.length_map]; omega))), ?_⟩
  refine Dx.one (i := 27) (by kernel_rfl) ?_
  refine Dstep.o (i := 27) rfl (appN (et := 9) (nl + 1) [str W] (lv.map str ++ [str W]) U23 U23 ti9 rfl rfl rfl rfl rfl (by omega) (by omega) rfl rfl) rfl (fun v B' H' hΦ hB => ?_)
  obtain ⟨Bl9, dl9, rfl, _, _, hdl9, hBB, rfl⟩ := hΦ
  subst hBB
  rename Frag => B
  clear hB
  refine ⟨JOk.yes (JOk.yes (JOk.edge (JOk.yes (JOk.yes (JOk.yes (JOk.top) (ld U23 rfl rfl rfl)) (ld U23 rfl rfl rfl)) (ldC U9 rfl rfl (Cells.buf (m := 1) hK (by rw [List.length_map]; omega)))) (by kernel_rfl)) (ld U23 rfl rfl rfl)) (ldC U9 rfl rfl (Cells.buf (m := 1) hW (by rw [List.length_map]; omega))), ?_⟩
  refine Dx.p (i := 28) rfl (by kernel_rfl) (nilc rfl) rfl ?_
  refine Dx.p (i := 29) rfl (by kernel_rfl) (fa' fo113_0 rfl) rfl ?_
  refine Dx.one (i := 30) (by kernel_rfl) ?_
  refine Dstep.o0 (i := 30) rfl (stO U23 sz23 rfl rfl rfl (by simp) rfl) (fun v B' H' hΦ hB => ?_)
  obtain ⟨rfl, rfl⟩ := hΦ; clear hB v
  refine ⟨JOk.edge (JOk.edge (JOk.edge (JOk.edge (JOk.edge (JOk.edge (JOk.top) (by kernel_rfl)) (by kernel_rfl)) (by kernel_rfl)) (by kernel_rfl)) (by kernel_rfl)) (by kernel_rfl), ?_⟩
  refine Dx.p (i := 31) rfl (by kernel_rfl) (nilc rfl) rfl ?_
  refine Dx.p (i := 32) rfl (by kernel_rfl) (fa' fo113_1 rfl) rfl ?_
  refine Dx.one (i := 33) (by kernel_rfl) ?_
  refine Dstep.o0 (i := 33) rfl (stO U23 sz23 rfl rfl rfl (by simp) rfl) (fun v B' H' hΦ hB => ?_)
  obtain ⟨rfl, rfl⟩ := hΦ; clear hB v
  refine ⟨JOk.edge (JOk.edge (JOk.edge (JOk.edge (JOk.edge (JOk.edge (JOk.top) (by kernel_rfl)) (by kernel_rfl)) (by kernel_rfl)) (by kernel_rfl)) (by kernel_rfl)) (by kernel_rfl), ?_⟩
  refine Dx.done (by kernel_rfl) ?_
  refine Xx.tn (k2 _ _ _ _ ?_)
  refine Cx.seq (fun K8 k8 => ?_)
  refine Xx.dropB b1 (Xx.dropB b2 ?_)
  refine Xx.openT (some ⟨bK, 0, none⟩) (by omega) (fun bKx spK hAk hkx hkc hkcl => ?_)
  cases hAk
  refine Xx.openT (some ⟨bV, 0, none⟩) (by omega) (fun bVx spV hAv hvx hvc hvcl => ?_)
  cases hAv
  refine Cx.drawn (by kernel_rfl) ?_
  refine Dx.p (i := 0) rfl (by kernel_rfl) (mv rfl) rfl ?_
  refine Dx.p (i := 1) rfl (by kernel_rfl) (nilc rfl) rfl ?_
  refine Dx.p (i := 2) rfl (by kernel_rfl) (fa' fo113_0 rfl) rfl ?_
  refine Dx.r (i := 3) rfl (by kernel_rfl) (ld U23 rfl rfl rfl) rfl ?_
  refine Dx.p (i := 4) rfl (by kernel_rfl) (mv rfl) rfl ?_
  refine Dx.p (i := 5) rfl (by kernel_rfl) (mv rfl) rfl ?_
  refine Dx.p (i := 6) rfl (by kernel_rfl) (nilc rfl) rfl ?_
  refine Dx.p (i := 7) rfl (by kernel_rfl) (fa' fo113_1 rfl) rfl ?_
  refine Dx.r (i := 8) rfl (by kernel_rfl) (ld U23 rfl rfl rfl) rfl ?_
  refine Dx.p (i := 9) rfl (by kernel_rfl) (mv rfl) rfl ?_
  refine Dx.p (i := 10) rfl (by kernel_rfl) (mv rfl) rfl ?_
  refine Dx.p (i := 11) rfl (by kernel_rfl) (nilc rfl) rfl ?_
  refine Dx.p (i := 12) rfl (by kernel_rfl) (fa' fo113_0 rfl) rfl ?_
  refine Dx.r (i := 13) rfl (by kernel_rfl) (ld U23 rfl rfl rfl) rfl ?_
  refine Dx.p (i := 14) rfl (by kernel_rfl) (ia U23 sz9 rfl rfl (show Int.toNat _ = 0 from rfl) (by omega) (by omega)) rfl ?_
  refine Dx.r (i := 15) rfl (by kernel_rfl) (ldC U9 rfl rfl (Cells.buf (m := 1) hK1 (by rw [List.length_map]; omega))) rfl ?_
  refine Dx.p (i := 16) rfl (by kernel_rfl) (mv rfl) rfl ?_
  refine Dx.p (i := 17) rfl (by kernel_rfl) (nilc rfl) rfl ?_
  refine Dx.p (i := 18) rfl (by kernel_rfl) (fa' fo113_1 rfl) rfl ?_
  refine Dx.r (i := 19) rfl (by kernel_rfl) (ld U23 rfl rfl rfl) rfl ?_
  refine Dx.p (i := 20) rfl (by kernel_rfl) (ia U23 sz9 rfl rfl (show Int.toNat _ = 0 from rfl) (by omega) (by omega)) rfl ?_
  refine Dx.r (i := 21) rfl (by kernel_rfl) (ldC U9 rfl rfl (Cells.buf (m := 1) hW1 (by rw [List.length_map]; omega))) rfl ?_
  refine Dx.p (i := 22) rfl (by kernel_rfl) (ia U23 sz9 rfl rfl (Int.toNat_natCast _) (by omega) (by omega)) rfl ?_
  refine Dx.one (i := 23) (by kernel_rfl) ?_
  refine Dstep.o0 (i := 23) rfl (stO U9 sz9 rfl rfl rfl (by rw [List.length_append, List.length_map]; omega) (frc_gen _ _)) (fun v B' H' hΦ hB => ?_)
  obtain ⟨rfl, rfl⟩ := hΦ; clear hB v
  refine ⟨JOk.edge (JOk.edge (JOk.edge (JOk.edge (JOk.edge (JOk.edge (JOk.top) (by kernel_rfl)) (by kernel_rfl)) (by kernel_rfl)) (by kernel_rfl)) (by kernel_rfl)) (by kernel_rfl), ?_⟩
  refine Dx.p (i := 24) rfl (by kernel_rfl) (ia U23 sz9 rfl rfl (Int.toNat_natCast _) (by omega) (by omega)) rfl ?_
  refine Dx.one (i := 25) (by kernel_rfl) ?_
  refine Dstep.o0 (i := 25) rfl (stO U9 sz9 rfl rfl rfl (by rw [List.length_append, List.length_map]; omega) (frc_gen _ _)) (fun v B' H' hΦ hB => ?_)
  obtain ⟨rfl, rfl⟩ := hΦ; clear hB v
  refine ⟨JOk.edge (JOk.edge (JOk.edge (JOk.edge (JOk.edge (JOk.edge (JOk.top) (by kernel_rfl)) (by kernel_rfl)) (by kernel_rfl)) (by kernel_rfl)) (by kernel_rfl)) (by kernel_rfl), ?_⟩
  refine Dx.done (by kernel_rfl) ?_
  refine Xx.tn (k8 _ _ _ _ ?_)
  refine Cx.seq (fun K9 k9 => ?_)
  refine Xx.closeT bK ((ks.set i Kx).map str) spK 1 n ck (set_str (by omega)) (by simp; omega) hkc (by rw [List.length_append, List.length_map, List.length_set]; rw [List.length_append, List.length_map] at hkcl; exact hkcl) ?_
  refine Xx.closeT bV ((vs.set i Wx).map str) spV 1 n cv (set_str (by omega)) (by simp; omega) hvc (by rw [List.length_append, List.length_map, List.length_set]; rw [List.length_append, List.length_map] at hvcl; exact hvcl) ?_
  refine Cx.drawn (by kernel_rfl) ?_
  refine Dx.p (i := 0) rfl (by kernel_rfl) (mv rfl) rfl ?_
  refine Dx.p (i := 1) rfl (by kernel_rfl) (mv rfl) rfl ?_
  refine Dx.p (i := 2) rfl (by kernel_rfl) (mv rfl) rfl ?_
  refine Dx.p (i := 3) rfl (by kernel_rfl) (nilc rfl) rfl ?_
  refine Dx.p (i := 4) rfl (by kernel_rfl) (fa' fo113_0 rfl) rfl ?_
  refine Dx.r (i := 5) rfl (by kernel_rfl) (ld U23 rfl rfl rfl) rfl ?_
  refine Dx.p (i := 7) rfl (by kernel_rfl) (mv rfl) rfl ?_
  refine Dx.p (i := 8) rfl (by kernel_rfl) (nilc rfl) rfl ?_
  refine Dx.p (i := 9) rfl (by kernel_rfl) (fa' fo113_1 rfl) rfl ?_
  refine Dx.r (i := 10) rfl (by kernel_rfl) (ld U23 rfl rfl rfl) rfl ?_
  refine Dx.one (i := 6) (by kernel_rfl) ?_
  refine Dstep.o (i := 6) rfl (Ox.call rfl rfl rfl (Del_ct (some ⟨bK2, 0, none⟩) 0 (nk) cm1 (kk.map str) _ (by omega) (by rw [List.length_map]; omega) (strs_all _) (by omega)) (pickS _)) rfl (fun v B' H' hΦ hB => ?_)
  obtain ⟨_, rfl, hΦ⟩ := hΦ
  obtain ⟨rfl, hBB, rfl⟩ := hΦ
  subst hBB
  rename Frag => B
  clear hB
  refine ⟨JOk.yes (JOk.edge (JOk.top) (by kernel_rfl)) (ld U23 rfl rfl rfl), ?_⟩
  refine Dx.one (i := 11) (by kernel_rfl) ?_
  refine Dstep.o (i := 11) rfl (Ox.call rfl rfl rfl (Del_ct (some ⟨bV2, 0, none⟩) 0 (nk) cm2 (kv.map str) _ (by omega) (by rw [List.length_map]; omega) (strs_all _) (by omega)) (pickS _)) rfl (fun v B' H' hΦ hB => ?_)
  obtain ⟨_, rfl, hΦ⟩ := hΦ
  obtain ⟨rfl, hBB, rfl⟩ := hΦ
  subst hBB
  rename Frag => B
  clear hB
  refine ⟨JOk.edge (JOk.yes (JOk.top) (ld U23 rfl rfl rfl)) (by kernel_rfl), ?_⟩
  refine Dx.p (i := 12) rfl (by kernel_rfl) (nilc rfl) rfl ?_
  refine Dx.p (i := 13) rfl (by kernel_rfl) (fa' fo113_0 rfl) rfl ?_
  refine Dx.one (i := 14) (by kernel_rfl) ?_
  refine Dstep.o0 (i := 14) rfl (stO U23 sz23 rfl rfl rfl (by simp) rfl) (fun v B' H' hΦ hB => ?_)
  obtain ⟨rfl, rfl⟩ := hΦ; clear hB v
  refine ⟨JOk.edge (JOk.edge (JOk.top) (by kernel_rfl)) (by kernel_rfl), ?_⟩
  refine Dx.p (i := 15) rfl (by kernel_rfl) (nilc rfl) rfl ?_
  refine Dx.p (i := 16) rfl (by kernel_rfl) (fa' fo113_1 rfl) rfl ?_
  refine Dx.one (i := 17) (by kernel_rfl) ?_
  refine Dstep.o0 (i := 17) rfl (stO U23 sz23 rfl rfl rfl (by simp) rfl) (fun v B' H' hΦ hB => ?_)
  obtain ⟨rfl, rfl⟩ := hΦ; clear hB v
  refine ⟨JOk.edge (JOk.edge (JOk.top) (by kernel_rfl)) (by kernel_rfl), ?_⟩
  refine Dx.done (by kernel_rfl) ?_
  refine Xx.tn (k9 _ _ _ _ ?_)
  refine Cx.seq (fun K10 k10 => ?_)
  refine Cx.region <| Lx.y (mv rfl) rfl <| Lx.y (nilc rfl) rfl <| Lx.y (fa' fo113_2 rfl) rfl <| Lx.y (ld U111 rfl rfl rfl) rfl <| Lx.y (lenV (ty' := 0) U111 rfl) rfl <| Lx.y (gtr rfl rfl) rfl <| Lx.nil <| ?_
  refine Xx.tn (k10 _ _ _ _ ?_)
  refine Cx.condD rfl (fun h11 => ?_) (fun h11 => ?_)
  ·
   have hq1 : qk ≠ 0 := by have := h11; omega
   refine Xx.addrT Cm (by omega) (fun bQ hCm _ hcm3 => ?_)
   subst hCm
   have hg1 : (kp.drop (0 + 0 * 1)).take 1 = [.pointer (some ⟨g, 0, none⟩)] := by rw [← hg hq1]; rfl
   refine Cx.seq (fun K12 k12 => ?_)
   refine Cx.drawn (by kernel_rfl) ?_
   refine Dx.p (i := 0) rfl (by kernel_rfl) (mv rfl) rfl ?_
   refine Dx.p (i := 1) rfl (by kernel_rfl) (mv rfl) rfl ?_
   refine Dx.p (i := 2) rfl (by kernel_rfl) (nilc rfl) rfl ?_
   refine Dx.p (i := 3) rfl (by kernel_rfl) (fa' fo113_2 rfl) rfl ?_
   refine Dx.r (i := 4) rfl (by kernel_rfl) (ld U111 rfl rfl rfl) rfl ?_
   refine Dx.p (i := 5) rfl (by kernel_rfl) (mv rfl) rfl ?_
   refine Dx.p (i := 6) rfl (by kernel_rfl) (nilc rfl) rfl ?_
   refine Dx.p (i := 7) rfl (by kernel_rfl) (fa' fo113_2 rfl) rfl ?_
   refine Dx.r (i := 8) rfl (by kernel_rfl) (ld U111 rfl rfl rfl) rfl ?_
   refine Dx.p (i := 9) rfl (by kernel_rfl) (ia U111 sz110 rfl rfl (show Int.toNat _ = 0 from rfl) (by omega) (by omega)) rfl ?_
   refine Dx.r (i := 10) rfl (by kernel_rfl) (ldC U110 rfl rfl (Cells.buf (m := 1) hg1 (by omega))) rfl ?_
   refine Dx.one (i := 11) (by kernel_rfl) ?_
   refine Dstep.o (i := 11) rfl (bsl1 U111 ti110 rfl rfl rfl (by decide)) rfl (fun v B' H' hΦ hB => ?_)
   obtain ⟨b3, rfl, rfl, rfl⟩ := hΦ; clear hB
   refine ⟨JOk.edge (JOk.yes (JOk.yes (JOk.top) (ld U111 rfl rfl rfl)) (ld U111 rfl rfl rfl)) (by kernel_rfl), ?_⟩
   refine Dx.one (i := 12) (by kernel_rfl) ?_
   refine Dstep.o (i := 12) rfl (appN (et := 110) (ql + 1) [.pointer (some ⟨g, 0, none⟩)] (lp ++ [.pointer (some ⟨g, 0, none⟩)]) U111 U111 ti110 rfl rfl rfl rfl rfl (by omega) (by omega) rfl rfl) rfl (fun v B' H' hΦ hB => ?_)
   obtain ⟨Cl9, el9, rfl, _, _, hel9, hBB, rfl⟩ := hΦ
   subst hBB
   rename Frag => B
   clear hB
   refine ⟨JOk.yes (JOk.yes (JOk.edge (JOk.top) (by kernel_rfl)) (ld U111 rfl rfl rfl)) (ldC U110 rfl rfl (Cells.buf (m := 1) hg1 (by omega))), ?_⟩
   refine Dx.p (i := 13) rfl (by kernel_rfl) (nilc rfl) rfl ?_
   refine Dx.p (i := 14) rfl (by kernel_rfl) (fa' fo113_2 rfl) rfl ?_
   refine Dx.one (i := 15) (by kernel_rfl) ?_
   refine Dstep.o0 (i := 15) rfl (stO U111 sz111 rfl rfl rfl (by simp) rfl) (fun v B' H' hΦ hB => ?_)
   obtain ⟨rfl, rfl⟩ := hΦ; clear hB v
   refine ⟨JOk.edge (JOk.edge (JOk.edge (JOk.top) (by kernel_rfl)) (by kernel_rfl)) (by kernel_rfl), ?_⟩
   refine Dx.done (by kernel_rfl) ?_
   refine Xx.tn (k12 _ _ _ _ ?_)
   refine Xx.dropB b3 ?_
   refine Cx.region <| Lx.y (mv rfl) rfl <| Lx.y (mv rfl) rfl <| Lx.y (nilc rfl) rfl <| Lx.y (fa' fo113_2 rfl) rfl <| Lx.y (ld U111 rfl rfl rfl) rfl <| ?_
   refine Lx.c rfl rfl rfl (DelN_ct (some ⟨bQ, 0, none⟩) 0 (qk) cm3 (kp) _ (by omega) (by omega) hka (by omega)) (pickS _) rfl ?_
   rintro v B1 H1 ⟨rfl, hBB, rfl⟩ hB1
   subst hBB
   rename Frag => B
   clear hB1
   refine Lx.y (nilc rfl) rfl <| Lx.y (fa' fo113_2 rfl) rfl <| ?_
   refine Lx.st (stO U111 sz111 rfl rfl rfl (by simp) rfl) ?_
   refine Lx.nil ?_
   exact Xx.end0 rfl ⟨rfl, rfl, Al9, cl9, Bl9, dl9, Cl9, el9, rfl⟩ (Frag.le_refl _) (by rw [show min qk 1 = 1 by omega, hg (by omega)]; simp only [List.take_zero, List.nil_append, Nat.zero_add]; ac_rfl)
  ·
   have hq0 : qk = 0 := by have := h11; omega
   subst hq0
   obtain rfl := List.length_eq_zero_iff.1 hkp
   refine Cx.skip ?_
   exact Xx.end0 rfl ⟨rfl, rfl, Al9, cl9, Bl9, dl9, Cl, cl3, rfl⟩ (Frag.le_refl _) (by rw [show min 0 1 = 0 by omega, show 0 - 1 = 0 by omega]; simp only [List.take_zero, List.nil_append, Nat.zero_add, List.take_nil, List.drop_nil, List.append_nil, Nat.add_zero]; ac_rfl)
 refine Dstep.o (i := 26) rfl (bsl1 U23 ti9 rfl rfl rfl (by decide)) rfl (fun v B' H' hΦ hB => ?_)
 obtain ⟨b2, rfl, rfl, rfl⟩ := hΦ; clear hB
 refine ⟨JOk.edge (JOk.yes (JOk.yes (JOk.yes (JOk.yes (JOk.yes (JOk.top) (ld U23 rfl rfl rfl)) (ld U23 rfl rfl rfl)) (ldC U9 rfl rfl (Cells.buf (m := 1) hK (by rw [List.length_map]; omega)))) (ld U23 rfl rfl rfl)) (ld U23 rfl rfl rfl)) (by kernel_rfl), ?_⟩
 refine Dx.one (i := 13) (by kernel_rfl) ?_
 refine Dstep.o (i := 13) rfl (bsl1 U23 ti9 rfl rfl rfl (by decide)) rfl (fun v B' H' hΦ hB => ?_)
 obtain ⟨b1, rfl, rfl, rfl⟩ := hΦ; clear hB
 refine ⟨JOk.yes (JOk.yes (JOk.yes (JOk.edge (JOk.yes (JOk.yes (JOk.top) (ld U23 rfl rfl rfl)) (ld U23 rfl rfl rfl)) (by kernel_rfl)) (ld U23 rfl rfl rfl)) (ld U23 rfl rfl rfl)) (ldC U9 rfl rfl (Cells.buf (m := 1) hW (by rw [List.length_map]; omega))), ?_⟩
 refine Dx.one (i := 14) (by kernel_rfl) ?_
 refine Dstep.o (i := 14) rfl (appN (et := 9) (nl + 1) [str K] (lk.map str ++ [str K]) U23 U23 ti9 rfl rfl rfl rfl rfl (by omega) (by omega) rfl rfl) rfl (fun v B' H' hΦ hB => ?_)
 obtain ⟨Al9, cl9, rfl, _, _, hcl9, hBB, rfl⟩ := hΦ
 subst hBB
 rename Frag => B
 clear hB
 refine ⟨JOk.yes (JOk.yes (JOk.yes (JOk.yes (JOk.yes (JOk.edge (JOk.top) (by kernel_rfl)) (ld U23 rfl rfl rfl)) (ldC U9 rfl rfl (Cells.buf (m := 1) hK (by rw [List.length_map]; omega)))) (ld U23 rfl rfl rfl)) (ld U23 rfl rfl rfl)) (ldC U9 rfl rfl (Cells.buf (m := 1) hW (by rw [List.length_map]; omega))), ?_⟩
 refine Dx.one (i := 27) (by kernel_rfl) ?_
 refine Dstep.o (i := 27) rfl (appN (et := 9) (nl + 1) [str W] (lv.map str ++ [str W]) U23 U23 ti9 rfl rfl rfl rfl rfl (by omega) (by omega) rfl rfl) rfl (fun v B' H' hΦ hB => ?_)
 obtain ⟨Bl9, dl9, rfl, _, _, hdl9, hBB, rfl⟩ := hΦ
 subst hBB
 rename Frag => B
 clear hB
 refine ⟨JOk.yes (JOk.yes (JOk.edge (JOk.yes (JOk.yes (JOk.yes (JOk.top) (ld U23 rfl rfl rfl)) (ld U23 rfl rfl rfl)) (ldC U9 rfl rfl (Cells.buf (m := 1) hK (by rw [List.length_map]; omega)))) (by kernel_rfl)) (ld U23 rfl rfl rfl)) (ldC U9 rfl rfl (Cells.buf (m := 1) hW (by rw [List.length_map]; omega))), ?_⟩
 refine Dx.p (i := 28) rfl (by kernel_rfl) (nilc rfl) rfl ?_
 refine Dx.p (i := 29) rfl (by kernel_rfl) (fa' fo113_0 rfl) rfl ?_
 refine Dx.one (i := 30) (by kernel_rfl) ?_
 refine Dstep.o0 (i := 30) rfl (stO U23 sz23 rfl rfl rfl (by simp) rfl) (fun v B' H' hΦ hB => ?_)
 obtain ⟨rfl, rfl⟩ := hΦ; clear hB v
 refine ⟨JOk.edge (JOk.edge (JOk.edge (JOk.edge (JOk.edge (JOk.edge (JOk.top) (by kernel_rfl)) (by kernel_rfl)) (by kernel_rfl)) (by kernel_rfl)) (by kernel_rfl)) (by kernel_rfl), ?_⟩
 refine Dx.p (i := 31) rfl (by kernel_rfl) (nilc rfl) rfl ?_
 refine Dx.p (i := 32) rfl (by kernel_rfl) (fa' fo113_1 rfl) rfl ?_
 refine Dx.one (i := 33) (by kernel_rfl) ?_
 refine Dstep.o0 (i := 33) rfl (stO U23 sz23 rfl rfl rfl (by simp) rfl) (fun v B' H' hΦ hB => ?_)
 obtain ⟨rfl, rfl⟩ := hΦ; clear hB v
 refine ⟨JOk.edge (JOk.edge (JOk.edge (JOk.edge (JOk.edge (JOk.edge (JOk.top) (by kernel_rfl)) (by kernel_rfl)) (by kernel_rfl)) (by kernel_rfl)) (by kernel_rfl)) (by kernel_rfl), ?_⟩
 refine Dx.done (by kernel_rfl) ?_
 refine Xx.tn (k2 _ _ _ _ ?_)
 refine Cx.seq (fun K13 k13 => ?_)
 refine Xx.dropB b1 (Xx.dropB b2 ?_)
 refine Xx.openT (some ⟨bK, 0, none⟩) (by omega) (fun bKx spK hAk hkx hkc hkcl => ?_)
 cases hAk
 refine Xx.openT (some ⟨bV, 0, none⟩) (by omega) (fun bVx spV hAv hvx hvc hvcl => ?_)
 cases hAv
 refine Cx.drawn (by kernel_rfl) ?_
 refine Dx.p (i := 0) rfl (by kernel_rfl) (mv rfl) rfl ?_
 refine Dx.p (i := 1) rfl (by kernel_rfl) (nilc rfl) rfl ?_
 refine Dx.p (i := 2) rfl (by kernel_rfl) (fa' fo113_0 rfl) rfl ?_
 refine Dx.r (i := 3) rfl (by kernel_rfl) (ld U23 rfl rfl rfl) rfl ?_
 refine Dx.p (i := 4) rfl (by kernel_rfl) (mv rfl) rfl ?_
 refine Dx.p (i := 5) rfl (by kernel_rfl) (mv rfl) rfl ?_
 refine Dx.p (i := 6) rfl (by kernel_rfl) (nilc rfl) rfl ?_
 refine Dx.p (i := 7) rfl (by kernel_rfl) (fa' fo113_1 rfl) rfl ?_
 refine Dx.r (i := 8) rfl (by kernel_rfl) (ld U23 rfl rfl rfl) rfl ?_
 refine Dx.p (i := 9) rfl (by kernel_rfl) (mv rfl) rfl ?_
 refine Dx.p (i := 10) rfl (by kernel_rfl) (mv rfl) rfl ?_
 refine Dx.p (i := 11) rfl (by kernel_rfl) (nilc rfl) rfl ?_
 refine Dx.p (i := 12) rfl (by kernel_rfl) (fa' fo113_0 rfl) rfl ?_
 refine Dx.r (i := 13) rfl (by kernel_rfl) (ld U23 rfl rfl rfl) rfl ?_
 refine Dx.p (i := 14) rfl (by kernel_rfl) (ia U23 sz9 rfl rfl (show Int.toNat _ = 0 from rfl) (by omega) (by omega)) rfl ?_
 refine Dx.r (i := 15) rfl (by kernel_rfl) (ldC U9 rfl rfl (Cells.buf (m := 1) hK1 (by rw [List.length_map]; omega))) rfl ?_
 refine Dx.p (i := 16) rfl (by kernel_rfl) (mv rfl) rfl ?_
 refine Dx.p (i := 17) rfl (by kernel_rfl) (nilc rfl) rfl ?_
 refine Dx.p (i := 18) rfl (by kernel_rfl) (fa' fo113_1 rfl) rfl ?_
 refine Dx.r (i := 19) rfl (by kernel_rfl) (ld U23 rfl rfl rfl) rfl ?_
 refine Dx.p (i := 20) rfl (by kernel_rfl) (ia U23 sz9 rfl rfl (show Int.toNat _ = 0 from rfl) (by omega) (by omega)) rfl ?_
 refine Dx.r (i := 21) rfl (by kernel_rfl) (ldC U9 rfl rfl (Cells.buf (m := 1) hW1 (by rw [List.length_map]; omega))) rfl ?_
 refine Dx.p (i := 22) rfl (by kernel_rfl) (ia U23 sz9 rfl rfl (Int.toNat_natCast _) (by omega) (by omega)) rfl ?_
 refine Dx.one (i := 23) (by kernel_rfl) ?_
 refine Dstep.o0 (i := 23) rfl (stO U9 sz9 rfl rfl rfl (by rw [List.length_append, List.length_map]; omega) (frc_gen _ _)) (fun v B' H' hΦ hB => ?_)
 obtain ⟨rfl, rfl⟩ := hΦ; clear hB v
 refine ⟨JOk.edge (JOk.edge (JOk.edge (JOk.edge (JOk.edge (JOk.edge (JOk.top) (by kernel_rfl)) (by kernel_rfl)) (by kernel_rfl)) (by kernel_rfl)) (by kernel_rfl)) (by kernel_rfl), ?_⟩
 refine Dx.p (i := 24) rfl (by kernel_rfl) (ia U23 sz9 rfl rfl (Int.toNat_natCast _) (by omega) (by omega)) rfl ?_
 refine Dx.one (i := 25) (by kernel_rfl) ?_
 refine Dstep.o0 (i := 25) rfl (stO U9 sz9 rfl rfl rfl (by rw [List.length_append, List.length_map]; omega) (frc_gen _ _)) (fun v B' H' hΦ hB => ?_)
 obtain ⟨rfl, rfl⟩ := hΦ; clear hB v
 refine ⟨JOk.edge (JOk.edge (JOk.edge (JOk.edge (JOk.edge (JOk.edge (JOk.top) (by kernel_rfl)) (by kernel_rfl)) (by kernel_rfl)) (by kernel_rfl)) (by kernel_rfl)) (by kernel_rfl), ?_⟩
 refine Dx.done (by kernel_rfl) ?_
 refine Xx.tn (k13 _ _ _ _ ?_)
 refine Cx.seq (fun K14 k14 => ?_)
 refine Xx.closeT bK ((ks.set i Kx).map str) spK 1 n ck (set_str (by omega)) (by simp; omega) hkc (by rw [List.length_append, List.length_map, List.length_set]; rw [List.length_append, List.length_map] at hkcl; exact hkcl) ?_
 refine Xx.closeT bV ((vs.set i Wx).map str) spV 1 n cv (set_str (by omega)) (by simp; omega) hvc (by rw [List.length_append, List.length_map, List.length_set]; rw [List.length_append, List.length_map] at hvcl; exact hvcl) ?_
 refine Cx.drawn (by kernel_rfl) ?_
 refine Dx.p (i := 0) rfl (by kernel_rfl) (mv rfl) rfl ?_
 refine Dx.p (i := 1) rfl (by kernel_rfl) (mv rfl) rfl ?_
 refine Dx.p (i := 2) rfl (by kernel_rfl) (mv rfl) rfl ?_
 refine Dx.p (i := 3) rfl (by kernel_rfl) (nilc rfl) rfl ?_
 refine Dx.p (i := 4) rfl (by kernel_rfl) (fa' fo113_0 rfl) rfl ?_
 refine Dx.r (i := 5) rfl (by kernel_rfl) (ld U23 rfl rfl rfl) rfl ?_
 refine Dx.p (i := 7) rfl (by kernel_rfl) (mv rfl) rfl ?_
 refine Dx.p (i := 8) rfl (by kernel_rfl) (nilc rfl) rfl ?_
 refine Dx.p (i := 9) rfl (by kernel_rfl) (fa' fo113_1 rfl) rfl ?_
 refine Dx.r (i := 10) rfl (by kernel_rfl) (ld U23 rfl rfl rfl) rfl ?_
 refine Dx.one (i := 6) (by kernel_rfl) ?_
 refine Dstep.o (i := 6) rfl (Ox.call rfl rfl rfl (Del_ct (some ⟨bK2, 0, none⟩) 0 (nk) cm1 (kk.map str) _ (by omega) (by rw [List.length_map]; omega) (strs_all _) (by omega)) (pickS _)) rfl (fun v B' H' hΦ hB => ?_)
 obtain ⟨_, rfl, hΦ⟩ := hΦ
 obtain ⟨rfl, hBB, rfl⟩ := hΦ
 subst hBB
 rename Frag => B
 clear hB
 refine ⟨JOk.yes (JOk.edge (JOk.top) (by kernel_rfl)) (ld U23 rfl rfl rfl), ?_⟩
 refine Dx.one (i := 11) (by kernel_rfl) ?_
 refine Dstep.o (i := 11) rfl (Ox.call rfl rfl rfl (Del_ct (some ⟨bV2, 0, none⟩) 0 (nk) cm2 (kv.map str) _ (by omega) (by rw [List.length_map]; omega) (strs_all _) (by omega)) (pickS _)) rfl (fun v B' H' hΦ hB => ?_)
 obtain ⟨_, rfl, hΦ⟩ := hΦ
 obtain ⟨rfl, hBB, rfl⟩ := hΦ
 subst hBB
 rename Frag => B
 clear hB
 refine ⟨JOk.edge (JOk.yes (JOk.top) (ld U23 rfl rfl rfl)) (by kernel_rfl), ?_⟩
 refine Dx.p (i := 12) rfl (by kernel_rfl) (nilc rfl) rfl ?_
 refine Dx.p (i := 13) rfl (by kernel_rfl) (fa' fo113_0 rfl) rfl ?_
 refine Dx.one (i := 14) (by kernel_rfl) ?_
 refine Dstep.o0 (i := 14) rfl (stO U23 sz23 rfl rfl rfl (by simp) rfl) (fun v B' H' hΦ hB => ?_)
 obtain ⟨rfl, rfl⟩ := hΦ; clear hB v
 refine ⟨JOk.edge (JOk.edge (JOk.top) (by kernel_rfl)) (by kernel_rfl), ?_⟩
 refine Dx.p (i := 15) rfl (by kernel_rfl) (nilc rfl) rfl ?_
 refine Dx.p (i := 16) rfl (by kernel_rfl) (fa' fo113_1 rfl) rfl ?_
 refine Dx.one (i := 17) (by kernel_rfl) ?_
 refine Dstep.o0 (i := 17) rfl (stO U23 sz23 rfl rfl rfl (by simp) rfl) (fun v B' H' hΦ hB => ?_)
 obtain ⟨rfl, rfl⟩ := hΦ; clear hB v
 refine ⟨JOk.edge (JOk.edge (JOk.top) (by kernel_rfl)) (by kernel_rfl), ?_⟩
 refine Dx.done (by kernel_rfl) ?_
 refine Xx.tn (k14 _ _ _ _ ?_)
 refine Cx.seq (fun K15 k15 => ?_)
 refine Cx.region <| Lx.y (mv rfl) rfl <| Lx.y (nilc rfl) rfl <| Lx.y (fa' fo113_2 rfl) rfl <| Lx.y (ld U111 rfl rfl rfl) rfl <| Lx.y (lenV (ty' := 0) U111 rfl) rfl <| Lx.y (gtr rfl rfl) rfl <| Lx.nil <| ?_
 refine Xx.tn (k15 _ _ _ _ ?_)
 refine Cx.condD rfl (fun h16 => ?_) (fun h16 => ?_)
 ·
  have hq1 : qk ≠ 0 := by have := h16; omega
  refine Xx.addrT Cm (by omega) (fun bQ hCm _ hcm3 => ?_)
  subst hCm
  have hg1 : (kp.drop (0 + 0 * 1)).take 1 = [.pointer (some ⟨g, 0, none⟩)] := by rw [← hg hq1]; rfl
  refine Cx.seq (fun K17 k17 => ?_)
  refine Cx.drawn (by kernel_rfl) ?_
  refine Dx.p (i := 0) rfl (by kernel_rfl) (mv rfl) rfl ?_
  refine Dx.p (i := 1) rfl (by kernel_rfl) (mv rfl) rfl ?_
  refine Dx.p (i := 2) rfl (by kernel_rfl) (nilc rfl) rfl ?_
  refine Dx.p (i := 3) rfl (by kernel_rfl) (fa' fo113_2 rfl) rfl ?_
  refine Dx.r (i := 4) rfl (by kernel_rfl) (ld U111 rfl rfl rfl) rfl ?_
  refine Dx.p (i := 5) rfl (by kernel_rfl) (mv rfl) rfl ?_
  refine Dx.p (i := 6) rfl (by kernel_rfl) (nilc rfl) rfl ?_
  refine Dx.p (i := 7) rfl (by kernel_rfl) (fa' fo113_2 rfl) rfl ?_
  refine Dx.r (i := 8) rfl (by kernel_rfl) (ld U111 rfl rfl rfl) rfl ?_
  refine Dx.p (i := 9) rfl (by kernel_rfl) (ia U111 sz110 rfl rfl (show Int.toNat _ = 0 from rfl) (by omega) (by omega)) rfl ?_
  refine Dx.r (i := 10) rfl (by kernel_rfl) (ldC U110 rfl rfl (Cells.buf (m := 1) hg1 (by omega))) rfl ?_
  refine Dx.one (i := 11) (by kernel_rfl) ?_
  refine Dstep.o (i := 11) rfl (bsl1 U111 ti110 rfl rfl rfl (by decide)) rfl (fun v B' H' hΦ hB => ?_)
  obtain ⟨b3, rfl, rfl, rfl⟩ := hΦ; clear hB
  refine ⟨JOk.edge (JOk.yes (JOk.yes (JOk.top) (ld U111 rfl rfl rfl)) (ld U111 rfl rfl rfl)) (by kernel_rfl), ?_⟩
  refine Dx.one (i := 12) (by kernel_rfl) ?_
  refine Dstep.o (i := 12) rfl (appN (et := 110) (ql + 1) [.pointer (some ⟨g, 0, none⟩)] (lp ++ [.pointer (some ⟨g, 0, none⟩)]) U111 U111 ti110 rfl rfl rfl rfl rfl (by omega) (by omega) rfl rfl) rfl (fun v B' H' hΦ hB => ?_)
  obtain ⟨Cl9, el9, rfl, _, _, hel9, hBB, rfl⟩ := hΦ
  subst hBB
  rename Frag => B
  clear hB
  refine ⟨JOk.yes (JOk.yes (JOk.edge (JOk.top) (by kernel_rfl)) (ld U111 rfl rfl rfl)) (ldC U110 rfl rfl (Cells.buf (m := 1) hg1 (by omega))), ?_⟩
  refine Dx.p (i := 13) rfl (by kernel_rfl) (nilc rfl) rfl ?_
  refine Dx.p (i := 14) rfl (by kernel_rfl) (fa' fo113_2 rfl) rfl ?_
  refine Dx.one (i := 15) (by kernel_rfl) ?_
  refine Dstep.o0 (i := 15) rfl (stO U111 sz111 rfl rfl rfl (by simp) rfl) (fun v B' H' hΦ hB => ?_)
  obtain ⟨rfl, rfl⟩ := hΦ; clear hB v
  refine ⟨JOk.edge (JOk.edge (JOk.edge (JOk.top) (by kernel_rfl)) (by kernel_rfl)) (by kernel_rfl), ?_⟩
  refine Dx.done (by kernel_rfl) ?_
  refine Xx.tn (k17 _ _ _ _ ?_)
  refine Xx.dropB b3 ?_
  refine Cx.region <| Lx.y (mv rfl) rfl <| Lx.y (mv rfl) rfl <| Lx.y (nilc rfl) rfl <| Lx.y (fa' fo113_2 rfl) rfl <| Lx.y (ld U111 rfl rfl rfl) rfl <| ?_
  refine Lx.c rfl rfl rfl (DelN_ct (some ⟨bQ, 0, none⟩) 0 (qk) cm3 (kp) _ (by omega) (by omega) hka (by omega)) (pickS _) rfl ?_
  rintro v B1 H1 ⟨rfl, hBB, rfl⟩ hB1
  subst hBB
  rename Frag => B
  clear hB1
  refine Lx.y (nilc rfl) rfl <| Lx.y (fa' fo113_2 rfl) rfl <| ?_
  refine Lx.st (stO U111 sz111 rfl rfl rfl (by simp) rfl) ?_
  refine Lx.nil ?_
  exact Xx.end0 rfl ⟨rfl, rfl, Al9, cl9, Bl9, dl9, Cl9, el9, rfl⟩ (Frag.le_refl _) (by rw [show min qk 1 = 1 by omega, hg (by omega)]; simp only [List.take_zero, List.nil_append, Nat.zero_add]; ac_rfl)
 ·
  have hq0 : qk = 0 := by have := h16; omega
  subst hq0
  obtain rfl := List.length_eq_zero_iff.1 hkp
  refine Cx.skip ?_
  exact Xx.end0 rfl ⟨rfl, rfl, Al9, cl9, Bl9, dl9, Cl, cl3, rfl⟩ (Frag.le_refl _) (by rw [show min 0 1 = 0 by omega, show 0 - 1 = 0 by omega]; simp only [List.take_zero, List.nil_append, Nat.zero_add, List.take_nil, List.drop_nil, List.append_nil, Nat.add_zero]; ac_rfl)
set_option maxHeartbeats 4000000 in
theorem join_raw (b bl bk n nl nk p ql qk i : Nat) (Ak Av Ac Al Bl Cl Am Bm Cm : Option Addr) (ck cv cc cl1 cl2 cl3 cm1 cm2 cm3 : Nat) (ks vs lk lv kk kv : List Str8) (ps lp kp : List Value) (K W : Str8) (B : Frag) (hn : n ≤ 100) (hp : p = n + 1) (hi : i + 1 < p) (hks : ks.length = n) (hvs : vs.length = n) (hpl : ps.length = p) (hnl : nl ≤ 7) (hlk : lk.length = nl) (hlv : lv.length = nl) (hkk : kk.length = nk) (hkv : kv.length = nk) (hlp : lp.length = ql) (hkp : kp.length = qk) (hql : ql ≤ 8) (hqk : qk ≤ 8) (hpl1 : (ps.drop (0 + i * 1)).take 1 = [.pointer (some ⟨bl, 0, none⟩)]) (hpk1 : (ps.drop (0 + (i + 1) * 1)).take 1 = [.pointer (some ⟨bk, 0, none⟩)]) (hK : ((ks.map str).drop (0 + i * 1)).take 1 = [str K]) (hW : ((vs.map str).drop (0 + i * 1)).take 1 = [str W]) (hpa : ps.all (·.oneCell') = true) (hla : lp.all (·.oneCell') = true) (hka : kp.all (·.oneCell') = true) (hnk : 1 ≤ nk ∧ nk ≤ 7) : Ct Tryz.prog 104 [.pointer (some ⟨b, 0, none⟩), i64 i] B (row b 113 [.slice Ak (n) ck, .slice Av (n) cv, .slice Ac (p) cc] * (sbuf 9 1 Ak (n) ck (ks.map str) * (sbuf 9 1 Av (n) cv (vs.map str) * (sbuf 110 1 Ac (p) cc (ps) * (row bl 113 [.slice Al (nl) cl1, .slice Bl (nl) cl2, .slice Cl (ql) cl3] * (sbuf 9 1 Al (nl) cl1 (lk.map str) * (sbuf 9 1 Bl (nl) cl2 (lv.map str) * (sbuf 110 1 Cl (ql) cl3 (lp) * (row bk 113 [.slice Am (nk) cm1, .slice Bm (nk) cm2, .slice Cm (qk) cm3] * (sbuf 9 1 Am (nk) cm1 (kk.map str) * (sbuf 9 1 Bm (nk) cm2 (kv.map str) * (sbuf 110 1 Cm (qk) cm3 (kp))))))))))))) (fun v B' H' => v = .tuple #[] ∧ B' = B ∧ ∃ Al9 cl9 Bl9 dl9 Cl9 el9, H' = row b 113 [.slice Ak (n - 1) ck, .slice Av (n - 1) cv, .slice Ac (p - 1) cc] * (sbuf 9 1 Ak (n - 1) ck ((ks.map str).take i ++ (ks.map str).drop (i + 1)) * (sbuf 9 1 Av (n - 1) cv ((vs.map str).take i ++ (vs.map str).drop (i + 1)) * (sbuf 110 1 Ac (p - 1) cc (ps.take (i + 1) ++ ps.drop (i + 1 + 1)) * (row bl 113 [.slice Al9 (nl + 1 + nk) cl9, .slice Bl9 (nl + 1 + nk) dl9, .slice Cl9 (ql + qk) el9] * (sbuf 9 1 Al9 (nl + 1 + nk) cl9 ((lk.map str ++ [str K]) ++ kk.map str) * (sbuf 9 1 Bl9 (nl + 1 + nk) dl9 ((lv.map str ++ [str W]) ++ kv.map str) * (sbuf 110 1 Cl9 (ql + qk) el9 (lp ++ kp))))))))) := by
 refine Ct.of_body Tryz.func104 rfl (nt := 109) rfl (by kernel_rfl) rfl ?_
 intro N0 w0 R
 simp only [star_assoc]
 refine Xx.addrT Ac (by omega) (fun bC hAc _ _ => ?_)
 subst hAc
 refine Xx.addrT Ak (by omega) (fun bK hAk _ _ => ?_)
 subst hAk
 refine Xx.addrT Av (by omega) (fun bV hAv _ _ => ?_)
 subst hAv
 refine Xx.srcT Am (fun hsAm => ?_)
 refine Xx.srcT Bm (fun hsBm => ?_)
 refine Xx.srcT Cm (fun hsCm => ?_)
 refine Cx.seq (fun K1 k1 => ?_)
 refine Cx.drawn (by kernel_rfl) ?_
 refine Dx.p (i := 0) rfl (by kernel_rfl) (mv rfl) rfl ?_
 refine Dx.p (i := 1) rfl (by kernel_rfl) (nilc rfl) rfl ?_
 refine Dx.p (i := 2) rfl (by kernel_rfl) (fa' fo113_2 rfl) rfl ?_
 refine Dx.r (i := 3) rfl (by kernel_rfl) (ld U111 rfl rfl rfl) rfl ?_
 refine Dx.p (i := 4) rfl (by kernel_rfl) (mv rfl) rfl ?_
 refine Dx.p (i := 5) rfl (by kernel_rfl) (ia U111 sz110 rfl rfl (by first | exact Int.toNat_natCast _ | rfl) (by omega) (by omega)) rfl ?_
 refine Dx.r (i := 6) rfl (by kernel_rfl) (ldC U110 rfl rfl (Cells.buf (m := 1) hpl1 (by omega))) rfl ?_
 refine Dx.p (i := 7) rfl (by kernel_rfl) (mv rfl) rfl ?_
 refine Dx.p (i := 8) rfl (by kernel_rfl) (nilc rfl) rfl ?_
 refine Dx.p (i := 9) rfl (by kernel_rfl) (fa' fo113_2 rfl) rfl ?_
 refine Dx.r (i := 10) rfl (by kernel_rfl) (ld U111 rfl rfl rfl) rfl ?_
 refine Dx.p (i := 11) rfl (by kernel_rfl) (mv rfl) rfl ?_
 refine Dx.p (i := 12) rfl (by kernel_rfl) (Yx.val (add rfl rfl (by first | exact wrap64 (by omega) (by omega) | rfl)) (show _ = i64 ((i + 1 : Nat) : Int) from rfl)) rfl ?_
 refine Dx.p (i := 13) rfl (by kernel_rfl) (ia U111 sz110 rfl rfl (by first | exact Int.toNat_natCast _ | rfl) (by omega) (by omega)) rfl ?_
 refine Dx.r (i := 14) rfl (by kernel_rfl) (ldC U110 rfl rfl (Cells.buf (m := 1) hpk1 (by omega))) rfl ?_
 refine Dx.p (i := 15) rfl (by kernel_rfl) (asg rfl) rfl ?_
 refine Dx.p (i := 16) rfl (by kernel_rfl) (asg rfl) rfl ?_
 refine Dx.done (by kernel_rfl) ?_
 refine Xx.tn (k1 _ _ _ _ ?_)
 refine Cx.seq (fun K2 k2 => ?_)
 refine Cx.drawn (by kernel_rfl) ?_
 refine Dx.p (i := 0) rfl (by kernel_rfl) (mv rfl) rfl ?_
 refine Dx.p (i := 1) rfl (by kernel_rfl) (mv rfl) rfl ?_
 refine Dx.p (i := 2) rfl (by kernel_rfl) (nilc rfl) rfl ?_
 refine Dx.p (i := 3) rfl (by kernel_rfl) (fa' fo113_0 rfl) rfl ?_
 refine Dx.r (i := 4) rfl (by kernel_rfl) (ld U23 rfl rfl rfl) rfl ?_
 refine Dx.p (i := 5) rfl (by kernel_rfl) (mv rfl) rfl ?_
 refine Dx.p (i := 6) rfl (by kernel_rfl) (nilc rfl) rfl ?_
 refine Dx.p (i := 7) rfl (by kernel_rfl) (fa' fo113_0 rfl) rfl ?_
 refine Dx.r (i := 8) rfl (by kernel_rfl) (ld U23 rfl rfl rfl) rfl ?_
 refine Dx.p (i := 9) rfl (by kernel_rfl) (mv rfl) rfl ?_
 refine Dx.p (i := 10) rfl (by kernel_rfl) (ia U23 sz9 rfl rfl (by first | exact Int.toNat_natCast _ | rfl) (by omega) (by omega)) rfl ?_
 refine Dx.r (i := 11) rfl (by kernel_rfl) (ldC U9 rfl rfl (Cells.buf (m := 1) hK (by rw [List.length_map]; omega))) rfl ?_
 refine Dx.p (i := 14) rfl (by kernel_rfl) (mv rfl) rfl ?_
 refine Dx.p (i := 15) rfl (by kernel_rfl) (nilc rfl) rfl ?_
 refine Dx.p (i := 16) rfl (by kernel_rfl) (fa' fo113_0 rfl) rfl ?_
 refine Dx.r (i := 17) rfl (by kernel_rfl) (ld U23 rfl rfl rfl) rfl ?_
 refine Dx.one (i := 12) (by kernel_rfl) ?_
 refine Dstep.o (i := 12) rfl (bsl1 U23 ti9 rfl rfl rfl (by decide)) rfl (fun v B' H' hΦ hB => ?_)
 obtain ⟨b1, rfl, rfl, rfl⟩ := hΦ; clear hB
 refine ⟨JOk.yes (JOk.edge (JOk.yes (JOk.yes (JOk.top) (ld U23 rfl rfl rfl)) (ld U23 rfl rfl rfl)) (by kernel_rfl)) (ld U23 rfl rfl rfl), ?_⟩
 refine Dx.one (i := 13) (by kernel_rfl) ?_
 refine Dstep.o (i := 13) rfl (appN (et := 9) (nl + 1) [str K] (lk.map str ++ [str K]) U23 U23 ti9 rfl rfl rfl rfl rfl (by omega) (by omega) rfl rfl) rfl (fun v B' H' hΦ hB => ?_)
 obtain ⟨Al8, cl8, rfl, _, _, hcl8, hBB, rfl⟩ := hΦ
 subst hBB
 rename Frag => B
 clear hB
 refine ⟨JOk.yes (JOk.yes (JOk.yes (JOk.edge (JOk.top) (by kernel_rfl)) (ld U23 rfl rfl rfl)) (ldC U9 rfl rfl (Cells.buf (m := 1) hK (by rw [List.length_map]; omega)))) (ld U23 rfl rfl rfl), ?_⟩
 refine Dx.one (i := 18) (by kernel_rfl) ?_
 refine Xx.dropB b1 ?_
 refine Dstep.o (i := 18) rfl (appS (et := 9) (nl + 1 + nk) (kk.map str) ((lk.map str ++ [str K]) ++ kk.map str) U23 U23 ti9 rfl rfl hsAm (strs_all _) (by omega) (by omega) (by omega) rfl) rfl (fun v B' H' hΦ hB => ?_)
 obtain ⟨Al9, cl9, rfl, _, _, hcl9, hBB, rfl⟩ := hΦ
 subst hBB
 rename Frag => B
 clear hB
 refine ⟨JOk.edge (JOk.yes (JOk.yes (JOk.yes (JOk.top) (ld U23 rfl rfl rfl)) (ld U23 rfl rfl rfl)) (ldC U9 rfl rfl (Cells.buf (m := 1) hK (by rw [List.length_map]; omega)))) (by kernel_rfl), ?_⟩
 refine Dx.p (i := 19) rfl (by kernel_rfl) (nilc rfl) rfl ?_
 refine Dx.p (i := 20) rfl (by kernel_rfl) (fa' fo113_0 rfl) rfl ?_
 refine Dx.one (i := 21) (by kernel_rfl) ?_
 refine Dstep.o0 (i := 21) rfl (stO U23 sz23 rfl rfl rfl (by simp) rfl) (fun v B' H' hΦ hB => ?_)
 obtain ⟨rfl, rfl⟩ := hΦ; clear hB v
 refine ⟨JOk.edge (JOk.edge (JOk.edge (JOk.edge (JOk.top) (by kernel_rfl)) (by kernel_rfl)) (by kernel_rfl)) (by kernel_rfl), ?_⟩
 refine Dx.done (by kernel_rfl) ?_
 refine Xx.tn (k2 _ _ _ _ ?_)
 refine Cx.seq (fun K3 k3 => ?_)
 refine Cx.drawn (by kernel_rfl) ?_
 refine Dx.p (i := 0) rfl (by kernel_rfl) (mv rfl) rfl ?_
 refine Dx.p (i := 1) rfl (by kernel_rfl) (mv rfl) rfl ?_
 refine Dx.p (i := 2) rfl (by kernel_rfl) (nilc rfl) rfl ?_
 refine Dx.p (i := 3) rfl (by kernel_rfl) (fa' fo113_1 rfl) rfl ?_
 refine Dx.r (i := 4) rfl (by kernel_rfl) (ld U23 rfl rfl rfl) rfl ?_
 refine Dx.p (i := 5) rfl (by kernel_rfl) (mv rfl) rfl ?_
 refine Dx.p (i := 6) rfl (by kernel_rfl) (nilc rfl) rfl ?_
 refine Dx.p (i := 7) rfl (by kernel_rfl) (fa' fo113_1 rfl) rfl ?_
 refine Dx.r (i := 8) rfl (by kernel_rfl) (ld U23 rfl rfl rfl) rfl ?_
 refine Dx.p (i := 9) rfl (by kernel_rfl) (mv rfl) rfl ?_
 refine Dx.p (i := 10) rfl (by kernel_rfl) (ia U23 sz9 rfl rfl (by first | exact Int.toNat_natCast _ | rfl) (by omega) (by omega)) rfl ?_
 refine Dx.r (i := 11) rfl (by kernel_rfl) (ldC U9 rfl rfl (Cells.buf (m := 1) hW (by rw [List.length_map]; omega))) rfl ?_
 refine Dx.p (i := 14) rfl (by kernel_rfl) (mv rfl) rfl ?_
 refine Dx.p (i := 15) rfl (by kernel_rfl) (nilc rfl) rfl ?_
 refine Dx.p (i := 16) rfl (by kernel_rfl) (fa' fo113_1 rfl) rfl ?_
 refine Dx.r (i := 17) rfl (by kernel_rfl) (ld U23 rfl rfl rfl) rfl ?_
 refine Dx.one (i := 12) (by kernel_rfl) ?_
 refine Dstep.o (i := 12) rfl (bsl1 U23 ti9 rfl rfl rfl (by decide)) rfl (fun v B' H' hΦ hB => ?_)
 obtain ⟨b2, rfl, rfl, rfl⟩ := hΦ; clear hB
 refine ⟨JOk.yes (JOk.edge (JOk.yes (JOk.yes (JOk.top) (ld U23 rfl rfl rfl)) (ld U23 rfl rfl rfl)) (by kernel_rfl)) (ld U23 rfl rfl rfl), ?_⟩
 refine Dx.one (i := 13) (by kernel_rfl) ?_
 refine Dstep.o (i := 13) rfl (appN (et := 9) (nl + 1) [str W] (lv.map str ++ [str W]) U23 U23 ti9 rfl rfl rfl rfl rfl (by omega) (by omega) rfl rfl) rfl (fun v B' H' hΦ hB => ?_)
 obtain ⟨Bl8, dl8, rfl, _, _, hdl8, hBB, rfl⟩ := hΦ
 subst hBB
 rename Frag => B
 clear hB
 refine ⟨JOk.yes (JOk.yes (JOk.yes (JOk.edge (JOk.top) (by kernel_rfl)) (ld U23 rfl rfl rfl)) (ldC U9 rfl rfl (Cells.buf (m := 1) hW (by rw [List.length_map]; omega)))) (ld U23 rfl rfl rfl), ?_⟩
 refine Dx.one (i := 18) (by kernel_rfl) ?_
 refine Xx.dropB b2 ?_
 refine Dstep.o (i := 18) rfl (appS (et := 9) (nl + 1 + nk) (kv.map str) ((lv.map str ++ [str W]) ++ kv.map str) U23 U23 ti9 rfl rfl hsBm (strs_all _) (by omega) (by omega) (by omega) rfl) rfl (fun v B' H' hΦ hB => ?_)
 obtain ⟨Bl9, dl9, rfl, _, _, hdl9, hBB, rfl⟩ := hΦ
 subst hBB
 rename Frag => B
 clear hB
 refine ⟨JOk.edge (JOk.yes (JOk.yes (JOk.yes (JOk.top) (ld U23 rfl rfl rfl)) (ld U23 rfl rfl rfl)) (ldC U9 rfl rfl (Cells.buf (m := 1) hW (by rw [List.length_map]; omega)))) (by kernel_rfl), ?_⟩
 refine Dx.p (i := 19) rfl (by kernel_rfl) (nilc rfl) rfl ?_
 refine Dx.p (i := 20) rfl (by kernel_rfl) (fa' fo113_1 rfl) rfl ?_
 refine Dx.one (i := 21) (by kernel_rfl) ?_
 refine Dstep.o0 (i := 21) rfl (stO U23 sz23 rfl rfl rfl (by simp) rfl) (fun v B' H' hΦ hB => ?_)
 obtain ⟨rfl, rfl⟩ := hΦ; clear hB v
 refine ⟨JOk.edge (JOk.edge (JOk.edge (JOk.edge (JOk.top) (by kernel_rfl)) (by kernel_rfl)) (by kernel_rfl)) (by kernel_rfl), ?_⟩
 refine Dx.done (by kernel_rfl) ?_
 refine Xx.tn (k3 _ _ _ _ ?_)
 refine Cx.seq (fun K4 k4 => ?_)
 refine Cx.drawn (by kernel_rfl) ?_
 refine Dx.p (i := 0) rfl (by kernel_rfl) (mv rfl) rfl ?_
 refine Dx.p (i := 1) rfl (by kernel_rfl) (mv rfl) rfl ?_
 refine Dx.p (i := 2) rfl (by kernel_rfl) (nilc rfl) rfl ?_
 refine Dx.p (i := 3) rfl (by kernel_rfl) (fa' fo113_2 rfl) rfl ?_
 refine Dx.r (i := 4) rfl (by kernel_rfl) (ld U111 rfl rfl rfl) rfl ?_
 refine Dx.p (i := 5) rfl (by kernel_rfl) (mv rfl) rfl ?_
 refine Dx.p (i := 6) rfl (by kernel_rfl) (nilc rfl) rfl ?_
 refine Dx.p (i := 7) rfl (by kernel_rfl) (fa' fo113_2 rfl) rfl ?_
 refine Dx.r (i := 8) rfl (by kernel_rfl) (ld U111 rfl rfl rfl) rfl ?_
 refine Dx.one (i := 9) (by kernel_rfl) ?_
 refine Dstep.o (i := 9) rfl (appS (et := 110) (ql + qk) (kp) (lp ++ kp) U111 U111 ti110 rfl rfl hsCm hka (by omega) (by omega) (by omega) rfl) rfl (fun v B' H' hΦ hB => ?_)
 obtain ⟨Cl9, el9, rfl, _, _, hel9, hBB, rfl⟩ := hΦ
 subst hBB
 rename Frag => B
 clear hB
 refine ⟨JOk.edge (JOk.edge (JOk.top) (by kernel_rfl)) (by kernel_rfl), ?_⟩
 refine Dx.p (i := 10) rfl (by kernel_rfl) (nilc rfl) rfl ?_
 refine Dx.p (i := 11) rfl (by kernel_rfl) (fa' fo113_2 rfl) rfl ?_
 refine Dx.one (i := 12) (by kernel_rfl) ?_
 refine Dstep.o0 (i := 12) rfl (stO U111 sz111 rfl rfl rfl (by simp) rfl) (fun v B' H' hΦ hB => ?_)
 obtain ⟨rfl, rfl⟩ := hΦ; clear hB v
 refine ⟨JOk.edge (JOk.edge (JOk.top) (by kernel_rfl)) (by kernel_rfl), ?_⟩
 refine Dx.done (by kernel_rfl) ?_
 refine Xx.tn (k4 _ _ _ _ ?_)
 refine Cx.seq (fun K5 k5 => ?_)
 refine Cx.drawn (by kernel_rfl) ?_
 refine Dx.p (i := 0) rfl (by kernel_rfl) (mv rfl) rfl ?_
 refine Dx.p (i := 1) rfl (by kernel_rfl) (mv rfl) rfl ?_
 refine Dx.p (i := 2) rfl (by kernel_rfl) (mv rfl) rfl ?_
 refine Dx.p (i := 3) rfl (by kernel_rfl) (nilc rfl) rfl ?_
 refine Dx.p (i := 4) rfl (by kernel_rfl) (fa' fo113_0 rfl) rfl ?_
 refine Dx.r (i := 5) rfl (by kernel_rfl) (ld U23 rfl rfl rfl) rfl ?_
 refine Dx.p (i := 6) rfl (by kernel_rfl) (mv rfl) rfl ?_
 refine Dx.p (i := 7) rfl (by kernel_rfl) (mv rfl) rfl ?_
 refine Dx.p (i := 8) rfl (by kernel_rfl) (Yx.val (add rfl rfl (by first | exact wrap64 (by omega) (by omega) | rfl)) (show _ = i64 ((i + 1 : Nat) : Int) from rfl)) rfl ?_
 refine Dx.p (i := 10) rfl (by kernel_rfl) (mv rfl) rfl ?_
 refine Dx.p (i := 11) rfl (by kernel_rfl) (nilc rfl) rfl ?_
 refine Dx.p (i := 12) rfl (by kernel_rfl) (fa' fo113_1 rfl) rfl ?_
 refine Dx.r (i := 13) rfl (by kernel_rfl) (ld U23 rfl rfl rfl) rfl ?_
 refine Dx.p (i := 14) rfl (by kernel_rfl) (mv rfl) rfl ?_
 refine Dx.p (i := 15) rfl (by kernel_rfl) (mv rfl) rfl ?_
 refine Dx.p (i := 16) rfl (by kernel_rfl) (Yx.val (add rfl rfl (by first | exact wrap64 (by omega) (by omega) | rfl)) (show _ = i64 ((i + 1 : Nat) : Int) from rfl)) rfl ?_
 refine Dx.one (i := 9) (by kernel_rfl) ?_
 refine Dstep.o (i := 9) rfl (Ox.call rfl rfl rfl (Del_ct (some ⟨bK, 0, none⟩) i (n) ck (ks.map str) _ (by omega) (by rw [List.length_map]; omega) (strs_all _) (by omega)) (pickS _)) rfl (fun v B' H' hΦ hB => ?_)
 obtain ⟨_, rfl, hΦ⟩ := hΦ
 obtain ⟨rfl, hBB, rfl⟩ := hΦ
 subst hBB
 rename Frag => B
 clear hB
 refine ⟨JOk.yes (JOk.edge (JOk.top) (by kernel_rfl)) (ld U23 rfl rfl rfl), ?_⟩
 refine Dx.one (i := 17) (by kernel_rfl) ?_
 refine Dstep.o (i := 17) rfl (Ox.call rfl rfl rfl (Del_ct (some ⟨bV, 0, none⟩) i (n) cv (vs.map str) _ (by omega) (by rw [List.length_map]; omega) (strs_all _) (by omega)) (pickS _)) rfl (fun v B' H' hΦ hB => ?_)
 obtain ⟨_, rfl, hΦ⟩ := hΦ
 obtain ⟨rfl, hBB, rfl⟩ := hΦ
 subst hBB
 rename Frag => B
 clear hB
 refine ⟨JOk.edge (JOk.yes (JOk.top) (ld U23 rfl rfl rfl)) (by kernel_rfl), ?_⟩
 refine Dx.p (i := 18) rfl (by kernel_rfl) (nilc rfl) rfl ?_
 refine Dx.p (i := 19) rfl (by kernel_rfl) (fa' fo113_0 rfl) rfl ?_
 refine Dx.one (i := 20) (by kernel_rfl) ?_
 refine Dstep.o0 (i := 20) rfl (stO U23 sz23 rfl rfl rfl (by simp) rfl) (fun v B' H' hΦ hB => ?_)
 obtain ⟨rfl, rfl⟩ := hΦ; clear hB v
 refine ⟨JOk.edge (JOk.edge (JOk.top) (by kernel_rfl)) (by kernel_rfl), ?_⟩
 refine Dx.p (i := 21) rfl (by kernel_rfl) (nilc rfl) rfl ?_
 refine Dx.p (i := 22) rfl (by kernel_rfl) (fa' fo113_1 rfl) rfl ?_
 refine Dx.one (i := 23) (by kernel_rfl) ?_
 refine Dstep.o0 (i := 23) rfl (stO U23 sz23 rfl rfl rfl (by simp) rfl) (fun v B' H' hΦ hB => ?_)
 obtain ⟨rfl, rfl⟩ := hΦ; clear hB v
 refine ⟨JOk.edge (JOk.edge (JOk.top) (by kernel_rfl)) (by kernel_rfl), ?_⟩
 refine Dx.done (by kernel_rfl) ?_
 refine Xx.tn (k5 _ _ _ _ ?_)
 refine Cx.region <| Lx.y (mv rfl) rfl <| Lx.y (mv rfl) rfl <| Lx.y (nilc rfl) rfl <| Lx.y (fa' fo113_2 rfl) rfl <| Lx.y (ld U111 rfl rfl rfl) rfl <| Lx.y (mv rfl) rfl <| Lx.y (Yx.val (add rfl rfl (by first | exact wrap64 (by omega) (by omega) | rfl)) (show _ = i64 ((i + 1 : Nat) : Int) from rfl)) rfl <| Lx.y (mv rfl) rfl <| Lx.y (Yx.val (add rfl rfl (by first | exact wrap64 (by omega) (by omega) | rfl)) (show _ = i64 ((i + 1 + 1 : Nat) : Int) from rfl)) rfl <| ?_
 refine Lx.c rfl rfl rfl (DelN_ct (some ⟨bC, 0, none⟩) (i + 1) (p) cc (ps) _ (by omega) (by omega) hpa (by omega)) (pickS _) rfl ?_
 rintro v B1 H1 ⟨rfl, hBB, rfl⟩ hB1
 subst hBB
 rename Frag => B
 clear hB1
 refine Lx.y (nilc rfl) rfl <| Lx.y (fa' fo113_2 rfl) rfl <| ?_
 refine Lx.st (stO U111 sz111 rfl rfl rfl (by simp) rfl) ?_
 refine Lx.nil ?_
 refine Xx.perm (H' := (row bk 113 [.slice Am (nk) cm1, .slice Bm (nk) cm2, .slice Cm (qk) cm3] * (sbuf 9 1 Am (nk) cm1 (kk.map str) * (sbuf 9 1 Bm (nk) cm2 (kv.map str) * (sbuf 110 1 Cm (qk) cm3 (kp))))) * ((row b 113 [.slice (some ⟨bK, 0, none⟩) (n - 1) ck, .slice (some ⟨bV, 0, none⟩) (n - 1) cv, .slice (some ⟨bC, 0, none⟩) (p - 1) cc] * (sbuf 9 1 (some ⟨bK, 0, none⟩) (n - 1) ck ((ks.map str).take i ++ (ks.map str).drop (i + 1)) * (sbuf 9 1 (some ⟨bV, 0, none⟩) (n - 1) cv ((vs.map str).take i ++ (vs.map str).drop (i + 1)) * (sbuf 110 1 (some ⟨bC, 0, none⟩) (p - 1) cc (ps.take (i + 1) ++ ps.drop (i + 1 + 1)) * (row bl 113 [.slice Al9 (nl + 1 + nk) cl9, .slice Bl9 (nl + 1 + nk) dl9, .slice Cl9 (ql + qk) el9] * (sbuf 9 1 Al9 (nl + 1 + nk) cl9 ((lk.map str ++ [str K]) ++ kk.map str) * (sbuf 9 1 Bl9 (nl + 1 + nk) dl9 ((lv.map str ++ [str W]) ++ kv.map str) * (sbuf 110 1 Cl9 (ql + qk) el9 (lp ++ kp))))))))) * R)) ?_ (by ac_rfl)
 refine Xx.drop ?_
 exact Xx.end0 rfl ⟨rfl, rfl, Al9, cl9, Bl9, dl9, Cl9, el9, rfl⟩ (Frag.le_refl _) rfl
end DrB
end Go.Proofs.YtdidpocakipinaaGreatDoor
namespace Go.Proofs.YtdidpocakipinaaGreatDoor
open Go.SL Go.RowKit
set_option maxRecDepth 100000
open Ke1 Ke3 Ke4 Ke5 Ke6 Ke7 Ke8 Ke9 KeA KeB KeC KeD KeE KeF KeG KeI RgA BtB BtC BtD BtE BtG BtX BtH BtI BtF BtJ BtN BtO BtY BtZ DrA DrB
namespace DrC
theorem fr_ct (N d : Nat) (hN : N ≤ 90) (c : C) (j : Nat) (hj : j + 1 < c.cs.length) (hok : Ok N (d + 2) c) (hx : MnX j (d + 2) c) (h4 : 4 ≤ c.cs[j + 1].ks.length) (h3 : c.cs[j].ks.length < 3) (B : Frag) :
    Ct Tryz.prog 103 [.pointer (some ⟨c.b, 0, none⟩), i64 (j : Nat)] B (tr (d + 2) c) (MdQ N d c B) := by
  have hv := hok.1
  have hkN := hok.2.1
  have hcl : c.cs.length = c.ks.length + 1 := by rcases hok.2.2.1 with z | z; rw [z] at hj; simp at hj; exact z
  have ht := Two.of hok (i := j) (by omega) (by omega) hj
  have okl := hok.2.2.2 _ (List.getElem_mem (show j < c.cs.length by omega))
  have okk := hok.2.2.2 _ (List.getElem_mem hj)
  have ml := hx.2 j _ (List.getElem?_eq_getElem (show j < c.cs.length by omega))
  have mk := hx.2 (j + 1) _ (List.getElem?_eq_getElem hj)
  rw [if_pos rfl] at ml
  rw [if_neg (by omega)] at mk
  have gl := Good.of okl ml.2
  have gk := Good.of okk mk.2
  have hp1 := kid_at (cs := c.cs) (i := j) (by omega)
  have hp2 := kid_at (cs := c.cs) (i := j + 1) hj
  generalize hgl : c.cs[j] = l at *
  generalize hgk : c.cs[j + 1] = k at *
  have hlv := gl.1
  have hl7 := gl.2.1
  have hlc : l.cs.length ≤ 8 := by rcases gl.2.2.1 with ⟨_, z⟩ | ⟨_, z⟩; simp [z]; omega
  have hkv := gk.1
  have hk7 := gk.2.1
  have hkc : k.cs.length ≤ 8 := by rcases gk.2.2.1 with ⟨_, z⟩ | ⟨_, z⟩; simp [z]; omega
  have hgd : ∃ g, k.cs.length ≠ 0 → (k.cs.map pt).take 1 = [.pointer (some ⟨g, 0, none⟩)] := by
    by_cases h0 : k.cs.length = 0
    · exact ⟨0, fun z => absurd h0 z⟩
    · refine ⟨(k.cs[0]'(by omega)).b, fun _ => ?_⟩
      have := take1 (k.cs.map pt) (i := 0) (by simp; omega)
      rw [List.drop_zero] at this
      rw [this]; simp [pt]
  obtain ⟨g, hg⟩ := hgd
  have hraw := fr_raw c.b l.b k.b c.ks.length l.ks.length k.ks.length c.cs.length l.cs.length k.cs.length j c.Ak c.Av c.Ac l.Ak l.Av l.Ac k.Ak k.Av k.Ac c.ck c.cv c.cc l.ck l.cv l.cc k.ck k.cv k.cc c.ks c.vs l.ks l.vs k.ks k.vs (c.cs.map pt) (l.cs.map pt) (k.cs.map pt) (c.ks[j]'(by omega)) (c.vs[j]'(by omega)) B (by omega) hcl (by omega) rfl hv (by simp) hl7 rfl hlv rfl hkv (by simp) (by simp) hlc hkc hp1 hp2 (str_at (by omega)) (str_at (by omega)) (pts_all _) (pts_all _) (pts_all _) (k.ks.getD 0 []) (k.vs.getD 0 []) ⟨h4, hk7⟩ (str_get (by omega)) (str_get (by omega)) g hg
  refine ctTo (ctFrame (trs (tr d) l.cs * (trs (tr d) k.cs * (trs (tr (d + 1)) (c.cs.take j) * trs (tr (d + 1)) (c.cs.drop (j + 2))))) hraw) ?_ ?_
  · rw [two_tr ht, ← nd_of (c := c) rfl hv rfl, ← nd_of (c := l) rfl hlv rfl, ← nd_of (c := k) rfl hkv rfl]
    ac_rfl
  · rintro v B' H' ⟨H0, ⟨rfl, rfl, Al9, cl9, Bl9, dl9, Cl9, el9, rfl⟩, rfl⟩
    obtain ⟨l', hl'⟩ : ∃ l' : C, l' = .mk l.b Al9 cl9 Bl9 dl9 Cl9 el9 (l.ks ++ [c.ks[j]'(by omega)]) (l.vs ++ [c.vs[j]'(by omega)]) (l.cs ++ k.cs.take 1) := ⟨_, rfl⟩
    obtain ⟨k', hk'⟩ : ∃ k' : C, k' = .mk k.b k.Ak k.ck k.Av k.cv k.Ac k.cc (k.ks.drop 1) (k.vs.drop 1) (k.cs.drop 1) := ⟨_, rfl⟩
    obtain ⟨c', hc'⟩ : ∃ c' : C, c' = .mk c.b c.Ak c.ck c.Av c.cv c.Ac c.cc (c.ks.set j (k.ks.getD 0 [])) (c.vs.set j (k.vs.getD 0 [])) (c.cs.take j ++ l' :: k' :: c.cs.drop (j + 2)) := ⟨_, rfl⟩
    have h' : Two c' (c.ks.take j) (c.vs.take j) (c.cs.take j) l' (k.ks.getD 0 []) (k.vs.getD 0 []) k' (c.ks.drop (j + 1)) (c.vs.drop (j + 1)) (c.cs.drop (j + 2)) :=
      ⟨by rw [hc']; exact set_cut (by omega) _, by rw [hc']; exact set_cut (by omega) _, by rw [hc']; rfl, ht.ha, ht.hca, ht.hd, ht.hcd⟩
    have hAl : (c.ks.take j).length = j := by simp; omega
    have hm : Mended N d c c' := right_mend ht h' (by rw [hc']; rfl) hok (by rw [hAl]; exact hx) gl gk h4 ml.1 h3 (by rw [hk']; rfl) (by rw [hk']; rfl) (by rw [hk']; rfl) (by rw [hl']; rfl) (by rw [hl']; rfl) (by rw [hl']; rfl)
    refine ⟨rfl, rfl, c', ?_, hm⟩
    have e1 := nd_mk (b := c.b) (Ak := c.Ak) (ck := c.ck) (Av := c.Av) (cv := c.cv) (Ac := c.Ac) (cc := c.cc) (ks := c.ks.set j (k.ks.getD 0 [])) (vs := c.vs.set j (k.vs.getD 0 [])) (cs := c.cs.take j ++ l' :: k' :: c.cs.drop (j + 2)) (n := c.ks.length) (p := c.cs.length) (by simp) (by simp; omega) (by simp; omega) rfl rfl (two_pts ht.cs (by rw [hl']; rfl) (by rw [hk']; rfl))
    have e2 := nd_mk (b := l.b) (Ak := Al9) (ck := cl9) (Av := Bl9) (cv := dl9) (Ac := Cl9) (cc := el9) (ks := l.ks ++ [c.ks[j]'(by omega)]) (vs := l.vs ++ [c.vs[j]'(by omega)]) (cs := l.cs ++ k.cs.take 1) (n := l.ks.length + 1) (p := l.cs.length + min k.cs.length 1) (by simp) (by simp; omega) (by simp; omega) (kx := l.ks.map str ++ [str (c.ks[j]'(by omega))]) (vx := l.vs.map str ++ [str (c.vs[j]'(by omega))]) (cx := l.cs.map pt ++ (k.cs.map pt).take 1) (by simp) (by simp) (by simp)
    have e3 := nd_mk (b := k.b) (Ak := k.Ak) (ck := k.ck) (Av := k.Av) (cv := k.cv) (Ac := k.Ac) (cc := k.cc) (ks := k.ks.drop 1) (vs := k.vs.drop 1) (cs := k.cs.drop 1) (n := k.ks.length - 1) (p := k.cs.length - 1) (by simp) (by simp; omega) (by simp) (List.map_drop ..) (List.map_drop ..) (List.map_drop ..)
    rw [← hc'] at e1
    rw [← hl'] at e2
    rw [← hk'] at e3
    rw [two_tr h', ← e1, ← e2, ← e3, show l'.cs = l.cs ++ k.cs.take 1 by rw [hl']; rfl, show k'.cs = k.cs.drop 1 by rw [hk']; rfl, trs_app (tr d), trs_cut (tr d) k.cs 1]
    ac_rfl
theorem join_ct (N d : Nat) (hN : N ≤ 90) (c : C) (j i : Nat) (hj : j + 1 < c.cs.length) (hok : Ok N (d + 2) c) (hx : MnX i (d + 2) c) (hi : i = j ∨ i = j + 1) (h6 : c.cs[j].ks.length + c.cs[j + 1].ks.length ≤ 6) (B : Frag) :
    Ct Tryz.prog 104 [.pointer (some ⟨c.b, 0, none⟩), i64 (j : Nat)] B (tr (d + 2) c) (MdQ N d c B) := by
  have hv := hok.1
  have hkN := hok.2.1
  have hcl : c.cs.length = c.ks.length + 1 := by rcases hok.2.2.1 with z | z; rw [z] at hj; simp at hj; exact z
  have ht := Two.of hok (i := j) (by omega) (by omega) hj
  have okl := hok.2.2.2 _ (List.getElem_mem (show j < c.cs.length by omega))
  have okk := hok.2.2.2 _ (List.getElem_mem hj)
  have ml := hx.2 j _ (List.getElem?_eq_getElem (show j < c.cs.length by omega))
  have mk := hx.2 (j + 1) _ (List.getElem?_eq_getElem hj)
  have hl2 : 2 ≤ c.cs[j].ks.length := by have := ml.1; split at this <;> omega
  have hk2 : 2 ≤ c.cs[j + 1].ks.length := by have := mk.1; split at this <;> omega
  have gl := Good.of okl ml.2
  have gk := Good.of okk mk.2
  have hp1 := kid_at (cs := c.cs) (i := j) (by omega)
  have hp2 := kid_at (cs := c.cs) (i := j + 1) hj
  generalize hgl : c.cs[j] = l at *
  generalize hgk : c.cs[j + 1] = k at *
  have hlv := gl.1
  have hl7 := gl.2.1
  have hlc : l.cs.length ≤ 8 := by rcases gl.2.2.1 with ⟨_, z⟩ | ⟨_, z⟩; simp [z]; omega
  have hkv := gk.1
  have hk7 := gk.2.1
  have hkc : k.cs.length ≤ 8 := by rcases gk.2.2.1 with ⟨_, z⟩ | ⟨_, z⟩; simp [z]; omega
  have hraw := join_raw c.b l.b k.b c.ks.length l.ks.length k.ks.length c.cs.length l.cs.length k.cs.length j c.Ak c.Av c.Ac l.Ak l.Av l.Ac k.Ak k.Av k.Ac c.ck c.cv c.cc l.ck l.cv l.cc k.ck k.cv k.cc c.ks c.vs l.ks l.vs k.ks k.vs (c.cs.map pt) (l.cs.map pt) (k.cs.map pt) (c.ks[j]'(by omega)) (c.vs[j]'(by omega)) B (by omega) hcl (by omega) rfl hv (by simp) hl7 rfl hlv rfl hkv (by simp) (by simp) hlc hkc hp1 hp2 (str_at (by omega)) (str_at (by omega)) (pts_all _) (pts_all _) (pts_all _) ⟨by omega, hk7⟩
  refine ctTo (ctFrame (trs (tr d) l.cs * (trs (tr d) k.cs * (trs (tr (d + 1)) (c.cs.take j) * trs (tr (d + 1)) (c.cs.drop (j + 2))))) hraw) ?_ ?_
  · rw [two_tr ht, ← nd_of (c := c) rfl hv rfl, ← nd_of (c := l) rfl hlv rfl, ← nd_of (c := k) rfl hkv rfl]
    ac_rfl
  · rintro v B' H' ⟨H0, ⟨rfl, rfl, Al9, cl9, Bl9, dl9, Cl9, el9, rfl⟩, rfl⟩
    obtain ⟨m, hm'⟩ : ∃ m : C, m = .mk l.b Al9 cl9 Bl9 dl9 Cl9 el9 (l.ks ++ (c.ks[j]'(by omega)) :: k.ks) (l.vs ++ (c.vs[j]'(by omega)) :: k.vs) (l.cs ++ k.cs) := ⟨_, rfl⟩
    obtain ⟨c', hc'⟩ : ∃ c' : C, c' = .mk c.b c.Ak c.ck c.Av c.cv c.Ac c.cc (c.ks.take j ++ c.ks.drop (j + 1)) (c.vs.take j ++ c.vs.drop (j + 1)) (c.cs.take j ++ m :: c.cs.drop (j + 2)) := ⟨_, rfl⟩
    have hAl : (c.ks.take j).length = j := by simp; omega
    have hm : Mended N d c c' := join_mend ht (by rw [hc']; rfl) (by rw [hc']; rfl) (by rw [hc']; rfl) (by rw [hc']; rfl) hok hx (by rw [hAl]; exact hi) gl gk (by omega) h6 (by rw [hm']; rfl) (by rw [hm']; rfl) (by rw [hm']; rfl)
    refine ⟨rfl, rfl, c', ?_, hm⟩
    have hpts : (c.cs.take j ++ m :: c.cs.drop (j + 2)).map pt = (c.cs.map pt).take (j + 1) ++ (c.cs.map pt).drop (j + 1 + 1) := by
      rw [take_succ1 _ (by simp; omega)]
      simp [pt, hm', C.b, hgl]
    have e1 := nd_mk (b := c.b) (Ak := c.Ak) (ck := c.ck) (Av := c.Av) (cv := c.cv) (Ac := c.Ac) (cc := c.cc) (ks := c.ks.take j ++ c.ks.drop (j + 1)) (vs := c.vs.take j ++ c.vs.drop (j + 1)) (cs := c.cs.take j ++ m :: c.cs.drop (j + 2)) (n := c.ks.length - 1) (p := c.cs.length - 1) (kx := (c.ks.map str).take j ++ (c.ks.map str).drop (j + 1)) (vx := (c.vs.map str).take j ++ (c.vs.map str).drop (j + 1)) (by simp; omega) (by simp; omega) (by simp; omega) (by simp) (by simp) hpts
    have e2 := nd_mk (b := l.b) (Ak := Al9) (ck := cl9) (Av := Bl9) (cv := dl9) (Ac := Cl9) (cc := el9) (ks := l.ks ++ (c.ks[j]'(by omega)) :: k.ks) (vs := l.vs ++ (c.vs[j]'(by omega)) :: k.vs) (cs := l.cs ++ k.cs) (n := l.ks.length + 1 + k.ks.length) (p := l.cs.length + k.cs.length) (by simp; omega) (by simp; omega) (by simp) (kx := l.ks.map str ++ [str (c.ks[j]'(by omega))] ++ k.ks.map str) (vx := l.vs.map str ++ [str (c.vs[j]'(by omega))] ++ k.vs.map str) (cx := l.cs.map pt ++ k.cs.map pt) (by simp) (by simp) (by simp)
    rw [← hc'] at e1
    rw [← hm'] at e2
    rw [one_tr (show c'.cs = c.cs.take j ++ m :: c.cs.drop (j + 2) by rw [hc']; rfl), ← e1, ← e2, show m.cs = l.cs ++ k.cs by rw [hm']; rfl, trs_app (tr d)]
    ac_rfl
end DrC
end Go.Proofs.YtdidpocakipinaaGreatDoor
namespace Go.Proofs.YtdidpocakipinaaGreatDoor
open Go.SL Go.RowKit
set_option maxRecDepth 100000
open Ke1 Ke3 Ke4 Ke5 Ke6 Ke7 Ke8 Ke9 KeA KeB KeC KeD KeE KeF KeG KeI RgA BtB BtC BtD BtE BtG BtX BtH BtI BtF BtJ BtN BtO BtY BtZ DrA DrB DrC
namespace DrD
theorem sz9 : (Tryz.prog.info? 9).map (·.size) = some 1 := by kernel_rfl
theorem sz23 : (Tryz.prog.info? 23).map (·.size) = some 1 := by kernel_rfl
theorem sz110 : (Tryz.prog.info? 110).map (·.size) = some 1 := by kernel_rfl
theorem fo113_0 : FO Tryz.prog 113 0 0 1 false := FO.of U113 rfl rfl (by kernel_rfl) U23 rfl rfl
theorem fo113_1 : FO Tryz.prog 113 1 1 1 false := FO.of U113 rfl rfl (by kernel_rfl) U23 rfl rfl
theorem fo113_2 : FO Tryz.prog 113 2 2 1 false := FO.of U113 rfl rfl (by kernel_rfl) U111 rfl rfl
theorem fl_ct2 (N d : Nat) (hN : N ≤ 90) (c : C) (i : Nat) (h0 : 0 < i) (hi : i < c.cs.length) (hok : Ok N (d + 2) c) (hx : MnX i (d + 2) c) (h4 : 4 ≤ (c.cs[i - 1]'(by omega)).ks.length) (h3 : c.cs[i].ks.length < 3) (B : Frag) :
    Ct Tryz.prog 102 [.pointer (some ⟨c.b, 0, none⟩), i64 ((i : Nat) : Int)] B (tr (d + 2) c) (MdQ N d c B) := by
  obtain ⟨j, rfl⟩ : ∃ j, i = j + 1 := ⟨i - 1, by omega⟩
  exact fl_ct N d hN c j hi hok hx h4 h3 B
theorem join_ct2 (N d : Nat) (hN : N ≤ 90) (c : C) (i : Nat) (h0 : 0 < i) (hi : i < c.cs.length) (hok : Ok N (d + 2) c) (hx : MnX i (d + 2) c) (h4 : (c.cs[i - 1]'(by omega)).ks.length ≤ 3) (h3 : c.cs[i].ks.length < 3) (B : Frag) :
    Ct Tryz.prog 104 [.pointer (some ⟨c.b, 0, none⟩), i64 ((i - 1 : Nat) : Int)] B (tr (d + 2) c) (MdQ N d c B) := by
  obtain ⟨j, rfl⟩ : ∃ j, i = j + 1 := ⟨i - 1, by omega⟩
  simp only [Nat.add_sub_cancel] at h4 ⊢
  exact join_ct N d hN c j (j + 1) hi hok hx (.inr rfl) (by omega) B
def MdQ2 (N d : Nat) (c : C) (i : Nat) (hi : i < c.cs.length) (B : Frag) (v : Value) (B' : Frag) (H' : HP) : Prop := v = .tuple #[] ∧ B' = B ∧ ∃ c', H' = tr (d + 2) c' ∧ Mended N d c c' ∧ (3 ≤ c.cs[i].ks.length → c' = c)
theorem mend_not {N d i : Nat} {c : C} (hok : Ok N (d + 2) c) (hx : MnX i (d + 2) c) (hi : i < c.cs.length) (h3 : 3 ≤ c.cs[i].ks.length) : Mended N d c c :=
  ⟨rfl, hok, hx.full (fun p hp => by rw [List.getElem?_eq_getElem hi] at hp; obtain rfl := Option.some.inj hp; exact h3), rfl, by omega, by omega⟩
set_option maxHeartbeats 4000000 in
theorem mend_ct (N d : Nat) (hN : N ≤ 90) (c : C) (i : Nat) (B : Frag) (hi : i < c.cs.length) (hok : Ok N (d + 2) c) (hx : MnX i (d + 2) c) (h1 : 1 ≤ c.ks.length) : Ct Tryz.prog 86 [.pointer (some ⟨c.b, 0, none⟩), i64 (i : Nat)] B (tr (d + 2) c) (MdQ2 N d c i hi B) := by
 have hcl : c.cs.length = c.ks.length + 1 := by rcases hok.2.2.1 with z | z; rw [z] at hi; simp at hi; exact z
 have hkN := hok.2.1
 obtain ⟨b, Ak, ck, Av, cv, Ac, cc, ks, vs, cs⟩ := c
 simp only [C.b, C.ks, C.vs, C.cs] at hi h1 hcl hkN ⊢
 refine Ct.of_body Tryz.func86 rfl (nt := 73) rfl (by kernel_rfl) rfl ?_
 intro N0 w0 R
 rw [tr_succ]
 simp only [star_assoc, nrow, kbuf, vbuf, cbuf, ncells, C.b, C.Ak, C.ck, C.Av, C.cv, C.Ac, C.cc, C.ks, C.vs, C.cs]
 refine Xx.addrT Ac (by omega) (fun bC hAc hcx hcc => ?_)
 subst hAc
 refine Cx.seq (fun K1 k1 => ?_)
 refine Cx.seq (fun K2 k2 => ?_)
 refine Cx.region <| Lx.y (mv rfl) rfl <| Lx.y (nilc rfl) rfl <| Lx.y (fa' fo113_2 rfl) rfl <| Lx.y (ld U111 rfl rfl rfl) rfl <| Lx.y (mv rfl) rfl <| Lx.y (ia U111 sz110 rfl rfl (by first | exact Int.toNat_natCast _ | rfl) (by omega) (by omega)) rfl <| Lx.y (ldC U110 rfl rfl (Cells.buf (m := 1) (kid_at hi) (by rw [List.length_map]; omega))) rfl <| Lx.y (nilc rfl) rfl <| Lx.y (fa' fo113_0 rfl) rfl <| Lx.y (ldC U23 rfl rfl (under (under (under (under (kid_keys hi)))))) rfl <| Lx.y (lenV (ty' := 0) U23 rfl) rfl <| ?_
 refine Lx.y (geq rfl rfl) rfl <| Lx.nil <| ?_
 refine Xx.tn (k2 _ _ _ _ ?_)
 refine Cx.condD rfl (fun h3 => ?_) (fun h3 => ?_)
 ·
  have h3 := h3
  have h3 : 3 ≤ cs[i].ks.length := by omega
  refine Cx.ret <| Xx.tr <| ?_
  exact Xx.ret0 rfl ⟨rfl, rfl, (.mk b Ak ck Av cv (some ⟨bC, 0, none⟩) cc ks vs cs), rfl, mend_not hok hx hi h3, fun _ => rfl⟩ (Frag.le_refl _) (by rw [← fold_tr]; ac_rfl)
 ·
  have h3 := h3
  have h3 : cs[i].ks.length < 3 := by omega
  refine Cx.skip ?_
  refine Xx.tn (k1 _ _ _ _ ?_)
  refine Cx.block ?_
  refine Cx.seq (fun K4 k4 => ?_)
  refine Cx.region <| Lx.y (mv rfl) rfl <| Lx.y (gtr rfl rfl) rfl <| Lx.y (mv rfl) rfl <| ?_
  refine Xx.ifD (t := 22) rfl (fun h5 => ?_) (fun h5 => ?_)
  ·
   have h0 := h5
   have h0 : 0 < i := by omega
   have hi1 : i - 1 < cs.length := by omega
   refine Lx.gT rfl rfl rfl <| Lx.y (mv rfl) rfl <| Lx.gT rfl rfl rfl <| Lx.y (nilc rfl) rfl <| Lx.gT rfl rfl rfl <| Lx.y (fa' fo113_2 rfl) rfl <| Lx.gT rfl rfl rfl <| Lx.y (ld U111 rfl rfl rfl) rfl <| Lx.gT rfl rfl rfl <| Lx.y (mv rfl) rfl <| Lx.gT rfl rfl rfl <| Lx.y (Yx.val (sub rfl rfl (show IntKind.i64.wrap _ = ((i - 1 : Nat) : Int) by rw [wrap64 (by omega) (by omega)]; omega)) (show _ = i64 ((i - 1 : Nat) : Int) from rfl)) rfl <| ?_
   refine Lx.gT rfl rfl rfl <| Lx.y (ia U111 sz110 rfl rfl (by first | exact Int.toNat_natCast _ | rfl) (by omega) (by omega)) rfl <| Lx.gT rfl rfl rfl <| Lx.y (ldC U110 rfl rfl (Cells.buf (m := 1) (kid_at hi1) (by rw [List.length_map]; omega))) rfl <| Lx.gT rfl rfl rfl <| Lx.y (nilc rfl) rfl <| Lx.gT rfl rfl rfl <| Lx.y (fa' fo113_0 rfl) rfl <| Lx.gT rfl rfl rfl <| Lx.y (ldC U23 rfl rfl (under (under (under (under (kid_keys hi1)))))) rfl <| Lx.gT rfl rfl rfl <| Lx.y (lenV (ty' := 0) U23 rfl) rfl <| ?_
   refine Lx.gT rfl rfl rfl <| Lx.y (gtr rfl rfl) rfl <| Lx.y (pickT rfl rfl) rfl <| Lx.y (asg rfl) rfl <| Lx.nil <| ?_
   refine Xx.tn (k4 _ _ _ _ ?_)
   refine Cx.condD rfl (fun h6 => ?_) (fun h6 => ?_)
   ·
    have h4 := h6
    have h4 : 4 ≤ cs[i - 1].ks.length := by omega
    refine Cx.region <| Lx.y (mv rfl) rfl <| Lx.y (mv rfl) rfl <| ?_
    refine Lx.c rfl rfl rfl (fl_ct2 N d hN (.mk b Ak ck Av cv (some ⟨bC, 0, none⟩) cc ks vs cs) i h0 hi hok hx h4 h3 _) ((show _ = tr (d + 2) (.mk b Ak ck Av cv (some ⟨bC, 0, none⟩) cc ks vs cs) * R by rw [← fold_tr]; ac_rfl)) rfl ?_
    rintro v1 B1 H1 ⟨rfl, hBB, c2, rfl, hm⟩ hB1
    subst hBB
    rename Frag => B
    clear hB1
    refine Lx.nil <| Xx.bn <| ?_
    exact Xx.end0 rfl ⟨rfl, rfl, c2, rfl, hm, fun h9 => absurd h9 (by show ¬ 3 ≤ cs[i].ks.length; omega)⟩ (Frag.le_refl _) rfl
   ·
    have h4 := h6
    have h4 : cs[i - 1].ks.length ≤ 3 := by omega
    refine Cx.seq (fun K7 k7 => ?_)
    refine Cx.region <| Lx.y (mv rfl) rfl <| Lx.y (mv rfl) rfl <| Lx.y (nilc rfl) rfl <| Lx.y (fa' fo113_0 rfl) rfl <| Lx.y (ld U23 rfl rfl rfl) rfl <| Lx.y (lenV (ty' := 0) U23 rfl) rfl <| Lx.y (lss rfl rfl) rfl <| Lx.y (mv rfl) rfl <| ?_
    refine Xx.ifD (t := 48) rfl (fun h8 => ?_) (fun h8 => ?_)
    ·
     have h5 := h8
     have hi2 : i + 1 < cs.length := by omega
     refine Lx.gT rfl rfl rfl <| Lx.y (mv rfl) rfl <| Lx.gT rfl rfl rfl <| Lx.y (nilc rfl) rfl <| Lx.gT rfl rfl rfl <| Lx.y (fa' fo113_2 rfl) rfl <| Lx.gT rfl rfl rfl <| Lx.y (ld U111 rfl rfl rfl) rfl <| Lx.gT rfl rfl rfl <| Lx.y (mv rfl) rfl <| Lx.gT rfl rfl rfl <| Lx.y (Yx.val (add rfl rfl (by first | exact wrap64 (by omega) (by omega) | rfl)) (show _ = i64 ((i + 1 : Nat) : Int) from rfl)) rfl <| ?_
     refine Lx.gT rfl rfl rfl <| Lx.y (ia U111 sz110 rfl rfl (by first | exact Int.toNat_natCast _ | rfl) (by omega) (by omega)) rfl <| Lx.gT rfl rfl rfl <| Lx.y (ldC U110 rfl rfl (Cells.buf (m := 1) (kid_at hi2) (by rw [List.length_map]; omega))) rfl <| Lx.gT rfl rfl rfl <| Lx.y (nilc rfl) rfl <| Lx.gT rfl rfl rfl <| Lx.y (fa' fo113_0 rfl) rfl <| Lx.gT rfl rfl rfl <| Lx.y (ldC U23 rfl rfl (under (under (under (under (kid_keys hi2)))))) rfl <| Lx.gT rfl rfl rfl <| Lx.y (lenV (ty' := 0) U23 rfl) rfl <| ?_
     refine Lx.gT rfl rfl rfl <| Lx.y (gtr rfl rfl) rfl <| Lx.y (pickT rfl rfl) rfl <| Lx.y (asg rfl) rfl <| Lx.nil <| ?_
     refine Xx.tn (k7 _ _ _ _ ?_)
     refine Cx.condD rfl (fun h9 => ?_) (fun h9 => ?_)
     ·
      have h6 := h9
      have h6 : 4 ≤ cs[i + 1].ks.length := by omega
      refine Cx.region <| Lx.y (mv rfl) rfl <| Lx.y (mv rfl) rfl <| ?_
      refine Lx.c rfl rfl rfl (fr_ct N d hN (.mk b Ak ck Av cv (some ⟨bC, 0, none⟩) cc ks vs cs) i hi2 hok hx h6 h3 _) ((show _ = tr (d + 2) (.mk b Ak ck Av cv (some ⟨bC, 0, none⟩) cc ks vs cs) * R by rw [← fold_tr]; ac_rfl)) rfl ?_
      rintro v1 B1 H1 ⟨rfl, hBB, c2, rfl, hm⟩ hB1
      subst hBB
      rename Frag => B
      clear hB1
      refine Lx.nil <| Xx.bn <| ?_
      exact Xx.end0 rfl ⟨rfl, rfl, c2, rfl, hm, fun h9 => absurd h9 (by show ¬ 3 ≤ cs[i].ks.length; omega)⟩ (Frag.le_refl _) rfl
     ·
      have h6 := h9
      have h6 : cs[i + 1].ks.length ≤ 3 := by omega
      refine Cx.seq (fun K10 k10 => ?_)
      refine Cx.region <| Lx.y (mv rfl) rfl <| Lx.y (Yx.tt (gtr rfl rfl) (decide_eq_true (by omega))) rfl <| Lx.y (asg rfl) rfl <| Lx.nil <| ?_
      refine Xx.tn (k10 _ _ _ _ ?_)
      refine Cx.condT rfl <| Cx.region <| Lx.y (mv rfl) rfl <| Lx.y (mv rfl) rfl <| Lx.y (Yx.val (sub rfl rfl (show IntKind.i64.wrap _ = ((i - 1 : Nat) : Int) by rw [wrap64 (by omega) (by omega)]; omega)) (show _ = i64 ((i - 1 : Nat) : Int) from rfl)) rfl <| ?_
      refine Lx.c rfl rfl rfl (join_ct2 N d hN (.mk b Ak ck Av cv (some ⟨bC, 0, none⟩) cc ks vs cs) i h0 hi hok hx h4 h3 _) ((show _ = tr (d + 2) (.mk b Ak ck Av cv (some ⟨bC, 0, none⟩) cc ks vs cs) * R by rw [← fold_tr]; ac_rfl)) rfl ?_
      rintro v1 B1 H1 ⟨rfl, hBB, c2, rfl, hm⟩ hB1
      subst hBB
      rename Frag => B
      clear hB1
      refine Lx.nil <| Xx.bn <| ?_
      exact Xx.end0 rfl ⟨rfl, rfl, c2, rfl, hm, fun h9 => absurd h9 (by show ¬ 3 ≤ cs[i].ks.length; omega)⟩ (Frag.le_refl _) rfl
    ·
     have h5 := h8
     refine Lx.gF rfl rfl rfl rfl <| Lx.gF rfl rfl rfl rfl <| Lx.gF rfl rfl rfl rfl <| Lx.gF rfl rfl rfl rfl <| Lx.gF rfl rfl rfl rfl <| Lx.gF rfl rfl rfl rfl <| Lx.gF rfl rfl rfl rfl <| Lx.gF rfl rfl rfl rfl <| Lx.gF rfl rfl rfl rfl <| Lx.gF rfl rfl rfl rfl <| Lx.gF rfl rfl rfl rfl <| Lx.gF rfl rfl rfl rfl <| ?_
     refine Lx.gF rfl rfl rfl rfl <| Lx.y (pickF rfl rfl) rfl <| Lx.y (asg rfl) rfl <| Lx.nil <| ?_
     refine Xx.tn (k7 _ _ _ _ ?_)
     refine Cx.condF rfl ?_
     refine Cx.seq (fun K11 k11 => ?_)
     refine Cx.region <| Lx.y (mv rfl) rfl <| Lx.y (Yx.tt (gtr rfl rfl) (decide_eq_true (by omega))) rfl <| Lx.y (asg rfl) rfl <| Lx.nil <| ?_
     refine Xx.tn (k11 _ _ _ _ ?_)
     refine Cx.condT rfl <| Cx.region <| Lx.y (mv rfl) rfl <| Lx.y (mv rfl) rfl <| Lx.y (Yx.val (sub rfl rfl (show IntKind.i64.wrap _ = ((i - 1 : Nat) : Int) by rw [wrap64 (by omega) (by omega)]; omega)) (show _ = i64 ((i - 1 : Nat) : Int) from rfl)) rfl <| ?_
     refine Lx.c rfl rfl rfl (join_ct2 N d hN (.mk b Ak ck Av cv (some ⟨bC, 0, none⟩) cc ks vs cs) i h0 hi hok hx h4 h3 _) ((show _ = tr (d + 2) (.mk b Ak ck Av cv (some ⟨bC, 0, none⟩) cc ks vs cs) * R by rw [← fold_tr]; ac_rfl)) rfl ?_
     rintro v1 B1 H1 ⟨rfl, hBB, c2, rfl, hm⟩ hB1
     subst hBB
     rename Frag => B
     clear hB1
     refine Lx.nil <| Xx.bn <| ?_
     exact Xx.end0 rfl ⟨rfl, rfl, c2, rfl, hm, fun h9 => absurd h9 (by show ¬ 3 ≤ cs[i].ks.length; omega)⟩ (Frag.le_refl _) rfl
  ·
   have h0 := h5
   have h0 : i = 0 := by omega
   refine Lx.gF rfl rfl rfl rfl <| Lx.gF rfl rfl rfl rfl <| Lx.gF rfl rfl rfl rfl <| Lx.gF rfl rfl rfl rfl <| Lx.gF rfl rfl rfl rfl <| Lx.gF rfl rfl rfl rfl <| Lx.gF rfl rfl rfl rfl <| Lx.gF rfl rfl rfl rfl <| Lx.gF rfl rfl rfl rfl <| Lx.gF rfl rfl rfl rfl <| Lx.gF rfl rfl rfl rfl <| Lx.gF rfl rfl rfl rfl <| ?_
   refine Lx.gF rfl rfl rfl rfl <| Lx.y (pickF rfl rfl) rfl <| Lx.y (asg rfl) rfl <| Lx.nil <| ?_
   refine Xx.tn (k4 _ _ _ _ ?_)
   refine Cx.condF rfl ?_
   refine Cx.seq (fun K12 k12 => ?_)
   refine Cx.region <| Lx.y (mv rfl) rfl <| Lx.y (mv rfl) rfl <| Lx.y (nilc rfl) rfl <| Lx.y (fa' fo113_0 rfl) rfl <| Lx.y (ld U23 rfl rfl rfl) rfl <| Lx.y (lenV (ty' := 0) U23 rfl) rfl <| Lx.y (lss rfl rfl) rfl <| Lx.y (mv rfl) rfl <| ?_
   refine Xx.ifD (t := 48) rfl (fun h13 => ?_) (fun h13 => ?_)
   ·
    have h5 := h13
    have hi2 : i + 1 < cs.length := by omega
    refine Lx.gT rfl rfl rfl <| Lx.y (mv rfl) rfl <| Lx.gT rfl rfl rfl <| Lx.y (nilc rfl) rfl <| Lx.gT rfl rfl rfl <| Lx.y (fa' fo113_2 rfl) rfl <| Lx.gT rfl rfl rfl <| Lx.y (ld U111 rfl rfl rfl) rfl <| Lx.gT rfl rfl rfl <| Lx.y (mv rfl) rfl <| Lx.gT rfl rfl rfl <| Lx.y (Yx.val (add rfl rfl (by first | exact wrap64 (by omega) (by omega) | rfl)) (show _ = i64 ((i + 1 : Nat) : Int) from rfl)) rfl <| ?_
    refine Lx.gT rfl rfl rfl <| Lx.y (ia U111 sz110 rfl rfl (by first | exact Int.toNat_natCast _ | rfl) (by omega) (by omega)) rfl <| Lx.gT rfl rfl rfl <| Lx.y (ldC U110 rfl rfl (Cells.buf (m := 1) (kid_at hi2) (by rw [List.length_map]; omega))) rfl <| Lx.gT rfl rfl rfl <| Lx.y (nilc rfl) rfl <| Lx.gT rfl rfl rfl <| Lx.y (fa' fo113_0 rfl) rfl <| Lx.gT rfl rfl rfl <| Lx.y (ldC U23 rfl rfl (under (under (under (under (kid_keys hi2)))))) rfl <| Lx.gT rfl rfl rfl <| Lx.y (lenV (ty' := 0) U23 rfl) rfl <| ?_
    refine Lx.gT rfl rfl rfl <| Lx.y (gtr rfl rfl) rfl <| Lx.y (pickT rfl rfl) rfl <| Lx.y (asg rfl) rfl <| Lx.nil <| ?_
    refine Xx.tn (k12 _ _ _ _ ?_)
    refine Cx.condD rfl (fun h14 => ?_) (fun h14 => ?_)
    ·
     have h6 := h14
     have h6 : 4 ≤ cs[i + 1].ks.length := by omega
     refine Cx.region <| Lx.y (mv rfl) rfl <| Lx.y (mv rfl) rfl <| ?_
     refine Lx.c rfl rfl rfl (fr_ct N d hN (.mk b Ak ck Av cv (some ⟨bC, 0, none⟩) cc ks vs cs) i hi2 hok hx h6 h3 _) ((show _ = tr (d + 2) (.mk b Ak ck Av cv (some ⟨bC, 0, none⟩) cc ks vs cs) * R by rw [← fold_tr]; ac_rfl)) rfl ?_
     rintro v1 B1 H1 ⟨rfl, hBB, c2, rfl, hm⟩ hB1
     subst hBB
     rename Frag => B
     clear hB1
     refine Lx.nil <| Xx.bn <| ?_
     exact Xx.end0 rfl ⟨rfl, rfl, c2, rfl, hm, fun h9 => absurd h9 (by show ¬ 3 ≤ cs[i].ks.length; omega)⟩ (Frag.le_refl _) rfl
    ·
     have h6 := h14
     have h6 : cs[i + 1].ks.length ≤ 3 := by omega
     refine Cx.seq (fun K15 k15 => ?_)
     refine Cx.region <| Lx.y (mv rfl) rfl <| Lx.y (Yx.ff (gtr rfl rfl) (decide_eq_false (by omega))) rfl <| Lx.y (asg rfl) rfl <| Lx.nil <| ?_
     refine Xx.tn (k15 _ _ _ _ ?_)
     refine Cx.condF rfl <| Cx.region <| Lx.y (mv rfl) rfl <| Lx.y (mv rfl) rfl <| ?_
     refine Lx.c rfl rfl rfl (join_ct N d hN (.mk b Ak ck Av cv (some ⟨bC, 0, none⟩) cc ks vs cs) i i hi2 hok hx (.inl rfl) (show cs[i].ks.length + cs[i + 1].ks.length ≤ 6 by omega) _) ((show _ = tr (d + 2) (.mk b Ak ck Av cv (some ⟨bC, 0, none⟩) cc ks vs cs) * R by rw [← fold_tr]; ac_rfl)) rfl ?_
     rintro v1 B1 H1 ⟨rfl, hBB, c2, rfl, hm⟩ hB1
     subst hBB
     rename Frag => B
     clear hB1
     refine Lx.nil <| Xx.bn <| ?_
     exact Xx.end0 rfl ⟨rfl, rfl, c2, rfl, hm, fun h9 => absurd h9 (by show ¬ 3 ≤ cs[i].ks.length; omega)⟩ (Frag.le_refl _) rfl
   ·
    exact absurd h13 (by omega)
def LastQ (N d : Nat) (c : C) (B : Frag) (r : Value) (B' : Frag) (H' : HP) : Prop := B' = B ∧ ∃ c' k v, r = .tuple #[str k, str v] ∧ H' = tr (d + 1) c' ∧ LastR N d c c' k v
abbrev LastC (N d : Nat) (c : C) (B : Frag) : Prop := Ct Tryz.prog 85 [.pointer (some ⟨c.b, 0, none⟩)] B (tr (d + 1) c) (LastQ N d c B)
set_option maxHeartbeats 4000000 in
theorem last_step (N d : Nat) (hN : N ≤ 90) (c : C) (B : Frag) (hok : Ok N (d + 1) c) (hmn : Mn (d + 1) c) (hp : 0 < c.ks.length) (ih : ∀ (h : c.ks.length < c.cs.length), ∃ d2, d = d2 + 1 ∧ LastC 7 d2 c.cs[c.ks.length] B) : LastC N d c B := by
 have hcl := hok.2.2.1
 have hkN := hok.2.1
 have hvl := hok.1
 obtain ⟨b, Ak, ck, Av, cv, Ac, cc, ks, vs, cs⟩ := c
 unfold LastC
 simp only [C.b, C.ks, C.vs, C.cs] at hp hcl hkN hvl ih ⊢
 refine Ct.of_body Tryz.func85 rfl (nt := 78) rfl (by kernel_rfl) rfl ?_
 intro N0 w0 R
 rw [tr_succ]
 simp only [star_assoc, nrow, kbuf, vbuf, cbuf, ncells, C.b, C.Ak, C.ck, C.Av, C.cv, C.Ac, C.cc, C.ks, C.vs, C.cs]
 refine Cx.seq (fun K1 k1 => ?_)
 refine Cx.region <| Lx.y (asg rfl) rfl <| Lx.y (asg rfl) rfl <| Lx.nil <| ?_
 refine Xx.tn (k1 _ _ _ _ ?_)
 refine Cx.seq (fun K2 k2 => ?_)
 refine Cx.seq (fun K3 k3 => ?_)
 refine Cx.region <| Lx.y (mv rfl) rfl <| Lx.y (nilc rfl) rfl <| Lx.y (fa' fo113_2 rfl) rfl <| Lx.y (ld U111 rfl rfl rfl) rfl <| Lx.y (lenV (ty' := 0) U111 rfl) rfl <| Lx.y (gtr rfl rfl) rfl <| Lx.nil <| ?_
 refine Xx.tn (k3 _ _ _ _ ?_)
 refine Cx.condD rfl (fun h4 => ?_) (fun h4 => ?_)
 ·
  have hz := h4
  have hcl2 : cs.length = ks.length + 1 := by rcases hcl with z | z; rw [z] at hz; simp at hz; exact z
  have hci : ks.length < cs.length := by omega
  obtain ⟨d2, hd2, hlast⟩ := ih hci
  subst hd2
  refine Xx.addrT Ac (by omega) (fun bC hAc hcx hcc => ?_)
  subst hAc
  refine Cx.seq (fun K5 k5 => ?_)
  refine Cx.region <| Lx.y (mv rfl) rfl <| Lx.y (nilc rfl) rfl <| Lx.y (fa' fo113_2 rfl) rfl <| Lx.y (ld U111 rfl rfl rfl) rfl <| Lx.y (lenV (ty' := 0) U111 rfl) rfl <| Lx.y (Yx.val (sub rfl rfl (show IntKind.i64.wrap _ = ((ks.length : Nat) : Int) by rw [wrap64 (by omega) (by omega)]; omega)) (show _ = i64 ((ks.length : Nat) : Int) from rfl)) rfl <| Lx.y (asg rfl) rfl <| Lx.nil <| ?_
  refine Xx.tn (k5 _ _ _ _ ?_)
  refine Cx.seq (fun K6 k6 => ?_)
  refine Cx.region <| Lx.y (mv rfl) rfl <| Lx.y (nilc rfl) rfl <| Lx.y (fa' fo113_2 rfl) rfl <| Lx.y (ld U111 rfl rfl rfl) rfl <| Lx.y (mv rfl) rfl <| Lx.y (ia U111 sz110 rfl rfl (by first | exact Int.toNat_natCast _ | rfl) (by omega) (by omega)) rfl <| Lx.y (ldC U110 rfl rfl (Cells.buf (m := 1) (kid_at hci) (by rw [List.length_map]; omega))) rfl <| ?_
  refine Lx.c rfl rfl rfl (hlast) (fold_kid hci) rfl ?_
  rintro r B1 H1 ⟨hBB, kid2, lk9, lv9, rfl, rfl, hkr⟩ hB1
  subst hBB
  rename Frag => B
  clear hB1
  obtain ⟨x1, x2, x3⟩ := kid_last (x := .mk b Ak ck Av cv (some ⟨bC, 0, none⟩) cc ks vs (cs.set ks.length kid2)) hok hmn hci hkr rfl rfl rfl
  refine Lx.y (mv rfl) rfl <| Lx.y (ext rfl rfl) rfl <| Lx.y (ext rfl rfl) rfl <| Lx.y (asg rfl) rfl <| Lx.y (asg rfl) rfl <| Lx.nil <| ?_
  refine Xx.tn (k6 _ _ _ _ ?_)
  refine Cx.seq (fun K7 k7 => ?_)
  refine Cx.region <| Lx.y (mv rfl) rfl <| Lx.y (mv rfl) rfl <| ?_
  refine Lx.c rfl rfl rfl (mend_ct N d2 hN (.mk b Ak ck Av cv (some ⟨bC, 0, none⟩) cc ks vs (cs.set ks.length kid2)) ks.length _ (by show ks.length < (cs.set _ _).length; rw [List.length_set]; exact hci) x1 x2 hp) ((show _ = tr (d2 + 2) (.mk b Ak ck Av cv (some ⟨bC, 0, none⟩) cc ks vs (cs.set ks.length kid2)) * R by rw [← fold_tr, trs_set _ hci, pts_set hkr.1, List.length_set]; ac_rfl)) rfl ?_
  rintro v1 B1 H1 ⟨rfl, hBB, c2, rfl, hm, _⟩ hB1
  subst hBB
  rename Frag => B
  clear hB1
  refine Lx.nil ?_
  refine Xx.tn (k7 _ _ _ _ ?_)
  refine Cx.seq (fun K8 k8 => ?_)
  refine Cx.region <| Lx.y (mv rfl) rfl <| Lx.y (mv rfl) rfl <| Lx.y (asg rfl) rfl <| Lx.y (asg rfl) rfl <| Lx.nil <| ?_
  refine Xx.tn (k8 _ _ _ _ ?_)
  refine Cx.ret <| Xx.tr <| ?_
  exact Xx.ret2 rfl rfl rfl ⟨rfl, c2, lk9, lv9, rfl, rfl, LastR.of (x := .mk b Ak ck Av cv (some ⟨bC, 0, none⟩) cc ks vs (cs.set ks.length kid2)) rfl x3 rfl hm⟩ (Frag.le_refl _) rfl
 ·
  have hz := h4
  have hc0 : cs = [] := List.length_eq_zero_iff.1 (by omega)
  subst hc0
  refine Xx.addrT Ak hp (fun bK hAk _ _ => ?_)
  subst hAk
  refine Xx.addrT Av (by omega) (fun bV hAv _ _ => ?_)
  subst hAv
  refine Cx.skip ?_
  refine Xx.tn (k2 _ _ _ _ ?_)
  refine Cx.seq (fun K9 k9 => ?_)
  refine Cx.region <| Lx.y (mv rfl) rfl <| Lx.y (nilc rfl) rfl <| Lx.y (fa' fo113_0 rfl) rfl <| Lx.y (ld U23 rfl rfl rfl) rfl <| Lx.y (lenV (ty' := 0) U23 rfl) rfl <| Lx.y (Yx.val (sub rfl rfl (show IntKind.i64.wrap _ = ((ks.length - 1 : Nat) : Int) by rw [wrap64 (by omega) (by omega)]; omega)) (show _ = i64 ((ks.length - 1 : Nat) : Int) from rfl)) rfl <| Lx.y (asg rfl) rfl <| Lx.nil <| ?_
  refine Xx.tn (k9 _ _ _ _ ?_)
  refine Cx.seq (fun K10 k10 => ?_)
  refine Cx.drawn (by kernel_rfl) ?_
  refine Dx.p (i := 0) rfl (by kernel_rfl) (mv rfl) rfl ?_
  refine Dx.p (i := 1) rfl (by kernel_rfl) (nilc rfl) rfl ?_
  refine Dx.p (i := 2) rfl (by kernel_rfl) (fa' fo113_0 rfl) rfl ?_
  refine Dx.r (i := 3) rfl (by kernel_rfl) (ld U23 rfl rfl rfl) rfl ?_
  refine Dx.p (i := 4) rfl (by kernel_rfl) (mv rfl) rfl ?_
  refine Dx.p (i := 5) rfl (by kernel_rfl) (ia U23 sz9 rfl rfl (by first | exact Int.toNat_natCast _ | rfl) (by omega) (by omega)) rfl ?_
  refine Dx.r (i := 6) rfl (by kernel_rfl) (ldC U9 rfl rfl (Cells.buf (m := 1) (str_get (i := ks.length - 1) (by omega)) (by rw [List.length_map]; omega))) rfl ?_
  refine Dx.p (i := 7) rfl (by kernel_rfl) (mv rfl) rfl ?_
  refine Dx.p (i := 8) rfl (by kernel_rfl) (nilc rfl) rfl ?_
  refine Dx.p (i := 9) rfl (by kernel_rfl) (fa' fo113_1 rfl) rfl ?_
  refine Dx.r (i := 10) rfl (by kernel_rfl) (ld U23 rfl rfl rfl) rfl ?_
  refine Dx.p (i := 11) rfl (by kernel_rfl) (mv rfl) rfl ?_
  refine Dx.p (i := 12) rfl (by kernel_rfl) (ia U23 sz9 rfl rfl (by first | exact Int.toNat_natCast _ | rfl) (by omega) (by omega)) rfl ?_
  refine Dx.r (i := 13) rfl (by kernel_rfl) (ldC U9 rfl rfl (Cells.buf (m := 1) (str_get (i := ks.length - 1) (by omega)) (by rw [List.length_map]; omega))) rfl ?_
  refine Dx.p (i := 14) rfl (by kernel_rfl) (asg rfl) rfl ?_
  refine Dx.p (i := 15) rfl (by kernel_rfl) (asg rfl) rfl ?_
  refine Dx.done (by kernel_rfl) ?_
  refine Xx.tn (k10 _ _ _ _ ?_)
  refine Cx.seq (fun K11 k11 => ?_)
  refine Cx.drawn (by kernel_rfl) ?_
  refine Dx.p (i := 0) rfl (by kernel_rfl) (mv rfl) rfl ?_
  refine Dx.p (i := 1) rfl (by kernel_rfl) (mv rfl) rfl ?_
  refine Dx.p (i := 2) rfl (by kernel_rfl) (mv rfl) rfl ?_
  refine Dx.p (i := 3) rfl (by kernel_rfl) (nilc rfl) rfl ?_
  refine Dx.p (i := 4) rfl (by kernel_rfl) (fa' fo113_0 rfl) rfl ?_
  refine Dx.r (i := 5) rfl (by kernel_rfl) (ld U23 rfl rfl rfl) rfl ?_
  refine Dx.p (i := 6) rfl (by kernel_rfl) (mv rfl) rfl ?_
  refine Dx.p (i := 7) rfl (by kernel_rfl) (sl2V U23 sz9 rfl rfl (by first | exact Int.toNat_natCast _ | rfl) (by omega) (by omega)) rfl ?_
  refine Dx.p (i := 8) rfl (by kernel_rfl) (mv rfl) rfl ?_
  refine Dx.p (i := 9) rfl (by kernel_rfl) (nilc rfl) rfl ?_
  refine Dx.p (i := 10) rfl (by kernel_rfl) (fa' fo113_1 rfl) rfl ?_
  refine Dx.r (i := 11) rfl (by kernel_rfl) (ld U23 rfl rfl rfl) rfl ?_
  refine Dx.p (i := 12) rfl (by kernel_rfl) (mv rfl) rfl ?_
  refine Dx.p (i := 13) rfl (by kernel_rfl) (sl2V U23 sz9 rfl rfl (by first | exact Int.toNat_natCast _ | rfl) (by omega) (by omega)) rfl ?_
  refine Dx.p (i := 14) rfl (by kernel_rfl) (nilc rfl) rfl ?_
  refine Dx.p (i := 15) rfl (by kernel_rfl) (fa' fo113_0 rfl) rfl ?_
  refine Dx.one (i := 16) (by kernel_rfl) ?_
  refine Dstep.o0 (i := 16) rfl (stO U23 sz23 rfl rfl rfl (by simp) rfl) (fun v B' H' hΦ hB => ?_)
  obtain ⟨rfl, rfl⟩ := hΦ; clear hB v
  refine ⟨JOk.edge (JOk.edge (JOk.top) (by kernel_rfl)) (by kernel_rfl), ?_⟩
  refine Dx.p (i := 17) rfl (by kernel_rfl) (nilc rfl) rfl ?_
  refine Dx.p (i := 18) rfl (by kernel_rfl) (fa' fo113_1 rfl) rfl ?_
  refine Dx.one (i := 19) (by kernel_rfl) ?_
  refine Dstep.o0 (i := 19) rfl (stO U23 sz23 rfl rfl rfl (by simp) rfl) (fun v B' H' hΦ hB => ?_)
  obtain ⟨rfl, rfl⟩ := hΦ; clear hB v
  refine ⟨JOk.edge (JOk.edge (JOk.top) (by kernel_rfl)) (by kernel_rfl), ?_⟩
  refine Dx.done (by kernel_rfl) ?_
  refine Xx.tn (k11 _ _ _ _ ?_)
  refine Cx.seq (fun K12 k12 => ?_)
  refine Cx.region <| Lx.y (mv rfl) rfl <| Lx.y (mv rfl) rfl <| Lx.y (asg rfl) rfl <| Lx.y (asg rfl) rfl <| Lx.nil <| ?_
  refine Xx.tn (k12 _ _ _ _ ?_)
  refine Cx.ret ?_
  refine Xx.lessT bK (ks.length - 1) (by omega) ?_
  refine Xx.lessT bV (ks.length - 1) (by omega) ?_
  exact Xx.ret2 rfl rfl rfl ⟨rfl, .mk b (some ⟨bK, 0, none⟩) ck (some ⟨bV, 0, none⟩) cv Ac cc (ks.take (ks.length - 1)) (vs.take (ks.length - 1)) [], ks.getD (ks.length - 1) [], vs.getD (ks.length - 1) [], rfl, rfl, leaf_last hok hmn rfl hp rfl rfl rfl rfl⟩ (Frag.le_refl _) (by rw [← fold_tr, show (ks.take (ks.length - 1)).length = ks.length - 1 by simp, show (vs.take (ks.length - 1)).length = ks.length - 1 by simp; omega]; simp only [Nat.mul_one, List.map_take]; ac_rfl)
theorem last_ct (N : Nat) (hN : N ≤ 90) (B : Frag) : ∀ (d : Nat) (c : C) (M : Nat), M ≤ N → 7 ≤ N → Ok M (d + 1) c → Mn (d + 1) c → 0 < c.ks.length → LastC M d c B := by
  intro d
  induction d with
  | zero =>
    intro c M hM h7 hok hmn hp
    refine last_step M 0 (by omega) c B hok hmn hp (fun h => ?_)
    have hk := hok.2.2.2 _ (List.getElem_mem h)
    exact hk.elim
  | succ d ih =>
    intro c M hM h7 hok hmn hp
    refine last_step M (d + 1) (by omega) c B hok hmn hp (fun h => ⟨d, rfl, ?_⟩)
    have hk := hok.2.2.2 _ (List.getElem_mem h)
    have hm := hmn.2 _ (List.getElem_mem h)
    exact ih _ 7 h7 h7 (Ok.of1 hk) hm.2 (by omega)
end DrD
end Go.Proofs.YtdidpocakipinaaGreatDoor
namespace Go.Proofs.YtdidpocakipinaaGreatDoor
open Go.SL Go.RowKit
set_option maxRecDepth 100000
open Ke1 Ke3 Ke4 Ke5 Ke6 Ke7 Ke8 Ke9 KeA KeB KeC KeD KeE KeF KeG KeI RgA BtB BtC BtD BtE BtG BtH BtI BtF BtJ BtK BtL BtM BtN BtX
namespace BtQ
def kv (p : Str8 × Str8) : List Value := [str p.1, str p.2]
def RgV (B : Frag) (p : Option Addr) (lo hi : Str8) (v : Value) : Prop := ∃ b1 b2, v = .func (.func 87) #[] [.pointer (some ⟨b1, 0, none⟩), .pointer (some ⟨b2, 0, none⟩)].toArray ∧ B b1 = some (.cells [.pointer p].toArray 83 (0, 0)) ∧ B b2 = some (.cells [str lo, str hi].toArray 48 (0, 0))
set_option maxHeartbeats 1000000 in
theorem Range_ct (p : Option Addr) (lo hi : Str8) (B : Frag) : CtB Tryz.prog 69 [.pointer p, .agg [str lo, str hi].toArray] B (fun v B' => RgV B' p lo hi v) := by
 refine CtB.of_body Tryz.func69 rfl (nt := 6) rfl (by kernel_rfl) rfl ?_
 intro N0 w0 R
 refine Cx.seq (fun K1 k1 => ?_)
 refine Cx.region ?_
 refine Lx.new (boxO rfl rfl) rfl (fun b1 => ?_)
 refine Lx.new (boxA rfl) rfl (fun b2 => ?_)
 refine Lx.y (asg rfl) rfl <| Lx.nil <| ?_
 refine Xx.tn (k1 _ _ _ _ ?_)
 refine Cx.seq (fun K2 k2 => ?_)
 refine Cx.region <| Lx.y (mkf rfl rfl) rfl <| Lx.y (asg rfl) rfl <| Lx.nil <| ?_
 refine Xx.tn (k2 _ _ _ _ ?_)
 refine Cx.ret ?_
 refine Xx.freezeB b1 fun B2 hB2 hb1 => ?_
 refine Xx.freezeB b2 fun B3 hB3 hb2 => ?_
 exact Xx.rB1 rfl rfl ⟨b1, b2, rfl, hB3 _ _ hb1, hb2⟩ (Frag.le_trans hB2 hB3) rfl
end BtQ
end Go.Proofs.YtdidpocakipinaaGreatDoor
namespace Go.Proofs.YtdidpocakipinaaGreatDoor
open Go.SL Go.RowKit
set_option maxRecDepth 100000
open Ke1 Ke3 Ke4 Ke5 Ke6 Ke7 Ke8 Ke9 KeA KeB KeC KeD KeE KeF KeG KeI RgA BtB BtC BtD BtE BtG BtH BtI BtF BtJ BtK BtL BtM BtN BtQ BtX
namespace BtR
theorem sz9 : (Tryz.prog.info? 9).map (·.size) = some 1 := by kernel_rfl
theorem sz110 : (Tryz.prog.info? 110).map (·.size) = some 1 := by kernel_rfl
theorem fo113_0 : FO Tryz.prog 113 0 0 1 false := FO.of U113 rfl rfl (by kernel_rfl) U23 rfl rfl
theorem fo113_1 : FO Tryz.prog 113 1 1 1 false := FO.of U113 rfl rfl (by kernel_rfl) U23 rfl rfl
theorem fo113_2 : FO Tryz.prog 113 2 2 1 false := FO.of U113 rfl rfl (by kernel_rfl) U111 rfl rfl
def fromL (lo : Str8) (l : List (Str8 × Str8)) : List (Str8 × Str8) := l.filter fun p => !bless p.1 lo
theorem fromL_app (lo : Str8) (a b : List (Str8 × Str8)) : fromL lo (a ++ b) = fromL lo a ++ fromL lo b := List.filter_append ..
theorem fromL_cons {lo : Str8} {p : Str8 × Str8} {l : List (Str8 × Str8)} (h : bless p.1 lo = false) : fromL lo (p :: l) = p :: fromL lo l := by
  unfold fromL; rw [List.filter_cons_of_pos (by simp [h])]
theorem fromL_none {lo : Str8} {l : List (Str8 × Str8)} (h : ∀ p ∈ l, bless p.1 lo = true) : fromL lo l = [] := by
  unfold fromL; rw [List.filter_eq_nil_iff]; intro p hp; simp [h p hp]
theorem io_cut (f : C → List (Str8 × Str8)) : ∀ (i : Nat) (ks vs : List Str8) (cs : List C), vs.length = ks.length → (cs = [] ∨ cs.length = ks.length + 1) → (hi : i ≤ ks.length) →
    ∃ A, ioL f ks vs cs = A ++ ioL f (ks.drop i) (vs.drop i) (cs.drop i) ∧ ((i = 0 ∧ A = []) ∨ ∃ A' v, ∃ h : i - 1 < ks.length, 0 < i ∧ A = A' ++ [(ks[i - 1], v)]) := by
  intro i
  induction i with
  | zero => intro ks vs cs _ _ _; exact ⟨[], rfl, .inl ⟨rfl, rfl⟩⟩
  | succ i ih =>
    intro ks vs cs hv hc hi
    cases ks with
    | nil => simp at hi
    | cons k ks => cases vs with
      | nil => simp at hv
      | cons v vs =>
        have hv' : vs.length = ks.length := by simpa using hv
        have hi' : i ≤ ks.length := by simpa using hi
        have fin : ∀ (pre A : List (Str8 × Str8)), ((i = 0 ∧ A = []) ∨ ∃ A' v, ∃ h : i - 1 < ks.length, 0 < i ∧ A = A' ++ [(ks[i - 1], v)]) → ∃ A' v', ∃ h : i + 1 - 1 < (k :: ks).length, 0 < i + 1 ∧ pre ++ (k, v) :: A = A' ++ [((k :: ks)[i + 1 - 1], v')] := by
          intro pre A hA
          rcases hA with ⟨rfl, rfl⟩ | ⟨A', v', h, h0, rfl⟩
          · exact ⟨pre, v, by simp, by omega, rfl⟩
          · refine ⟨pre ++ (k, v) :: A', v', by simp; omega, by omega, ?_⟩
            obtain ⟨i, rfl⟩ : ∃ i', i = i' + 1 := ⟨i - 1, by omega⟩
            simp
        cases cs with
        | nil =>
          obtain ⟨A, e, hA⟩ := ih ks vs [] hv' (.inl rfl) hi'
          refine ⟨(k, v) :: A, ?_, .inr ?_⟩
          · show (k, v) :: ioL f ks vs [] = _
            rw [e]; simp
          · simpa using fin [] A hA
        | cons c cs =>
          have hc' : cs.length = ks.length + 1 := by simpa using hc
          obtain ⟨A, e, hA⟩ := ih ks vs cs hv' (.inr hc') hi'
          refine ⟨f c ++ (k, v) :: A, ?_, .inr (fin (f c) A hA)⟩
          show f c ++ (k, v) :: ioL f ks vs cs = _
          rw [e]; simp
theorem from_start {N d : Nat} {nd : C} {lo : Str8} (hok : Ok N (d + 1) nd) (ho : Ord (io (d + 1) nd)) : fromL lo (io (d + 1) nd) = fromL lo (ioL (io d) (nd.ks.drop (lb nd.ks lo)) (nd.vs.drop (lb nd.ks lo)) (nd.cs.drop (lb nd.ks lo))) := by
  have hs := srt_of hok ho
  obtain ⟨A, e, hA⟩ := io_cut (io d) (lb nd.ks lo) nd.ks nd.vs nd.cs hok.1 hok.2.2.1 (lb_le _ _)
  have e' : io (d + 1) nd = A ++ ioL (io d) (nd.ks.drop (lb nd.ks lo)) (nd.vs.drop (lb nd.ks lo)) (nd.cs.drop (lb nd.ks lo)) := e
  rw [e'] at ho ⊢
  rw [fromL_app, fromL_none, List.nil_append]
  rcases hA with ⟨_, rfl⟩ | ⟨A', v, h, h0, rfl⟩
  · intro p hp; cases hp
  · have hk := (lb_spec (t := lo) hs).1 (lb nd.ks lo - 1) h (by omega)
    intro p hp
    rcases List.mem_append.1 hp with hp | hp
    · exact bless_trans (Ord.cross (Ord.left ho) p hp _ (List.mem_singleton.2 rfl)) hk
    · rw [List.mem_singleton.1 hp]; exact hk
def tl (f : C → List (Str8 × Str8)) (ks vs : List Str8) (cs : List C) (j : Nat) : List (Str8 × Str8) := match ks.drop j, vs.drop j with
  | k :: ks', v :: vs' => (k, v) :: ioL f ks' vs' (cs.drop (j + 1))
  | _, _ => []
theorem tl_lt {f : C → List (Str8 × Str8)} {ks vs : List Str8} {cs : List C} {j : Nat} (h : j < ks.length) (hv : j < vs.length) : tl f ks vs cs j = (ks[j], vs[j]) :: ioL f (ks.drop (j + 1)) (vs.drop (j + 1)) (cs.drop (j + 1)) := by
  unfold tl; rw [List.drop_eq_getElem_cons h, List.drop_eq_getElem_cons hv]
theorem tl_ge {f : C → List (Str8 × Str8)} {ks vs : List Str8} {cs : List C} {j : Nat} (h : ks.length ≤ j) : tl f ks vs cs j = [] := by
  unfold tl; rw [List.drop_of_length_le h]
theorem tl_kid {f : C → List (Str8 × Str8)} {ks vs : List Str8} {cs : List C} {j : Nat} (hv : vs.length = ks.length) (hc : cs.length = ks.length + 1) (h : j < cs.length) : ioL f (ks.drop j) (vs.drop j) (cs.drop j) = f cs[j] ++ tl f ks vs cs j := by
  by_cases hj : j < ks.length
  · rw [tl_lt hj (by omega), List.drop_eq_getElem_cons hj, List.drop_eq_getElem_cons (l := vs) (by omega), List.drop_eq_getElem_cons h]; rfl
  · rw [tl_ge (by omega), List.drop_of_length_le (l := ks) (by omega), List.drop_of_length_le (l := vs) (by omega), List.drop_eq_getElem_cons h, List.append_nil]; rfl
theorem tl_leaf {f : C → List (Str8 × Str8)} {ks vs : List Str8} {j : Nat} (hv : vs.length = ks.length) : ioL f (ks.drop j) (vs.drop j) (([] : List C).drop j) = tl f ks vs [] j := by
  by_cases hj : j < ks.length
  · rw [tl_lt hj (by omega), List.drop_eq_getElem_cons hj, List.drop_eq_getElem_cons (l := vs) (by omega), List.drop_nil, List.drop_nil]; rfl
  · rw [tl_ge (by omega), List.drop_of_length_le (l := ks) (by omega), List.drop_of_length_le (l := vs) (by omega), List.drop_nil]; rfl
theorem rest_end {f : C → List (Str8 × Str8)} {ks vs : List Str8} {cs : List C} {j : Nat} (hv : vs.length = ks.length) (hc : cs = [] ∨ cs.length = ks.length + 1) (h : ks.length < j) : ioL f (ks.drop j) (vs.drop j) (cs.drop j) = [] := by
  rw [List.drop_of_length_le (l := ks) (by omega), List.drop_of_length_le (l := vs) (by omega), List.drop_of_length_le (l := cs) (by rcases hc with rfl | hc; simp; omega)]; rfl
theorem kid_ord {N d : Nat} {nd : C} {j : Nat} (hok : Ok N (d + 1) nd) (ho : Ord (io (d + 1) nd)) (hc : nd.cs.length = nd.ks.length + 1) (h : j < nd.cs.length) : Ord (io d nd.cs[j]) := by
  have e := io_split (io d) j nd.ks nd.vs nd.cs h hok.1 hc
  have ho' : Ord (ioL (io d) nd.ks nd.vs nd.cs) := ho
  rw [e] at ho'
  exact Ord.left (Ord.right ho')
def FrV (b1 b2 : Nat) : Value := .func (.func 105) #[] [.pointer (some ⟨b1, 0, none⟩), .pointer (some ⟨b2, 0, none⟩)].toArray
abbrev FromIt (d : Nat) (nd : C) (lo : Str8) (b1 b2 : Nat) (B : Frag) : Prop := It Tryz.prog 105 [.pointer (some ⟨b1, 0, none⟩), .pointer (some ⟨b2, 0, none⟩)] kv (fromL lo (io d nd)) B (row b1 110 [pt nd] * row b2 9 [str lo])
set_option maxHeartbeats 1000000 in
theorem From_ct (nd : C) (lo : Str8) (B : Frag) : Ct Tryz.prog 88 [.pointer (some ⟨nd.b, 0, none⟩), str lo] B 1 (fun v B' H' => B' = B ∧ ∃ b1 b2, v = FrV b1 b2 ∧ H' = row b1 110 [pt nd] * row b2 9 [str lo]) := by
 refine Ct.of_body Tryz.func88 rfl (nt := 6) rfl (by kernel_rfl) rfl ?_
 intro N0 w0 R
 rw [one_star]
 refine Cx.seq (fun K1 k1 => ?_)
 refine Cx.region ?_
 refine Lx.new (boxO rfl rfl) rfl (fun b1 => ?_)
 refine Lx.new (boxO rfl rfl) rfl (fun b2 => ?_)
 refine Lx.y (asg rfl) rfl <| Lx.nil <| ?_
 refine Xx.tn (k1 _ _ _ _ ?_)
 refine Cx.seq (fun K2 k2 => ?_)
 refine Cx.region <| Lx.y (mkf rfl rfl) rfl <| Lx.y (asg rfl) rfl <| Lx.nil <| ?_
 refine Xx.tn (k2 _ _ _ _ ?_)
 refine Cx.ret ?_
 exact Xx.ret1 rfl rfl ⟨rfl, b1, b2, rfl, rfl⟩ (Frag.le_refl _) (by ac_rfl)
set_option maxHeartbeats 4000000 in
theorem From_step (d : Nat) (ih : ∀ (nd : C) (lo : Str8) (b1 b2 : Nat) (B : Frag), TrB B d nd → Ok 90 d nd → Ord (io d nd) → FromIt d nd lo b1 b2 B) (nd : C) (lo : Str8) (b1 b2 : Nat) (B : Frag) (hR : TrB B (d + 1) nd) (hok : Ok 90 (d + 1) nd) (ho : Ord (io (d + 1) nd)) : FromIt (d + 1) nd lo b1 b2 B := by
 refine ⟨Go.SL.enters_of Tryz.func105 rfl (by kernel_rfl), fun lp J Jx hy Bz Hz hBz hJ0 => ?_⟩
 have hs := srt_of hok ho
 have hst := from_start (lo := lo) hok ho
 have hvl := hok.1
 have hkl := hok.2.1
 have hcl := hok.2.2.1
 have hlb := lb_le nd.ks lo
 obtain ⟨⟨fz, hqn⟩, hRk, hRv, hRc, hkids⟩ := hR.mono hBz
 refine Ct.of_bodyM Tryz.func105 rfl (nt := 74) rfl (by kernel_rfl) rfl ?_
 intro N0 w0 R
 simp only [star_assoc]
 refine Cx.seq (fun K1 k1 => ?_)
 refine Cx.region ?_
 refine Lx.new (boxO rfl rfl) rfl (fun b3 => ?_)
 refine Lx.nil ?_
 refine Xx.tn (k1 _ _ _ _ ?_)
 refine Cx.seq (fun K2 k2 => ?_)
 refine Cx.drawn (by kernel_rfl) ?_
 refine Dx.r (i := 0) rfl (by kernel_rfl) (ld U110 rfl rfl rfl) rfl ?_
 refine Dx.p (i := 1) rfl (by kernel_rfl) (nilc rfl) rfl ?_
 refine Dx.p (i := 2) rfl (by kernel_rfl) (fa' fo113_0 rfl) rfl ?_
 refine Dx.r (i := 3) rfl (by kernel_rfl) (ldB U23 rfl rfl (by first | exact hqn | exact hB _ _ hqn) rfl) rfl ?_
 refine Dx.r (i := 4) rfl (by kernel_rfl) (ld U9 rfl rfl rfl) rfl ?_
 refine Dx.one (i := 5) (by kernel_rfl) ?_
 refine Dstep.o (i := 5) rfl (Ox.cb rfl rfl rfl (BS_ct nd.ks lo _ _ _ hRk hs (by omega))) rfl (fun v B' H' hΦ hB => ?_)
 obtain ⟨rfl, rfl, hBB⟩ := hΦ; have hBB2 := hBB.symm; subst hBB2; clear hB
 refine ⟨JOk.edge (JOk.edge (JOk.yes (JOk.top) (ld U110 rfl rfl rfl)) (by kernel_rfl)) (by kernel_rfl), ?_⟩
 refine Dx.p (i := 6) rfl (by kernel_rfl) (mv rfl) rfl ?_
 refine Dx.p (i := 7) rfl (by kernel_rfl) (ext rfl rfl) rfl ?_
 refine Dx.p (i := 8) rfl (by kernel_rfl) (ext rfl rfl) rfl ?_
 refine Dx.p (i := 9) rfl (by kernel_rfl) (asg rfl) rfl ?_
 refine Dx.p (i := 10) rfl (by kernel_rfl) (asg rfl) rfl ?_
 refine Dx.done (by kernel_rfl) ?_
 refine Xx.tn (k2 _ _ _ _ ?_)
 refine Cx.block ?_
 refine Cx.loopKD (Sc 0 rfl (Sc 1 rfl (Sc 2 rfl (Sc 3 rfl (Sc 8 rfl (Sc 9 rfl (Sc 10 rfl (Sc 11 rfl (Sc 12 rfl (Sc 13 rfl (Sc 14 rfl (Sc 15 rfl (Sc 16 rfl (Sub.nil _)))))))))))))) (fun m Ds ρ' B' H' => ∃ (j : Nat) (qs : List (Str8 × Str8)) (B2 : Frag) (H2 : HP), (lb nd.ks lo ≤ j ∧ j ≤ nd.ks.length + 1 ∧ fromL lo (io (d + 1) nd) = qs ++ fromL lo (ioL (io d) (nd.ks.drop j) (nd.vs.drop j) (nd.cs.drop j)) ∧ J qs B2 H2 ∧ Bz.le B2) ∧ m = nd.ks.length + 2 - j ∧ ρ' = [(4, i64 j)] ∧ B2 = B' ∧ row b3 89 [.func (.yield lp) #[] #[]] * (row b1 110 [pt nd] * (row b2 9 [str lo] * (H2 * (marks Ds * R)))) = H') [] rfl ⟨lb nd.ks lo, [], Bz, Hz, ⟨Nat.le_refl _, by omega, by rw [List.nil_append]; exact hst, hJ0, Frag.le_refl _⟩, rfl, rfl, rfl, by rw [marks_nil, one_star]⟩ (Sc 4 rfl (Sc 0 rfl (Sc 1 rfl (Sc 2 rfl (Sc 3 rfl (Sc 8 rfl (Sc 9 rfl (Sc 10 rfl (Sc 11 rfl (Sc 12 rfl (Sc 13 rfl (Sc 14 rfl (Sc 15 rfl (Sc 16 rfl (Sub.nil _))))))))))))))) ?_
 rintro m Ds ρ' B' H' ⟨j, qs, B2, H2, ⟨hlj, hjn, hxs0, hJq, hB2⟩, rfl, rfl, rfl, rfl⟩
 have hqn := hB2 _ _ hqn
 have hRk := hRk.mono hB2
 have hRv := hRv.mono hB2
 have hRc := hRc.mono hB2
 refine Cx.seq (fun K3 k3 => ?_)
 refine Cx.seq (fun K4 k4 => ?_)
 refine Cx.region <| Lx.y (mv rfl) rfl <| Lx.y (ld U110 rfl rfl rfl) rfl <| Lx.y (nilc rfl) rfl <| Lx.y (fa' fo113_0 rfl) rfl <| Lx.y (ldB U23 rfl rfl (by first | exact hqn | exact hB _ _ hqn) rfl) rfl <| Lx.y (lenV (ty' := 0) U23 rfl) rfl <| Lx.y (leq rfl rfl) rfl <| Lx.nil <| ?_
 refine Xx.tn (k4 _ _ _ _ ?_)
 refine Cx.condD rfl (fun h5 => ?_) (fun h5 => ?_)
 ·
  have hjn2 := h5
  refine Cx.skip ?_
  refine Xx.tn (k3 _ _ _ _ ?_)
  refine Cx.seq (fun K6 k6 => ?_)
  refine Cx.block ?_
  refine Cx.seq (fun K7 k7 => ?_)
  refine Cx.seq (fun K8 k8 => ?_)
  refine Cx.region <| Lx.y (ld U110 rfl rfl rfl) rfl <| Lx.y (nilc rfl) rfl <| Lx.y (fa' fo113_2 rfl) rfl <| Lx.y (ldB U111 rfl rfl (by first | exact hqn | exact hB _ _ hqn) rfl) rfl <| Lx.y (lenV (ty' := 0) U111 rfl) rfl <| Lx.y (gtr rfl rfl) rfl <| Lx.nil <| ?_
  refine Xx.tn (k8 _ _ _ _ ?_)
  refine Cx.condD rfl (fun h9 => ?_) (fun h9 => ?_)
  ·
   have hz := h9
   have hcl2 : nd.cs.length = nd.ks.length + 1 := by rcases hcl with z | z; exact absurd hz (by rw [z]; decide); exact z
   have hcj : j < nd.cs.length := by omega
   obtain ⟨bv, ov, csv, etv, fzv, hAv, hBv, hvv⟩ := hRc.at1 (k := j) hcj
   rw [List.getElem?_map, List.getElem?_eq_getElem hcj] at hvv
   have hJc := hJq
   refine Cx.seq (fun K10 k10 => ?_)
   refine Cx.drawn (by kernel_rfl) ?_
   refine Dx.r (i := 0) rfl (by kernel_rfl) (ld U110 rfl rfl rfl) rfl ?_
   refine Dx.p (i := 1) rfl (by kernel_rfl) (nilc rfl) rfl ?_
   refine Dx.p (i := 2) rfl (by kernel_rfl) (fa' fo113_2 rfl) rfl ?_
   refine Dx.r (i := 3) rfl (by kernel_rfl) (Yx.val (ldB U111 rfl rfl (by first | exact hqn | exact hB _ _ hqn) rfl) (show _ = Value.slice (some ⟨bv, ov, none⟩) nd.cs.length nd.cc by rw [← hAv])) rfl ?_
   refine Dx.p (i := 4) rfl (by kernel_rfl) (mv rfl) rfl ?_
   refine Dx.p (i := 5) rfl (by kernel_rfl) (ia U111 sz110 rfl rfl (by first | exact Int.toNat_natCast _ | rfl) (by omega) (by omega)) rfl ?_
   refine Dx.r (i := 6) rfl (by kernel_rfl) (ldB U110 rfl rfl (by first | exact hBv | exact hB _ _ hBv) hvv) rfl ?_
   refine Dx.r (i := 7) rfl (by kernel_rfl) (ld U9 rfl rfl rfl) rfl ?_
   refine Dx.one (i := 8) (by kernel_rfl) ?_
   refine Dstep.o (i := 8) rfl (Ox.call rfl rfl rfl (From_ct nd.cs[j] lo _) ((one_star _).symm)) rfl (fun v B' H' hΦ hB => ?_)
   obtain ⟨_, rfl, hΦ⟩ := hΦ
   obtain ⟨hBB, b4, b5, rfl, rfl⟩ := hΦ
   have hBB2 := hBB.symm
   subst hBB2
   have hle := hB2
   refine ⟨JOk.edge (JOk.edge (JOk.yes (JOk.yes (JOk.top) (ld U110 rfl rfl rfl)) (Yx.val (ldB U111 rfl rfl (by first | exact hqn | exact hB _ _ hqn) rfl) (show _ = Value.slice (some ⟨bv, ov, none⟩) nd.cs.length nd.cc by rw [← hAv]))) (by kernel_rfl)) (by kernel_rfl), ?_⟩
   refine Dx.done (by kernel_rfl) ?_
   refine Xx.tn (k10 _ _ _ _ ?_)
   refine Cx.block ?_
   refine Cx.rangeK (σ := _) (Sc 3 rfl (Sub.nil _)) rfl rfl (ih nd.cs[j] lo b4 b5 B2 ((hkids _ (List.getElem_mem hcj)).mono hB2) ((Ok.of1 (hok.2.2.2 _ (List.getElem_mem hcj))).le (by decide)) (kid_ord hok ho hcl2 hcj)) (show _ = (row b4 110 [pt nd.cs[j]] * row b5 9 [str lo]) * ((row b3 89 [.func (.yield lp) #[] #[]] * H2) * (row b1 110 [pt nd] * (row b2 9 [str lo] * (marks Ds * R)))) by ac_rfl) rfl (fun _ => rfl) (fun pre2 B' H' => ∃ Hj, J (qs ++ pre2) B' Hj ∧ H' = row b3 89 [.func (.yield lp) #[] #[]] * Hj) (fun c pre2 B' H' => c = .ret ∧ ∃ Hj, Jx (qs ++ pre2) B' Hj ∧ H' = row b3 89 [.func (.yield lp) #[] #[]] * Hj) (fun pre2 x B1 ρ' B' H' => ∃ Hj, ρ' = [(6, str x.1), (7, str x.2)] ∧ B' = B1 ∧ J (qs ++ pre2) B' Hj ∧ H' = row b3 89 [.func (.yield lp) #[] #[]] * Hj) (⟨H2, by rw [List.append_nil]; exact hJc, rfl⟩) ?_ ?_ ?_ ?_
   ·rintro lz Nz wz pre x post B1 H1 F K hxs hB1 hJ hK
    obtain ⟨Hj, hJj, rfl⟩ := hJ
    refine Cx.seq (fun K11 k11 => ?_)
    refine Cx.region <| Lx.y (asg rfl) rfl <| Lx.nil <| ?_
    refine Xx.tn (k11 _ _ _ _ ?_)
    refine Cx.region <| Lx.y (asg rfl) rfl <| Lx.nil <| ?_
    refine Xx.tn ?_
    exact Xx.sub (hK _ _ _ ⟨Hj, rfl, rfl, hJj, rfl⟩ (Frag.le_refl _)) (Sc 6 rfl (Sc 7 rfl (Sc 3 rfl (Sub.nil _))))
   ·rintro lz Nz wz pre x post B1 F ρ' B' H' hxs hB1 hBx hAS
    obtain ⟨Hj, rfl, hBB, hJj, rfl⟩ := hAS
    subst hBB
    rename Frag => B6
    clear hBx
    simp only [star_assoc]
    refine Cx.block ?_
    refine Cx.seq (fun K12 k12 => ?_)
    refine Cx.region <| Lx.y (ld U89 rfl rfl rfl) rfl <| Lx.y (mv rfl) rfl <| Lx.y (mv rfl) rfl <| ?_
    refine Lx.yield rfl rfl (hy (qs ++ pre) x (post ++ fromL lo (tl (io d) nd.ks nd.vs nd.cs j)) B6 Hj (by rw [hxs0, tl_kid hvl hcl2 hcj, fromL_app, hxs]; simp) (Frag.le_trans hBz (Frag.le_trans hle hB1)) hJj) (star_left _ _ _) rfl ?_
    rintro t B7 H7 hΦ hB7
    refine Lx.y (not' rfl) rfl <| Lx.nil <| ?_
    refine Xx.tn (k12 _ _ _ _ ?_)
    refine Cx.condB rfl (fun h13 => ?_) (fun h13 => ?_)
    ·
     obtain ⟨_, hΦ⟩ : t = false ∧ Jx ((qs ++ pre) ++ [x]) B7 H7 := by simpa [show t = false by simpa using h13] using hΦ
     refine Cx.ret ?_
     refine Xx.br ?_
     exact Xx.rqr ⟨rfl, _, by rw [← List.append_assoc]; exact hΦ, rfl⟩ hB7 (by ac_rfl)
    ·
     obtain ⟨_, hΦ⟩ : t = true ∧ J ((qs ++ pre) ++ [x]) B7 H7 := by simpa [show t = true by simpa using h13] using hΦ
     refine Cx.skip <| Xx.bn <| ?_
     exact Xx.rqn ⟨_, by rw [← List.append_assoc]; exact hΦ, rfl⟩ hB7 (by ac_rfl)
   ·rintro D B' H' hBx hJ
    obtain ⟨Hc, hJc, rfl⟩ := hJ
    rename Frag => Bc
    have hle := Frag.le_trans hle hBx
    have hxt : fromL lo (io (d + 1) nd) = (qs ++ fromL lo (io d nd.cs[j])) ++ fromL lo (tl (io d) nd.ks nd.vs nd.cs j) := by rw [hxs0, tl_kid hvl hcl2 hcj, fromL_app, List.append_assoc]
    generalize qs ++ fromL lo (io d nd.cs[j]) = qs at hJc hxt
    have hqn := hBx _ _ hqn
    have hRk := hRk.mono hBx
    have hRv := hRv.mono hBx
    have hRc := hRc.mono hBx
    simp only [star_assoc]
    refine Xx.dropB b4 (Xx.dropB b5 ?_)
    refine Xx.perm ?_ (show _ = row b3 89 [.func (.yield lp) #[] #[]] * (row b1 110 [pt nd] * (row b2 9 [str lo] * (Hc * (marks (D :: Ds) * R)))) by rw [marks_cons]; ac_rfl)
    refine Xx.bn ?_
    refine Xx.tn (k7 _ _ _ _ ?_)
    refine Cx.seq (fun K14 k14 => ?_)
    refine Cx.drawn (by kernel_rfl) ?_
    refine Dx.p (i := 0) rfl (by kernel_rfl) (mv rfl) rfl ?_
    refine Dx.r (i := 1) rfl (by kernel_rfl) (ld U110 rfl rfl rfl) rfl ?_
    refine Dx.p (i := 2) rfl (by kernel_rfl) (nilc rfl) rfl ?_
    refine Dx.p (i := 3) rfl (by kernel_rfl) (fa' fo113_0 rfl) rfl ?_
    refine Dx.r (i := 4) rfl (by kernel_rfl) (ldB U23 rfl rfl (by first | exact hqn | exact hB _ _ hqn) rfl) rfl ?_
    refine Dx.p (i := 5) rfl (by kernel_rfl) (lenV (ty' := 0) U23 rfl) rfl ?_
    refine Dx.p (i := 6) rfl (by kernel_rfl) (lss rfl rfl) rfl ?_
    refine Dx.p (i := 7) rfl (by kernel_rfl) (mv rfl) rfl ?_
    refine Xx.ifD (t := 55) rfl (fun h15 => ?_) (fun h15 => ?_)
    ·
     have hlt := h15
     have hlt : j < nd.ks.length := by omega
     obtain ⟨bk, ok, csk, etk, fzk, hAk, hBk, hvk⟩ := roe_str hRk hlt rfl
     obtain ⟨bw, ow, csw, etw, fzw, hAw, hBw, hvw⟩ := roe_str hRv (show j < nd.vs.length by omega) rfl
     have hx3 : fromL lo (io (d + 1) nd) = qs ++ (nd.ks[j], nd.vs[j]'(by omega)) :: fromL lo (ioL (io d) (nd.ks.drop (j + 1)) (nd.vs.drop (j + 1)) (nd.cs.drop (j + 1))) := by
      have hge : bless nd.ks[j] lo = false := by
       have h9 := (lb_spec (t := lo) hs).2 (by omega)
       rcases Nat.lt_or_ge (lb nd.ks lo) j with h8 | h8
       ·cases hb8 : bless nd.ks[j] lo with
        | false => rfl
        | true => rw [bless_trans (hs.lt hlt h8) hb8] at h9; cases h9
       ·obtain rfl : lb nd.ks lo = j := by omega
        exact h9
      rw [hxt, tl_lt hlt (by omega), fromL_cons hge]
     refine Dx.rT (i := 8) rfl rfl rfl rfl (by kernel_rfl) (ld U89 rfl rfl rfl) rfl ?_
     refine Dx.rT (i := 9) rfl rfl rfl rfl (by kernel_rfl) (ld U110 rfl rfl rfl) rfl ?_
     refine Dx.pT (i := 10) rfl rfl rfl rfl (by kernel_rfl) (nilc rfl) rfl ?_
     refine Dx.pT (i := 11) rfl rfl rfl rfl (by kernel_rfl) (fa' fo113_0 rfl) rfl ?_
     refine Dx.rT (i := 12) rfl rfl rfl rfl (by kernel_rfl) (Yx.val (ldB U23 rfl rfl (by first | exact hqn | exact hB _ _ hqn) rfl) (show _ = Value.slice (some ⟨bk, ok, none⟩) nd.ks.length nd.ck by rw [← hAk])) rfl ?_
     refine Dx.pT (i := 13) rfl rfl rfl rfl (by kernel_rfl) (mv rfl) rfl ?_
     refine Dx.pT (i := 14) rfl rfl rfl rfl (by kernel_rfl) (ia U23 sz9 rfl rfl (by first | exact Int.toNat_natCast _ | rfl) (by omega) (by omega)) rfl ?_
     refine Dx.rT (i := 15) rfl rfl rfl rfl (by kernel_rfl) (ldB U9 rfl rfl (by first | exact hBk | exact hB _ _ hBk) hvk) rfl ?_
     refine Dx.rT (i := 16) rfl rfl rfl rfl (by kernel_rfl) (ld U110 rfl rfl rfl) rfl ?_
     refine Dx.pT (i := 17) rfl rfl rfl rfl (by kernel_rfl) (nilc rfl) rfl ?_
     refine Dx.pT (i := 18) rfl rfl rfl rfl (by kernel_rfl) (fa' fo113_1 rfl) rfl ?_
     refine Dx.rT (i := 19) rfl rfl rfl rfl (by kernel_rfl) (Yx.val (ldB U23 rfl rfl (by first | exact hqn | exact hB _ _ hqn) rfl) (show _ = Value.slice (some ⟨bw, ow, none⟩) nd.vs.length nd.cv by rw [← hAw])) rfl ?_
     refine Dx.pT (i := 20) rfl rfl rfl rfl (by kernel_rfl) (mv rfl) rfl ?_
     refine Dx.pT (i := 21) rfl rfl rfl rfl (by kernel_rfl) (ia U23 sz9 rfl rfl (by first | exact Int.toNat_natCast _ | rfl) (by omega) (by omega)) rfl ?_
     refine Dx.rT (i := 22) rfl rfl rfl rfl (by kernel_rfl) (ldB U9 rfl rfl (by first | exact hBw | exact hB _ _ hBw) hvw) rfl ?_
     refine Dx.one (i := 23) (by kernel_rfl) ?_
     refine Dstep.oT (i := 23) rfl rfl rfl rfl (Ox.yield rfl rfl (hy qs (nd.ks[j], nd.vs[j]'(by omega)) _ _ _ hx3 (Frag.le_trans hBz hle) hJc) (pick3 _ _ _ _ _)) rfl (fun v B' H' hΦ hB => ?_)
     obtain ⟨t, _, rfl, rfl, hΦ⟩ := hΦ
     have hle8 := Frag.le_trans hle hB
     refine ⟨JOk.edge (JOk.yes (JOk.yes (JOk.edge (JOk.yes (JOk.yes (JOk.edge (JOk.yes (JOk.yes (JOk.top) (ld U110 rfl rfl rfl)) (ldB U23 rfl rfl (by first | exact hqn | exact hB _ _ hqn) rfl)) (by kernel_rfl)) (ld U110 rfl rfl rfl)) (Yx.val (ldB U23 rfl rfl (by first | exact hqn | exact hB _ _ hqn) rfl) (show _ = Value.slice (some ⟨bk, ok, none⟩) nd.ks.length nd.ck by rw [← hAk]))) (by kernel_rfl)) (ld U110 rfl rfl rfl)) (Yx.val (ldB U23 rfl rfl (by first | exact hqn | exact hB _ _ hqn) rfl) (show _ = Value.slice (some ⟨bw, ow, none⟩) nd.vs.length nd.cv by rw [← hAw]))) (by kernel_rfl), ?_⟩
     refine Dx.pT (i := 24) rfl rfl rfl rfl (by kernel_rfl) (not' rfl) rfl ?_
     refine Dx.p (i := 25) rfl (by kernel_rfl) (pickT rfl rfl) rfl ?_
     refine Dx.done (by kernel_rfl) ?_
     refine Xx.tn (k14 _ _ _ _ ?_)
     refine Cx.condB rfl (fun h16 => ?_) (fun h16 => ?_)
     ·
      obtain ⟨_, hΦ⟩ : t = false ∧ Jx (qs ++ [(nd.ks[j], nd.vs[j]'(by omega))]) _ _ := by simpa [show t = false by simpa using h16] using hΦ
      refine Cx.ret ?_
      refine Xx.br ?_
      refine Xx.tr <| Xx.tr <| ?_
      refine Xx.br ?_
      refine Xx.dropB b3 ?_
      exact Xx.rM (Ds := D :: Ds) (fun a w f _ => results_none rfl _ _ _) ⟨_, rfl, .inr ⟨_, _, by rw [hx3, List.append_cons], hΦ⟩⟩ hle8 (by ac_rfl)
     ·
      obtain ⟨_, hΦ⟩ : t = true ∧ J (qs ++ [(nd.ks[j], nd.vs[j]'(by omega))]) _ _ := by simpa [show t = true by simpa using h16] using hΦ
      have hle := hle8
      have hx4 : fromL lo (io (d + 1) nd) = (qs ++ [(nd.ks[j], nd.vs[j]'(by omega))]) ++ fromL lo (ioL (io d) (nd.ks.drop (j + 1)) (nd.vs.drop (j + 1)) (nd.cs.drop (j + 1))) := by rw [hx3]; simp
      refine Cx.skip <| Xx.bn <| ?_
      refine Xx.tn (k6 _ _ _ _ ?_)
      refine Cx.region <| Lx.y (mv rfl) rfl <| Lx.y (Yx.val (add rfl rfl (by first | exact wrap64 (by omega) (by omega) | rfl)) (show _ = i64 ((j + 1 : Nat) : Int) from rfl)) rfl <| Lx.y (asg rfl) rfl <| Lx.nil <| ?_
      exact Xx.againKD (D :: Ds) rfl ⟨j + 1, _, _, _, ⟨by omega, by omega, hx4, hΦ, hle⟩, rfl, rfl, rfl, (by rw [marks_cons]; ac_rfl)⟩ (by omega) (Sc 4 rfl (Sc 0 rfl (Sc 1 rfl (Sc 2 rfl (Sc 3 rfl (Sc 8 rfl (Sc 9 rfl (Sc 10 rfl (Sc 11 rfl (Sc 12 rfl (Sc 13 rfl (Sc 14 rfl (Sc 15 rfl (Sc 16 rfl (Sub.nil _)))))))))))))))
    ·
     have hge := h15
     have hjn3 : j = nd.ks.length := by omega
     have hx4 : fromL lo (io (d + 1) nd) = qs ++ fromL lo (ioL (io d) (nd.ks.drop (j + 1)) (nd.vs.drop (j + 1)) (nd.cs.drop (j + 1))) := by rw [hxt, tl_ge (by omega), rest_end hvl hcl (by omega)]
     refine Dx.pF (i := 8) rfl (fun _ h => by cases h) rfl rfl rfl (by kernel_rfl) rfl ?_
     refine Dx.pF (i := 9) rfl (fun _ h => by cases h) rfl rfl rfl (by kernel_rfl) rfl ?_
     refine Dx.pF (i := 10) rfl (fun _ h => by cases h) rfl rfl rfl (by kernel_rfl) rfl ?_
     refine Dx.pF (i := 11) rfl (fun _ h => by cases h) rfl rfl rfl (by kernel_rfl) rfl ?_
     refine Dx.pF (i := 12) rfl (fun _ h => by cases h) rfl rfl rfl (by kernel_rfl) rfl ?_
     refine Dx.pF (i := 13) rfl (fun _ h => by cases h) rfl rfl rfl (by kernel_rfl) rfl ?_
     refine Dx.pF (i := 14) rfl (fun _ h => by cases h) rfl rfl rfl (by kernel_rfl) rfl ?_
     refine Dx.pF (i := 15) rfl (fun _ h => by cases h) rfl rfl rfl (by kernel_rfl) rfl ?_
     refine Dx.pF (i := 16) rfl (fun _ h => by cases h) rfl rfl rfl (by kernel_rfl) rfl ?_
     refine Dx.pF (i := 17) rfl (fun _ h => by cases h) rfl rfl rfl (by kernel_rfl) rfl ?_
     refine Dx.pF (i := 18) rfl (fun _ h => by cases h) rfl rfl rfl (by kernel_rfl) rfl ?_
     refine Dx.pF (i := 19) rfl (fun _ h => by cases h) rfl rfl rfl (by kernel_rfl) rfl ?_
     refine Dx.pF (i := 20) rfl (fun _ h => by cases h) rfl rfl rfl (by kernel_rfl) rfl ?_
     refine Dx.pF (i := 21) rfl (fun _ h => by cases h) rfl rfl rfl (by kernel_rfl) rfl ?_
     refine Dx.pF (i := 22) rfl (fun _ h => by cases h) rfl rfl rfl (by kernel_rfl) rfl ?_
     refine Dx.pF (i := 23) rfl (fun _ h => by cases h) rfl rfl rfl (by kernel_rfl) rfl ?_
     refine Dx.pF (i := 24) rfl (fun _ h => by cases h) rfl rfl rfl (by kernel_rfl) rfl ?_
     refine Dx.p (i := 25) rfl (by kernel_rfl) (pickF rfl rfl) rfl ?_
     refine Dx.done (by kernel_rfl) ?_
     refine Xx.tn (k14 _ _ _ _ ?_)
     refine Cx.condF rfl <| Cx.skip <| Xx.bn <| ?_
     refine Xx.tn (k6 _ _ _ _ ?_)
     refine Cx.region <| Lx.y (mv rfl) rfl <| Lx.y (Yx.val (add rfl rfl (by first | exact wrap64 (by omega) (by omega) | rfl)) (show _ = i64 ((j + 1 : Nat) : Int) from rfl)) rfl <| Lx.y (asg rfl) rfl <| Lx.nil <| ?_
     exact Xx.againKD (D :: Ds) rfl ⟨j + 1, _, _, _, ⟨by omega, by omega, hx4, hJc, hle⟩, rfl, rfl, rfl, rfl⟩ (by omega) (Sc 4 rfl (Sc 0 rfl (Sc 1 rfl (Sc 2 rfl (Sc 3 rfl (Sc 8 rfl (Sc 9 rfl (Sc 10 rfl (Sc 11 rfl (Sc 12 rfl (Sc 13 rfl (Sc 14 rfl (Sc 15 rfl (Sc 16 rfl (Sub.nil _)))))))))))))))
   ·rintro D c pre post B' H' hxs hBx hJx
    obtain ⟨rfl, Hc, hJc, rfl⟩ := hJx
    have hle := Frag.le_trans hle hBx
    have hxt : fromL lo (io (d + 1) nd) = (qs ++ pre) ++ (post ++ fromL lo (tl (io d) nd.ks nd.vs nd.cs j)) := by rw [hxs0, tl_kid hvl hcl2 hcj, fromL_app, hxs]; simp
    refine Cx.ret ?_
    refine Xx.br ?_
    refine Xx.tr ?_
    refine Xx.br ?_
    refine Xx.tr <| Xx.tr <| ?_
    refine Xx.br ?_
    simp only [star_assoc]
    refine Xx.dropB b3 (Xx.dropB b4 (Xx.dropB b5 ?_))
    exact Xx.rM (Ds := D :: Ds) (fun a w f _ => results_none rfl _ _ _) ⟨_, rfl, .inr ⟨_, _, hxt, hJc⟩⟩ hle (by rw [marks_cons]; ac_rfl)
  ·
   have hz := h9
   have hc0 : nd.cs = [] := List.length_eq_zero_iff.1 (by omega)
   have hJc := hJq
   have hle := hB2
   have hxt : fromL lo (io (d + 1) nd) = qs ++ fromL lo (tl (io d) nd.ks nd.vs nd.cs j) := by rw [hxs0, hc0, tl_leaf hvl]
   refine Cx.skip ?_
   refine Xx.tn (k7 _ _ _ _ ?_)
   refine Cx.seq (fun K17 k17 => ?_)
   refine Cx.drawn (by kernel_rfl) ?_
   refine Dx.p (i := 0) rfl (by kernel_rfl) (mv rfl) rfl ?_
   refine Dx.r (i := 1) rfl (by kernel_rfl) (ld U110 rfl rfl rfl) rfl ?_
   refine Dx.p (i := 2) rfl (by kernel_rfl) (nilc rfl) rfl ?_
   refine Dx.p (i := 3) rfl (by kernel_rfl) (fa' fo113_0 rfl) rfl ?_
   refine Dx.r (i := 4) rfl (by kernel_rfl) (ldB U23 rfl rfl (by first | exact hqn | exact hB _ _ hqn) rfl) rfl ?_
   refine Dx.p (i := 5) rfl (by kernel_rfl) (lenV (ty' := 0) U23 rfl) rfl ?_
   refine Dx.p (i := 6) rfl (by kernel_rfl) (lss rfl rfl) rfl ?_
   refine Dx.p (i := 7) rfl (by kernel_rfl) (mv rfl) rfl ?_
   refine Xx.ifD (t := 55) rfl (fun h18 => ?_) (fun h18 => ?_)
   ·
    have hlt := h18
    have hlt : j < nd.ks.length := by omega
    obtain ⟨bk, ok, csk, etk, fzk, hAk, hBk, hvk⟩ := roe_str hRk hlt rfl
    obtain ⟨bw, ow, csw, etw, fzw, hAw, hBw, hvw⟩ := roe_str hRv (show j < nd.vs.length by omega) rfl
    have hx3 : fromL lo (io (d + 1) nd) = qs ++ (nd.ks[j], nd.vs[j]'(by omega)) :: fromL lo (ioL (io d) (nd.ks.drop (j + 1)) (nd.vs.drop (j + 1)) (nd.cs.drop (j + 1))) := by
     have hge : bless nd.ks[j] lo = false := by
      have h9 := (lb_spec (t := lo) hs).2 (by omega)
      rcases Nat.lt_or_ge (lb nd.ks lo) j with h8 | h8
      ·cases hb8 : bless nd.ks[j] lo with
       | false => rfl
       | true => rw [bless_trans (hs.lt hlt h8) hb8] at h9; cases h9
      ·obtain rfl : lb nd.ks lo = j := by omega
       exact h9
     rw [hxt, tl_lt hlt (by omega), fromL_cons hge]
    refine Dx.rT (i := 8) rfl rfl rfl rfl (by kernel_rfl) (ld U89 rfl rfl rfl) rfl ?_
    refine Dx.rT (i := 9) rfl rfl rfl rfl (by kernel_rfl) (ld U110 rfl rfl rfl) rfl ?_
    refine Dx.pT (i := 10) rfl rfl rfl rfl (by kernel_rfl) (nilc rfl) rfl ?_
    refine Dx.pT (i := 11) rfl rfl rfl rfl (by kernel_rfl) (fa' fo113_0 rfl) rfl ?_
    refine Dx.rT (i := 12) rfl rfl rfl rfl (by kernel_rfl) (Yx.val (ldB U23 rfl rfl (by first | exact hqn | exact hB _ _ hqn) rfl) (show _ = Value.slice (some ⟨bk, ok, none⟩) nd.ks.length nd.ck by rw [← hAk])) rfl ?_
    refine Dx.pT (i := 13) rfl rfl rfl rfl (by kernel_rfl) (mv rfl) rfl ?_
    refine Dx.pT (i := 14) rfl rfl rfl rfl (by kernel_rfl) (ia U23 sz9 rfl rfl (by first | exact Int.toNat_natCast _ | rfl) (by omega) (by omega)) rfl ?_
    refine Dx.rT (i := 15) rfl rfl rfl rfl (by kernel_rfl) (ldB U9 rfl rfl (by first | exact hBk | exact hB _ _ hBk) hvk) rfl ?_
    refine Dx.rT (i := 16) rfl rfl rfl rfl (by kernel_rfl) (ld U110 rfl rfl rfl) rfl ?_
    refine Dx.pT (i := 17) rfl rfl rfl rfl (by kernel_rfl) (nilc rfl) rfl ?_
    refine Dx.pT (i := 18) rfl rfl rfl rfl (by kernel_rfl) (fa' fo113_1 rfl) rfl ?_
    refine Dx.rT (i := 19) rfl rfl rfl rfl (by kernel_rfl) (Yx.val (ldB U23 rfl rfl (by first | exact hqn | exact hB _ _ hqn) rfl) (show _ = Value.slice (some ⟨bw, ow, none⟩) nd.vs.length nd.cv by rw [← hAw])) rfl ?_
    refine Dx.pT (i := 20) rfl rfl rfl rfl (by kernel_rfl) (mv rfl) rfl ?_
    refine Dx.pT (i := 21) rfl rfl rfl rfl (by kernel_rfl) (ia U23 sz9 rfl rfl (by first | exact Int.toNat_natCast _ | rfl) (by omega) (by omega)) rfl ?_
    refine Dx.rT (i := 22) rfl rfl rfl rfl (by kernel_rfl) (ldB U9 rfl rfl (by first | exact hBw | exact hB _ _ hBw) hvw) rfl ?_
    refine Dx.one (i := 23) (by kernel_rfl) ?_
    refine Dstep.oT (i := 23) rfl rfl rfl rfl (Ox.yield rfl rfl (hy qs (nd.ks[j], nd.vs[j]'(by omega)) _ _ _ hx3 (Frag.le_trans hBz hle) hJc) (pick3 _ _ _ _ _)) rfl (fun v B' H' hΦ hB => ?_)
    obtain ⟨t, _, rfl, rfl, hΦ⟩ := hΦ
    have hle8 := Frag.le_trans hle hB
    refine ⟨JOk.edge (JOk.yes (JOk.yes (JOk.edge (JOk.yes (JOk.yes (JOk.edge (JOk.yes (JOk.yes (JOk.top) (ld U110 rfl rfl rfl)) (ldB U23 rfl rfl (by first | exact hqn | exact hB _ _ hqn) rfl)) (by kernel_rfl)) (ld U110 rfl rfl rfl)) (Yx.val (ldB U23 rfl rfl (by first | exact hqn | exact hB _ _ hqn) rfl) (show _ = Value.slice (some ⟨bk, ok, none⟩) nd.ks.length nd.ck by rw [← hAk]))) (by kernel_rfl)) (ld U110 rfl rfl rfl)) (Yx.val (ldB U23 rfl rfl (by first | exact hqn | exact hB _ _ hqn) rfl) (show _ = Value.slice (some ⟨bw, ow, none⟩) nd.vs.length nd.cv by rw [← hAw]))) (by kernel_rfl), ?_⟩
    refine Dx.pT (i := 24) rfl rfl rfl rfl (by kernel_rfl) (not' rfl) rfl ?_
    refine Dx.p (i := 25) rfl (by kernel_rfl) (pickT rfl rfl) rfl ?_
    refine Dx.done (by kernel_rfl) ?_
    refine Xx.tn (k17 _ _ _ _ ?_)
    refine Cx.condB rfl (fun h19 => ?_) (fun h19 => ?_)
    ·
     obtain ⟨_, hΦ⟩ : t = false ∧ Jx (qs ++ [(nd.ks[j], nd.vs[j]'(by omega))]) _ _ := by simpa [show t = false by simpa using h19] using hΦ
     refine Cx.ret ?_
     refine Xx.br ?_
     refine Xx.tr <| Xx.tr <| ?_
     refine Xx.br ?_
     refine Xx.dropB b3 ?_
     exact Xx.rM (Ds := Ds) (fun a w f _ => results_none rfl _ _ _) ⟨_, rfl, .inr ⟨_, _, by rw [hx3, List.append_cons], hΦ⟩⟩ hle8 (by ac_rfl)
    ·
     obtain ⟨_, hΦ⟩ : t = true ∧ J (qs ++ [(nd.ks[j], nd.vs[j]'(by omega))]) _ _ := by simpa [show t = true by simpa using h19] using hΦ
     have hle := hle8
     have hx4 : fromL lo (io (d + 1) nd) = (qs ++ [(nd.ks[j], nd.vs[j]'(by omega))]) ++ fromL lo (ioL (io d) (nd.ks.drop (j + 1)) (nd.vs.drop (j + 1)) (nd.cs.drop (j + 1))) := by rw [hx3]; simp
     refine Cx.skip <| Xx.bn <| ?_
     refine Xx.tn (k6 _ _ _ _ ?_)
     refine Cx.region <| Lx.y (mv rfl) rfl <| Lx.y (Yx.val (add rfl rfl (by first | exact wrap64 (by omega) (by omega) | rfl)) (show _ = i64 ((j + 1 : Nat) : Int) from rfl)) rfl <| Lx.y (asg rfl) rfl <| Lx.nil <| ?_
     exact Xx.againKD (Ds) rfl ⟨j + 1, _, _, _, ⟨by omega, by omega, hx4, hΦ, hle⟩, rfl, rfl, rfl, (by ac_rfl)⟩ (by omega) (Sc 4 rfl (Sc 0 rfl (Sc 1 rfl (Sc 2 rfl (Sc 3 rfl (Sc 8 rfl (Sc 9 rfl (Sc 10 rfl (Sc 11 rfl (Sc 12 rfl (Sc 13 rfl (Sc 14 rfl (Sc 15 rfl (Sc 16 rfl (Sub.nil _)))))))))))))))
   ·
    have hge := h18
    have hjn3 : j = nd.ks.length := by omega
    have hx4 : fromL lo (io (d + 1) nd) = qs ++ fromL lo (ioL (io d) (nd.ks.drop (j + 1)) (nd.vs.drop (j + 1)) (nd.cs.drop (j + 1))) := by rw [hxt, tl_ge (by omega), rest_end hvl hcl (by omega)]
    refine Dx.pF (i := 8) rfl (fun _ h => by cases h) rfl rfl rfl (by kernel_rfl) rfl ?_
    refine Dx.pF (i := 9) rfl (fun _ h => by cases h) rfl rfl rfl (by kernel_rfl) rfl ?_
    refine Dx.pF (i := 10) rfl (fun _ h => by cases h) rfl rfl rfl (by kernel_rfl) rfl ?_
    refine Dx.pF (i := 11) rfl (fun _ h => by cases h) rfl rfl rfl (by kernel_rfl) rfl ?_
    refine Dx.pF (i := 12) rfl (fun _ h => by cases h) rfl rfl rfl (by kernel_rfl) rfl ?_
    refine Dx.pF (i := 13) rfl (fun _ h => by cases h) rfl rfl rfl (by kernel_rfl) rfl ?_
    refine Dx.pF (i := 14) rfl (fun _ h => by cases h) rfl rfl rfl (by kernel_rfl) rfl ?_
    refine Dx.pF (i := 15) rfl (fun _ h => by cases h) rfl rfl rfl (by kernel_rfl) rfl ?_
    refine Dx.pF (i := 16) rfl (fun _ h => by cases h) rfl rfl rfl (by kernel_rfl) rfl ?_
    refine Dx.pF (i := 17) rfl (fun _ h => by cases h) rfl rfl rfl (by kernel_rfl) rfl ?_
    refine Dx.pF (i := 18) rfl (fun _ h => by cases h) rfl rfl rfl (by kernel_rfl) rfl ?_
    refine Dx.pF (i := 19) rfl (fun _ h => by cases h) rfl rfl rfl (by kernel_rfl) rfl ?_
    refine Dx.pF (i := 20) rfl (fun _ h => by cases h) rfl rfl rfl (by kernel_rfl) rfl ?_
    refine Dx.pF (i := 21) rfl (fun _ h => by cases h) rfl rfl rfl (by kernel_rfl) rfl ?_
    refine Dx.pF (i := 22) rfl (fun _ h => by cases h) rfl rfl rfl (by kernel_rfl) rfl ?_
    refine Dx.pF (i := 23) rfl (fun _ h => by cases h) rfl rfl rfl (by kernel_rfl) rfl ?_
    refine Dx.pF (i := 24) rfl (fun _ h => by cases h) rfl rfl rfl (by kernel_rfl) rfl ?_
    refine Dx.p (i := 25) rfl (by kernel_rfl) (pickF rfl rfl) rfl ?_
    refine Dx.done (by kernel_rfl) ?_
    refine Xx.tn (k17 _ _ _ _ ?_)
    refine Cx.condF rfl <| Cx.skip <| Xx.bn <| ?_
    refine Xx.tn (k6 _ _ _ _ ?_)
    refine Cx.region <| Lx.y (mv rfl) rfl <| Lx.y (Yx.val (add rfl rfl (by first | exact wrap64 (by omega) (by omega) | rfl)) (show _ = i64 ((j + 1 : Nat) : Int) from rfl)) rfl <| Lx.y (asg rfl) rfl <| Lx.nil <| ?_
    exact Xx.againKD (Ds) rfl ⟨j + 1, _, _, _, ⟨by omega, by omega, hx4, hJc, hle⟩, rfl, rfl, rfl, rfl⟩ (by omega) (Sc 4 rfl (Sc 0 rfl (Sc 1 rfl (Sc 2 rfl (Sc 3 rfl (Sc 8 rfl (Sc 9 rfl (Sc 10 rfl (Sc 11 rfl (Sc 12 rfl (Sc 13 rfl (Sc 14 rfl (Sc 15 rfl (Sc 16 rfl (Sub.nil _)))))))))))))))
 ·
  have hjn2 := h5
  refine Cx.exit <| Xx.te <| Xx.te <| Xx.bh <| ?_
  refine Xx.dropB b3 ?_
  exact Xx.eM Ds rfl (fun a w f _ => results_none rfl _ _ _) ⟨_, rfl, .inl (by rw [hxs0, rest_end hvl hcl (by omega)]; show J (qs ++ []) _ _; rw [List.append_nil]; exact hJq)⟩ hB2 (by ac_rfl)
end BtR
end Go.Proofs.YtdidpocakipinaaGreatDoor
namespace Go.Proofs.YtdidpocakipinaaGreatDoor
open Go.SL Go.RowKit
set_option maxRecDepth 100000
open Ke1 Ke3 Ke4 Ke5 Ke6 Ke7 Ke8 Ke9 KeA KeB KeC KeD KeE KeF KeG KeI RgA BtB BtC BtD BtE BtG BtX BtH BtI BtF BtJ BtM BtN BtO BtR BtY BtZ DrA DrB DrC DrD
namespace DrE
theorem sz9 : (Tryz.prog.info? 9).map (·.size) = some 1 := by kernel_rfl
theorem sz23 : (Tryz.prog.info? 23).map (·.size) = some 1 := by kernel_rfl
theorem sz110 : (Tryz.prog.info? 110).map (·.size) = some 1 := by kernel_rfl
theorem fo113_0 : FO Tryz.prog 113 0 0 1 false := FO.of U113 rfl rfl (by kernel_rfl) U23 rfl rfl
theorem fo113_1 : FO Tryz.prog 113 1 1 1 false := FO.of U113 rfl rfl (by kernel_rfl) U23 rfl rfl
theorem fo113_2 : FO Tryz.prog 113 2 2 1 false := FO.of U113 rfl rfl (by kernel_rfl) U111 rfl rfl
def DropQ (N d : Nat) (c : C) (k : Str8) (B : Frag) (r : Value) (B' : Frag) (H' : HP) : Prop := B' = B ∧ ∃ c' t, r = .bool t ∧ H' = tr (d + 1) c' ∧ DropR N d c k c' t ∧ (t = false → c' = c)
abbrev DropC (N d : Nat) (c : C) (k : Str8) (B : Frag) : Prop := Ct Tryz.prog 67 [.pointer (some ⟨c.b, 0, none⟩), str k] B (tr (d + 1) c) (DropQ N d c k B)
set_option maxHeartbeats 4000000 in
theorem drop_step (N d : Nat) (hN : N ≤ 90) (c : C) (k : Str8) (B : Frag) (hok : Ok N (d + 1) c) (hmn : Mn (d + 1) c) (ho : Ord (io (d + 1) c)) (hsk : Srt c.ks) (hp : c.cs ≠ [] → 1 ≤ c.ks.length) (ih : ∀ (h : lb c.ks k < c.cs.length), ∃ d2, d = d2 + 1 ∧ DropC 7 d2 c.cs[lb c.ks k] k B) (il : ∀ (h : lb c.ks k < c.cs.length), ∃ d2, d = d2 + 1 ∧ LastC 7 d2 c.cs[lb c.ks k] B) : DropC N d c k B := by
 have hlbn : lb c.ks k ≤ c.ks.length := lb_le _ _
 have hvl := hok.1
 have hcl := hok.2.2.1
 have h7 := hok.2.1
 obtain ⟨b, Ak, ck, Av, cv, Ac, cc, ks, vs, cs⟩ := c
 unfold DropC
 simp only [C.b, C.ks, C.vs, C.cs] at h7 hlbn hvl hcl hsk hp ih il ⊢
 refine Ct.of_body Tryz.func67 rfl (nt := 93) rfl (by kernel_rfl) rfl ?_
 intro N0 w0 R
 rw [tr_succ]
 simp only [star_assoc, nrow, kbuf, vbuf, cbuf, ncells, C.b, C.Ak, C.ck, C.Av, C.cv, C.Ac, C.cc, C.ks, C.vs, C.cs]
 refine Cx.seq (fun K1 k1 => ?_)
 refine Cx.region <| Lx.y (asg rfl) rfl <| Lx.nil <| ?_
 refine Xx.tn (k1 _ _ _ _ ?_)
 refine Cx.seq (fun K2 k2 => ?_)
 refine Cx.region <| Lx.y (mv rfl) rfl <| Lx.y (nilc rfl) rfl <| Lx.y (fa' fo113_0 rfl) rfl <| Lx.y (ld U23 rfl rfl rfl) rfl <| Lx.y (mv rfl) rfl <| ?_
 refine Lx.co rfl rfl rfl (BSo_ct ks k Ak ck ks.length _ rfl hsk (by omega)) (pickS _) rfl ?_
 refine Lx.y (mv rfl) rfl <| Lx.y (ext rfl rfl) rfl <| Lx.y (ext rfl rfl) rfl <| Lx.y (asg rfl) rfl <| Lx.y (asg rfl) rfl <| Lx.nil <| ?_
 refine Xx.tn (k2 _ _ _ _ ?_)
 refine Cx.seq (fun K3 k3 => ?_)
 refine Cx.block ?_
 refine Cx.seq (fun K4 k4 => ?_)
 refine Cx.region <| Lx.y (mv rfl) rfl <| Lx.y (nilc rfl) rfl <| Lx.y (fa' fo113_2 rfl) rfl <| Lx.y (ld U111 rfl rfl rfl) rfl <| Lx.y (lenV (ty' := 0) U111 rfl) rfl <| Lx.y (eqI rfl rfl) rfl <| Lx.y (mv rfl) rfl <| ?_
 refine Xx.ifD (t := 32) rfl (fun h5 => ?_) (fun h5 => ?_)
 ·
  have hz := h5
  have hc0 : cs = [] := List.length_eq_zero_iff.1 (by omega)
  subst hc0
  refine Lx.gT rfl rfl rfl <| Lx.y (mv rfl) rfl <| Lx.y (pickT rfl rfl) rfl <| Lx.y (asg rfl) rfl <| Lx.nil <| ?_
  refine Xx.tn (k4 _ _ _ _ ?_)
  refine Cx.condB rfl (fun h6 => ?_) (fun h6 => ?_)
  ·
   have hin : k ∈ ks := of_decide_eq_true h6
   obtain ⟨hlt, hat⟩ := lb_mem hsk hin
   refine Cx.seq (fun K7 k7 => ?_)
   refine Cx.drawn (by kernel_rfl) ?_
   refine Dx.p (i := 0) rfl (by kernel_rfl) (mv rfl) rfl ?_
   refine Dx.p (i := 1) rfl (by kernel_rfl) (mv rfl) rfl ?_
   refine Dx.p (i := 2) rfl (by kernel_rfl) (mv rfl) rfl ?_
   refine Dx.p (i := 3) rfl (by kernel_rfl) (nilc rfl) rfl ?_
   refine Dx.p (i := 4) rfl (by kernel_rfl) (fa' fo113_0 rfl) rfl ?_
   refine Dx.r (i := 5) rfl (by kernel_rfl) (ld U23 rfl rfl rfl) rfl ?_
   refine Dx.p (i := 6) rfl (by kernel_rfl) (mv rfl) rfl ?_
   refine Dx.p (i := 7) rfl (by kernel_rfl) (mv rfl) rfl ?_
   refine Dx.p (i := 8) rfl (by kernel_rfl) (Yx.val (add rfl rfl (by first | exact wrap64 (by omega) (by omega) | rfl)) (show _ = i64 ((lb ks k + 1 : Nat) : Int) from rfl)) rfl ?_
   refine Dx.p (i := 10) rfl (by kernel_rfl) (mv rfl) rfl ?_
   refine Dx.p (i := 11) rfl (by kernel_rfl) (nilc rfl) rfl ?_
   refine Dx.p (i := 12) rfl (by kernel_rfl) (fa' fo113_1 rfl) rfl ?_
   refine Dx.r (i := 13) rfl (by kernel_rfl) (ld U23 rfl rfl rfl) rfl ?_
   refine Dx.p (i := 14) rfl (by kernel_rfl) (mv rfl) rfl ?_
   refine Dx.p (i := 15) rfl (by kernel_rfl) (mv rfl) rfl ?_
   refine Dx.p (i := 16) rfl (by kernel_rfl) (Yx.val (add rfl rfl (by first | exact wrap64 (by omega) (by omega) | rfl)) (show _ = i64 ((lb ks k + 1 : Nat) : Int) from rfl)) rfl ?_
   refine Dx.one (i := 9) (by kernel_rfl) ?_
   refine Dstep.o (i := 9) rfl (Ox.call rfl rfl rfl (Del_ct Ak (lb ks k) (ks.length) ck (ks.map str) _ (by omega) (by simp) (strs_all _) (by omega)) (pickS _)) rfl (fun v B' H' hΦ hB => ?_)
   obtain ⟨_, rfl, hΦ⟩ := hΦ
   obtain ⟨rfl, hBB, rfl⟩ := hΦ
   subst hBB
   rename Frag => B
   clear hB
   refine ⟨JOk.yes (JOk.edge (JOk.top) (by kernel_rfl)) (ld U23 rfl rfl rfl), ?_⟩
   refine Dx.one (i := 17) (by kernel_rfl) ?_
   refine Dstep.o (i := 17) rfl (Ox.call rfl rfl rfl (Del_ct Av (lb ks k) (vs.length) cv (vs.map str) _ (by omega) (by simp) (strs_all _) (by omega)) (pickS _)) rfl (fun v B' H' hΦ hB => ?_)
   obtain ⟨_, rfl, hΦ⟩ := hΦ
   obtain ⟨rfl, hBB, rfl⟩ := hΦ
   subst hBB
   rename Frag => B
   clear hB
   refine ⟨JOk.edge (JOk.yes (JOk.top) (ld U23 rfl rfl rfl)) (by kernel_rfl), ?_⟩
   refine Dx.p (i := 18) rfl (by kernel_rfl) (nilc rfl) rfl ?_
   refine Dx.p (i := 19) rfl (by kernel_rfl) (fa' fo113_0 rfl) rfl ?_
   refine Dx.one (i := 20) (by kernel_rfl) ?_
   refine Dstep.o0 (i := 20) rfl (stO U23 sz23 rfl rfl rfl (by simp) rfl) (fun v B' H' hΦ hB => ?_)
   obtain ⟨rfl, rfl⟩ := hΦ; clear hB v
   refine ⟨JOk.edge (JOk.edge (JOk.top) (by kernel_rfl)) (by kernel_rfl), ?_⟩
   refine Dx.p (i := 21) rfl (by kernel_rfl) (nilc rfl) rfl ?_
   refine Dx.p (i := 22) rfl (by kernel_rfl) (fa' fo113_1 rfl) rfl ?_
   refine Dx.one (i := 23) (by kernel_rfl) ?_
   refine Dstep.o0 (i := 23) rfl (stO U23 sz23 rfl rfl rfl (by simp) rfl) (fun v B' H' hΦ hB => ?_)
   obtain ⟨rfl, rfl⟩ := hΦ; clear hB v
   refine ⟨JOk.edge (JOk.edge (JOk.top) (by kernel_rfl)) (by kernel_rfl), ?_⟩
   refine Dx.done (by kernel_rfl) ?_
   refine Xx.tn (k7 _ _ _ _ ?_)
   refine Cx.seq (fun K8 k8 => ?_)
   refine Cx.region <| Lx.y (asg rfl) rfl <| Lx.nil <| ?_
   refine Xx.tn (k8 _ _ _ _ ?_)
   refine Cx.ret ?_
   refine Xx.br ?_
   refine Xx.tr ?_
   exact Xx.ret1 rfl rfl ⟨rfl, .mk b Ak ck Av cv Ac cc (ks.take (lb ks k) ++ ks.drop (lb ks k + 1)) (vs.take (lb ks k) ++ vs.drop (lb ks k + 1)) [], true, rfl, rfl, leaf_drop hok hmn ho rfl hin rfl rfl rfl rfl, fun h9 => by cases h9⟩ (Frag.le_refl _) (by rw [← fold_tr, show (ks.take (lb ks k) ++ ks.drop (lb ks k + 1)).length = ks.length - 1 by simp; omega, show (vs.take (lb ks k) ++ vs.drop (lb ks k + 1)).length = vs.length - 1 by simp; omega]; simp only [List.map_append, List.map_take, List.map_drop]; ac_rfl)
  ·
   have hin : k ∉ ks := of_decide_eq_false h6
   refine Cx.seq (fun K9 k9 => ?_)
   refine Cx.region <| Lx.y (mv rfl) rfl <| Lx.y (nilc rfl) rfl <| Lx.y (fa' fo113_2 rfl) rfl <| Lx.y (ld U111 rfl rfl rfl) rfl <| Lx.y (lenV (ty' := 0) U111 rfl) rfl <| Lx.y (eqI rfl rfl) rfl <| Lx.y (asg rfl) rfl <| Lx.nil <| ?_
   refine Xx.tn (k9 _ _ _ _ ?_)
   refine Cx.condD rfl (fun h10 => ?_) (fun h10 => ?_)
   ·
    skip
    refine Cx.seq (fun K11 k11 => ?_)
    refine Cx.region <| Lx.y (asg rfl) rfl <| Lx.nil <| ?_
    refine Xx.tn (k11 _ _ _ _ ?_)
    refine Cx.ret ?_
    refine Xx.br ?_
    refine Xx.tr ?_
    exact Xx.ret1 rfl rfl ⟨rfl, .mk b Ak ck Av cv Ac cc ks vs [], false, rfl, rfl, leaf_keep hok hmn rfl hin, fun _ => rfl⟩ (Frag.le_refl _) (by rw [← fold_tr])
   ·
    exact absurd rfl h10
 ·
  have hz := h5
  have hcl2 : cs.length = ks.length + 1 := by rcases hcl with h | h; rw [h] at hz; simp at hz; exact h
  have hci : lb ks k < cs.length := by omega
  refine Xx.addrT Ac (by omega) (fun bC hAc _ _ => ?_)
  subst hAc
  have hk1 : 1 ≤ ks.length := hp (fun e => by rw [e] at hci; simp at hci)
  refine Lx.gF rfl rfl rfl rfl <| Lx.y (pickF rfl rfl) rfl <| Lx.y (asg rfl) rfl <| Lx.nil <| ?_
  refine Xx.tn (k4 _ _ _ _ ?_)
  refine Cx.condF rfl ?_
  refine Cx.seq (fun K12 k12 => ?_)
  refine Cx.region <| Lx.y (mv rfl) rfl <| Lx.y (nilc rfl) rfl <| Lx.y (fa' fo113_2 rfl) rfl <| Lx.y (ld U111 rfl rfl rfl) rfl <| Lx.y (lenV (ty' := 0) U111 rfl) rfl <| Lx.y (eqI rfl rfl) rfl <| Lx.y (asg rfl) rfl <| Lx.nil <| ?_
  refine Xx.tn (k12 _ _ _ _ ?_)
  refine Cx.condD rfl (fun h13 => ?_) (fun h13 => ?_)
  ·
   exact absurd h13 (by omega)
  ·
   skip
   refine Cx.seq (fun K14 k14 => ?_)
   refine Cx.region <| Lx.y (mv rfl) rfl <| Lx.y (asg rfl) rfl <| Lx.nil <| ?_
   refine Xx.tn (k14 _ _ _ _ ?_)
   refine Cx.condB rfl (fun h15 => ?_) (fun h15 => ?_)
   ·
    have hin : k ∈ ks := of_decide_eq_true h15
    obtain ⟨hlt, hat⟩ := lb_mem hsk hin
    obtain ⟨d2, hd2, hlast⟩ := il hci
    subst hd2
    refine Xx.openT Ak (by omega) (fun bK spK hAk hkx hkc hkcl => ?_)
    subst hAk
    refine Xx.openT Av (by omega) (fun bV spV hAv hvx hvc hvcl => ?_)
    subst hAv
    refine Cx.drawn (by kernel_rfl) ?_
    refine Dx.p (i := 0) rfl (by kernel_rfl) (mv rfl) rfl ?_
    refine Dx.p (i := 1) rfl (by kernel_rfl) (nilc rfl) rfl ?_
    refine Dx.p (i := 2) rfl (by kernel_rfl) (fa' fo113_0 rfl) rfl ?_
    refine Dx.r (i := 3) rfl (by kernel_rfl) (ld U23 rfl rfl rfl) rfl ?_
    refine Dx.p (i := 4) rfl (by kernel_rfl) (mv rfl) rfl ?_
    refine Dx.p (i := 5) rfl (by kernel_rfl) (mv rfl) rfl ?_
    refine Dx.p (i := 6) rfl (by kernel_rfl) (nilc rfl) rfl ?_
    refine Dx.p (i := 7) rfl (by kernel_rfl) (fa' fo113_1 rfl) rfl ?_
    refine Dx.r (i := 8) rfl (by kernel_rfl) (ld U23 rfl rfl rfl) rfl ?_
    refine Dx.p (i := 9) rfl (by kernel_rfl) (mv rfl) rfl ?_
    refine Dx.p (i := 10) rfl (by kernel_rfl) (mv rfl) rfl ?_
    refine Dx.p (i := 11) rfl (by kernel_rfl) (nilc rfl) rfl ?_
    refine Dx.p (i := 12) rfl (by kernel_rfl) (fa' fo113_2 rfl) rfl ?_
    refine Dx.r (i := 13) rfl (by kernel_rfl) (ld U111 rfl rfl rfl) rfl ?_
    refine Dx.p (i := 14) rfl (by kernel_rfl) (mv rfl) rfl ?_
    refine Dx.p (i := 15) rfl (by kernel_rfl) (ia U111 sz110 rfl rfl (by first | exact Int.toNat_natCast _ | rfl) (by omega) (by omega)) rfl ?_
    refine Dx.r (i := 16) rfl (by kernel_rfl) (ldC U110 rfl rfl (Cells.buf (m := 1) (kid_at hci) (by rw [List.length_map]; omega))) rfl ?_
    refine Dx.one (i := 17) (by kernel_rfl) ?_
    refine Dstep.o (i := 17) rfl (Ox.call rfl rfl rfl (hlast) (fold_kid hci)) rfl (fun v B' H' hΦ hB => ?_)
    obtain ⟨_, rfl, hΦ⟩ := hΦ
    obtain ⟨hBB, kid2, lk9, lv9, rfl, rfl, hkr⟩ := hΦ
    subst hBB
    rename Frag => B
    clear hB
    refine ⟨JOk.edge (JOk.yes (JOk.yes (JOk.yes (JOk.top) (ld U23 rfl rfl rfl)) (ld U23 rfl rfl rfl)) (ld U111 rfl rfl rfl)) (by kernel_rfl), ?_⟩
    refine Dx.p (i := 18) rfl (by kernel_rfl) (mv rfl) rfl ?_
    refine Dx.p (i := 19) rfl (by kernel_rfl) (ext rfl rfl) rfl ?_
    refine Dx.p (i := 20) rfl (by kernel_rfl) (ext rfl rfl) rfl ?_
    refine Dx.p (i := 21) rfl (by kernel_rfl) (ia U23 sz9 rfl rfl (Int.toNat_natCast _) (by omega) (by omega)) rfl ?_
    refine Dx.one (i := 22) (by kernel_rfl) ?_
    refine Dstep.o0 (i := 22) rfl (stO U9 sz9 rfl rfl rfl (by rw [List.length_append, List.length_map]; omega) (frc_gen _ _)) (fun v B' H' hΦ hB => ?_)
    obtain ⟨rfl, rfl⟩ := hΦ; clear hB v
    refine ⟨JOk.edge (JOk.edge (JOk.edge (JOk.edge (JOk.top) (by kernel_rfl)) (by kernel_rfl)) (by kernel_rfl)) (by kernel_rfl), ?_⟩
    refine Dx.p (i := 23) rfl (by kernel_rfl) (ia U23 sz9 rfl rfl (Int.toNat_natCast _) (by omega) (by omega)) rfl ?_
    refine Dx.one (i := 24) (by kernel_rfl) ?_
    refine Dstep.o0 (i := 24) rfl (stO U9 sz9 rfl rfl rfl (by rw [List.length_append, List.length_map]; omega) (frc_gen _ _)) (fun v B' H' hΦ hB => ?_)
    obtain ⟨rfl, rfl⟩ := hΦ; clear hB v
    refine ⟨JOk.edge (JOk.edge (JOk.edge (JOk.edge (JOk.top) (by kernel_rfl)) (by kernel_rfl)) (by kernel_rfl)) (by kernel_rfl), ?_⟩
    refine Dx.done (by kernel_rfl) ?_
    refine Xx.bn ?_
    refine Xx.tn (k3 _ _ _ _ ?_)
    refine Cx.seq (fun K16 k16 => ?_)
    refine Xx.closeT bK ((ks.set (lb ks k) lk9).map str) spK 1 ks.length ck (set_str (by omega)) (by simp) hkc (by rw [List.length_append, List.length_map, List.length_set]; rw [List.length_append, List.length_map] at hkcl; exact hkcl) ?_
    refine Xx.closeT bV ((vs.set (lb ks k) lv9).map str) spV 1 vs.length cv (set_str (by omega)) (by simp) hvc (by rw [List.length_append, List.length_map, List.length_set]; rw [List.length_append, List.length_map] at hvcl; exact hvcl) ?_
    obtain ⟨x1, x2, x3, x4⟩ := here_drop (x := (.mk b (some ⟨bK, 0, none⟩) ck (some ⟨bV, 0, none⟩) cv (some ⟨bC, 0, none⟩) cc (ks.set (lb ks k) lk9) (vs.set (lb ks k) lv9) (cs.set (lb ks k) kid2))) hok hmn ho hin hci hkr rfl rfl rfl
    refine Cx.region <| Lx.y (mv rfl) rfl <| Lx.y (mv rfl) rfl <| ?_
    refine Lx.c rfl rfl rfl (mend_ct N d2 hN (.mk b (some ⟨bK, 0, none⟩) ck (some ⟨bV, 0, none⟩) cv (some ⟨bC, 0, none⟩) cc (ks.set (lb ks k) lk9) (vs.set (lb ks k) lv9) (cs.set (lb ks k) kid2)) (lb ks k) _ (by show lb ks k < (cs.set _ _).length; rw [List.length_set]; exact hci) x1 x2 (show 1 ≤ (ks.set _ _).length by rw [List.length_set]; exact hk1)) ((show _ = tr (d2 + 2) (.mk b (some ⟨bK, 0, none⟩) ck (some ⟨bV, 0, none⟩) cv (some ⟨bC, 0, none⟩) cc (ks.set (lb ks k) lk9) (vs.set (lb ks k) lv9) (cs.set (lb ks k) kid2)) * R by rw [← fold_tr, trs_set _ hci, pts_set hkr.1, List.length_set, List.length_set, List.length_set]; ac_rfl)) rfl ?_
    rintro v1 B1 H1 ⟨rfl, hBB, c2, rfl, hm, hsm⟩ hB1
    subst hBB
    rename Frag => B
    clear hB1
    refine Lx.nil ?_
    refine Xx.tn (k16 _ _ _ _ ?_)
    refine Cx.seq (fun K17 k17 => ?_)
    refine Cx.region <| Lx.y (mv rfl) rfl <| Lx.y (asg rfl) rfl <| Lx.nil <| ?_
    refine Xx.tn (k17 _ _ _ _ ?_)
    refine Cx.ret ?_
    exact Xx.ret1 rfl rfl ⟨rfl, c2, decide (k ∈ ks), rfl, rfl, by rw [decide_eq_true hin]; exact DropR.of (x := (.mk b (some ⟨bK, 0, none⟩) ck (some ⟨bV, 0, none⟩) cv (some ⟨bC, 0, none⟩) cc (ks.set (lb ks k) lk9) (vs.set (lb ks k) lv9) (cs.set (lb ks k) kid2))) rfl ⟨x3, x4⟩ (by show (ks.set _ _).length = ks.length; rw [List.length_set]) hm, fun h9 => absurd h9 (by simp [hin])⟩ (Frag.le_refl _) rfl
   ·
    have hin : k ∉ ks := of_decide_eq_false h15
    obtain ⟨d2, hd2, hdrop⟩ := ih hci
    subst hd2
    refine Cx.region <| Lx.y (mv rfl) rfl <| Lx.y (nilc rfl) rfl <| Lx.y (fa' fo113_2 rfl) rfl <| Lx.y (ld U111 rfl rfl rfl) rfl <| Lx.y (mv rfl) rfl <| Lx.y (ia U111 sz110 rfl rfl (by first | exact Int.toNat_natCast _ | rfl) (by omega) (by omega)) rfl <| Lx.y (ldC U110 rfl rfl (Cells.buf (m := 1) (kid_at hci) (by rw [List.length_map]; omega))) rfl <| Lx.y (mv rfl) rfl <| ?_
    refine Lx.c rfl rfl rfl (hdrop) (fold_kid hci) rfl ?_
    rintro r B1 H1 ⟨hBB, kid2, tv, rfl, rfl, hkr, hks⟩ hB1
    subst hBB
    rename Frag => B
    clear hB1
    refine Lx.y (asg rfl) rfl <| Lx.nil <| Xx.bn <| ?_
    refine Xx.tn (k3 _ _ _ _ ?_)
    refine Cx.seq (fun K18 k18 => ?_)
    obtain ⟨x1, x2, x3, x4⟩ := kid_drop (x := (.mk b Ak ck Av cv (some ⟨bC, 0, none⟩) cc ks vs (cs.set (lb ks k) kid2))) hok hmn ho hin hci hkr rfl rfl rfl
    refine Cx.region <| Lx.y (mv rfl) rfl <| Lx.y (mv rfl) rfl <| ?_
    refine Lx.c rfl rfl rfl (mend_ct N d2 hN (.mk b Ak ck Av cv (some ⟨bC, 0, none⟩) cc ks vs (cs.set (lb ks k) kid2)) (lb ks k) _ (by show lb ks k < (cs.set _ _).length; rw [List.length_set]; exact hci) x1 x2 hk1) ((show _ = tr (d2 + 2) (.mk b Ak ck Av cv (some ⟨bC, 0, none⟩) cc ks vs (cs.set (lb ks k) kid2)) * R by rw [← fold_tr, trs_set _ hci, pts_set hkr.1, List.length_set]; ac_rfl)) rfl ?_
    rintro v1 B1 H1 ⟨rfl, hBB, c2, rfl, hm, hsm⟩ hB1
    subst hBB
    rename Frag => B
    clear hB1
    refine Lx.nil ?_
    refine Xx.tn (k18 _ _ _ _ ?_)
    refine Cx.seq (fun K19 k19 => ?_)
    refine Cx.region <| Lx.y (mv rfl) rfl <| Lx.y (asg rfl) rfl <| Lx.nil <| ?_
    refine Xx.tn (k19 _ _ _ _ ?_)
    refine Cx.ret ?_
    exact Xx.ret1 rfl rfl ⟨rfl, c2, tv, rfl, rfl, DropR.of (x := (.mk b Ak ck Av cv (some ⟨bC, 0, none⟩) cc ks vs (cs.set (lb ks k) kid2))) rfl ⟨x3, x4⟩ rfl hm, fun h9 => by
     have e9 := hks h9
     have e8 : (C.mk b Ak ck Av cv (some ⟨bC, 0, none⟩) cc ks vs (cs.set (lb ks k) kid2)) = C.mk b Ak ck Av cv (some ⟨bC, 0, none⟩) cc ks vs cs := by rw [e9, List.set_getElem_self]
     rw [hsm (by show 3 ≤ ((cs.set (lb ks k) kid2)[lb ks k]'_).ks.length; rw [List.getElem_set_self, e9]; exact (hmn.2 _ (List.getElem_mem hci)).1)]; exact e8⟩ (Frag.le_refl _) rfl
theorem drop_ct (N : Nat) (hN : N ≤ 90) (k : Str8) (B : Frag) : ∀ (d : Nat) (c : C) (M : Nat), M ≤ N → 7 ≤ N → Ok M (d + 1) c → Mn (d + 1) c → Ord (io (d + 1) c) → (d = 0 ∨ 1 ≤ c.ks.length) → DropC M d c k B := by
  intro d
  induction d with
  | zero =>
    intro c M hM h7 hok hmn ho hp
    have hz : ∀ (h : lb c.ks k < c.cs.length), False := fun h => hok.2.2.2 _ (List.getElem_mem h)
    refine drop_step M 0 (by omega) c k B hok hmn ho (srt_of hok ho) (fun h => ?_) (fun h => (hz h).elim) (fun h => (hz h).elim)
    cases hc : c.cs with
    | nil => exact absurd hc h
    | cons p l => exact (hok.2.2.2 p (by rw [hc]; simp)).elim
  | succ d ih =>
    intro c M hM h7 hok hmn ho hp
    have hp1 : 1 ≤ c.ks.length := by rcases hp with h | h; cases h; exact h
    refine drop_step M (d + 1) (by omega) c k B hok hmn ho (srt_of hok ho) (fun _ => hp1) (fun h => ⟨d, rfl, ?_⟩) (fun h => ⟨d, rfl, ?_⟩)
    · have hk := hok.2.2.2 _ (List.getElem_mem h)
      have hm := hmn.2 _ (List.getElem_mem h)
      have hcl : c.cs.length = c.ks.length + 1 := by rcases hok.2.2.1 with z | z; rw [z] at h; simp at h; exact z
      exact ih _ 7 h7 h7 (Ok.of1 hk) hm.2 (kid_ord hok ho hcl h) (.inr (by omega))
    · have hk := hok.2.2.2 _ (List.getElem_mem h)
      have hm := hmn.2 _ (List.getElem_mem h)
      exact last_ct N hN B d _ 7 h7 h7 (Ok.of1 hk) hm.2 (by omega)
end DrE
end Go.Proofs.YtdidpocakipinaaGreatDoor
namespace Go.Proofs.YtdidpocakipinaaGreatDoor
open Go.SL Go.RowKit
set_option maxRecDepth 100000
open Ke1 Ke3 Ke4 Ke5 Ke6 Ke7 Ke8 Ke9 KeA KeB KeC KeD KeE KeF KeG KeI RgA BtB BtC BtD BtE BtG BtX BtH BtI BtF BtJ BtK BtL BtM BtN BtO BtR BtY BtZ DrA DrB DrC DrD DrE
namespace DrF
theorem sz3 : (Tryz.prog.info? 3).map (·.size) = some 1 := by kernel_rfl
theorem sz110 : (Tryz.prog.info? 110).map (·.size) = some 1 := by kernel_rfl
theorem fo113_0 : FO Tryz.prog 113 0 0 1 false := FO.of U113 rfl rfl (by kernel_rfl) U23 rfl rfl
theorem fo113_2 : FO Tryz.prog 113 2 2 1 false := FO.of U113 rfl rfl (by kernel_rfl) U111 rfl rfl
theorem fo115_0 : FO Tryz.prog 115 0 0 1 false := FO.of U115 rfl rfl (by kernel_rfl) U110 rfl rfl
theorem fo115_1 : FO Tryz.prog 115 1 1 1 false := FO.of U115 rfl rfl (by kernel_rfl) U3 rfl rfl
theorem delP_len {k : Str8} {l : List (Str8 × Str8)} (ho : Ord l) : (delP k l).length = if k ∈ l.map (·.1) then l.length - 1 else l.length := by
  induction l with
  | nil => simp [delP]
  | cons p l ih =>
    obtain ⟨h1, h2⟩ := List.pairwise_cons.1 ho
    unfold delP
    by_cases he : p.1 = k
    · have hn : ∀ q ∈ l, q.1 ≠ k := fun q hq e => by have := h1 q hq; rw [he, e, bless_irrefl] at this; cases this
      rw [List.filter_cons_of_neg (by simp [he]), show List.filter (fun p => decide (p.1 ≠ k)) l = l from delP_same hn, if_pos (by simp [he])]; rfl
    · rw [List.filter_cons_of_pos (by simp [he])]
      have h3 : k ∈ (p :: l).map (·.1) ↔ k ∈ l.map (·.1) := by
        rw [List.map_cons, List.mem_cons]
        exact ⟨fun h => h.resolve_left (fun e => he e.symm), .inr⟩
      have h4 := ih h2
      unfold delP at h4
      rw [List.length_cons, h4]
      by_cases hk : k ∈ l.map (·.1)
      · rw [if_pos hk, if_pos (h3.2 hk)]
        have : l ≠ [] := fun e => by rw [e] at hk; cases hk
        have := List.length_pos_iff.2 this
        simp; omega
      · rw [if_neg hk, if_neg (fun h => hk (h3.1 h))]; rfl
theorem root_cells {N0 d tb : Nat} {B : Frag} {R : HP} {vs : List Value} {c : C} : Cells N0 B (row tb 115 vs * (tr (d + 1) c * R)) c.b (0 + 2) [.slice c.Ac c.cs.length c.cc] := by
  refine under ?_
  rw [tr_succ, star_assoc]
  exact Cells.own (n := 1) rfl rfl
theorem kid0_cells {N0 d tb bC : Nat} {B : Frag} {R : HP} {vs : List Value} {c : C} (hA : c.Ac = some ⟨bC, 0, none⟩) (h : 0 < c.cs.length) : Cells N0 B (row tb 115 vs * (tr (d + 1) c * R)) bC (0 + 0 * 1) [pt c.cs[0]] := by
  refine under ?_
  rw [tr_succ, star_assoc]
  refine under ?_
  simp only [star_assoc]
  refine under (under ?_)
  show Cells N0 B (sbuf 110 1 c.Ac c.cs.length c.cc (c.cs.map pt) * _) bC (0 + 0 * 1) [pt c.cs[0]]
  rw [hA]
  exact Cells.buf (m := 1) (kid_at h) (by rw [List.length_map]; omega)
theorem kids_at {e : Env} {ds : List Deferred} {K : Act → World → Prop} {ρ : Sl} {B : Frag} {R : HP} {d tb : Nat} {vs : List Value} {c : C} (h0 : 0 < c.cs.length) (h : ∀ bC, c.Ac = some ⟨bC, 0, none⟩ → Xx e ds K ρ B (row tb 115 vs * (tr (d + 1) c * R))) : Xx e ds K ρ B (row tb 115 vs * (tr (d + 1) c * R)) := by
  refine Xx.perm (H' := cbuf c * (row tb 115 vs * (nrow c * (kbuf c * (vbuf c * (trs (tr d) c.cs * R)))))) ?_ (by rw [tr_succ]; ac_rfl)
  refine Xx.addrT c.Ac (by simpa using h0) (fun bC hA _ _ => ?_)
  exact Xx.perm (h bC hA) (by rw [tr_succ]; ac_rfl)
theorem root_one {f : C → List (Str8 × Str8)} {ks vs : List Str8} {cs : List C} (h1 : ks.length = 0) (h2 : vs.length = 0) (h3 : cs.length = 1) : ioL f ks vs cs = f (cs[0]'(by omega)) := by
  obtain rfl := List.length_eq_zero_iff.1 h1
  obtain rfl := List.length_eq_zero_iff.1 h2
  obtain ⟨c, rfl⟩ := List.length_eq_one_iff.1 h3
  rfl
theorem trs_one (f : C → HP) {cs : List C} (h3 : cs.length = 1) : trs f cs = f (cs[0]'(by omega)) := by
  obtain ⟨c, rfl⟩ := List.length_eq_one_iff.1 h3
  show f c * 1 = f c
  exact star_one _
def Tr90 (d : Nat) (c : C) : Prop := Ok 90 (d + 1) c ∧ Mn (d + 1) c ∧ Ord (io (d + 1) c) ∧ (d = 0 ∨ 1 ≤ c.ks.length)
def DropT (d : Nat) (c : C) (tb : Nat) (k : Str8) (B : Frag) (r : Value) (B' : Frag) (H' : HP) : Prop := B' = B ∧ ∃ d' c', r = .bool (decide (k ∈ (io (d + 1) c).map (·.1))) ∧ H' = tree tb d' c' ∧ Tr90 d' c' ∧ io (d' + 1) c' = delP k (io (d + 1) c)
set_option maxHeartbeats 4000000 in
theorem Drop_ct (d : Nat) (c : C) (tb : Nat) (k : Str8) (B : Frag) (ht : Tr90 d c) (hlen : (io (d + 1) c).length ≤ 80) : Ct Tryz.prog 41 [.pointer (some ⟨tb, 0, none⟩), str k] B (tree tb d c) (DropT d c tb k B) := by
 obtain ⟨hok, hmn, ho, hp⟩ := ht
 have hdl := delP_len (k := k) ho
 refine Ct.of_body Tryz.func41 rfl (nt := 55) rfl (by kernel_rfl) rfl ?_
 intro N0 w0 R
 rw [star_assoc]
 refine Cx.seq (fun K1 k1 => ?_)
 refine Cx.region <| Lx.y (asg rfl) rfl <| Lx.nil <| ?_
 refine Xx.tn (k1 _ _ _ _ ?_)
 refine Cx.seq (fun K2 k2 => ?_)
 refine Cx.seq (fun K3 k3 => ?_)
 refine Cx.region <| Lx.y (mv rfl) rfl <| Lx.y (Yx.ff (eqNilP U83 rfl rfl) rfl) rfl <| Lx.y (mv rfl) rfl <| Lx.gT rfl rfl rfl <| Lx.y (mv rfl) rfl <| Lx.gT rfl rfl rfl <| Lx.y (nilc rfl) rfl <| Lx.gT rfl rfl rfl <| Lx.y (fa' fo115_0 rfl) rfl <| Lx.gT rfl rfl rfl <| Lx.y (ld U110 rfl rfl rfl) rfl <| ?_
 refine Lx.gT rfl rfl rfl <| Lx.y (mv rfl) rfl <| Lx.gT rfl rfl rfl <| ?_
 refine Lx.c rfl rfl rfl (drop_ct 90 (by decide) k _ d c 90 (by decide) (by decide) hok hmn ho hp) (star_left _ _ _) rfl ?_
 rintro r B1 H1 ⟨hBB, c2, tv, rfl, rfl, ⟨q1, q2, q3, q4, q5, q6, q7⟩, q8⟩ hB1
 subst hBB
 rename Frag => B
 clear hB1
 have hpt : pt c = pt c2 := by unfold pt; rw [q1]
 refine Lx.gT rfl rfl rfl <| Lx.y (not' rfl) rfl <| Lx.y (pickF rfl rfl) rfl <| Lx.nil <| ?_
 refine Xx.tn (k3 _ _ _ _ ?_)
 refine Cx.condB rfl (fun h4 => ?_) (fun h4 => ?_)
 ·
  have htv : tv = false := by simpa using h4
  have e8 := q8 htv
  refine Cx.seq (fun K5 k5 => ?_)
  refine Cx.region <| Lx.y (asg rfl) rfl <| Lx.nil <| ?_
  refine Xx.tn (k5 _ _ _ _ ?_)
  refine Cx.ret <| Xx.tr <| ?_
  exact Xx.ret1 rfl rfl ⟨rfl, d, c, by rw [← q5, htv], rfl, ⟨hok, hmn, ho, hp⟩, by rw [e8] at q4; exact q4⟩ (Frag.le_refl _) (by rw [e8]; unfold tree; ac_rfl)
 ·
  have htv : tv = true := by simpa using h4
  have hin : k ∈ (io (d + 1) c).map (·.1) := of_decide_eq_true (q5.symm.trans htv)
  rw [if_pos hin] at hdl
  have hpos : 0 < (io (d + 1) c).length := by have := List.length_pos_of_mem hin; rw [List.length_map] at this; exact this
  rw [star_left]
  refine Cx.skip ?_
  refine Xx.tn (k2 _ _ _ _ ?_)
  refine Cx.seq (fun K6 k6 => ?_)
  refine Cx.region <| Lx.y (mv rfl) rfl <| Lx.y (nilc rfl) rfl <| Lx.y (fa' fo115_1 rfl) rfl <| Lx.y (ld U3 rfl rfl rfl) rfl <| Lx.y (Yx.val (sub rfl rfl (show IntKind.i64.wrap _ = (((io (d + 1) c).length - 1 : Nat) : Int) by rw [wrap64 (by omega) (by omega)]; omega)) (show _ = i64 (((io (d + 1) c).length - 1 : Nat) : Int) from rfl)) rfl <| Lx.y (nilc rfl) rfl <| Lx.y (fa' fo115_1 rfl) rfl <| ?_
  refine Lx.st (stO U3 sz3 rfl rfl rfl (by simp) rfl) ?_
  refine Lx.nil ?_
  refine Xx.tn (k6 _ _ _ _ ?_)
  refine Cx.seq (fun K7 k7 => ?_)
  refine Cx.seq (fun K8 k8 => ?_)
  rw [hpt]
  have hl2 : (io (d + 1) c2).length = (io (d + 1) c).length - 1 := by rw [q4]; exact hdl
  have ho2 : Ord (io (d + 1) c2) := by rw [q4]; exact delP_ord ho
  refine Cx.region <| Lx.y (mv rfl) rfl <| Lx.y (nilc rfl) rfl <| Lx.y (fa' fo115_0 rfl) rfl <| Lx.y (ld U110 rfl rfl rfl) rfl <| Lx.y (nilc rfl) rfl <| Lx.y (fa' fo113_0 rfl) rfl <| Lx.y (ldC U23 rfl rfl root_keys) rfl <| Lx.y (lenV (ty' := 0) U23 rfl) rfl <| Lx.y (eqI rfl rfl) rfl <| Lx.y (mv rfl) rfl <| ?_
  refine Xx.ifD (t := 32) rfl (fun h9 => ?_) (fun h9 => ?_)
  ·
   have h0k := h9
   have h0k : c2.ks.length = 0 := by omega
   refine Lx.gT rfl rfl rfl <| Lx.y (mv rfl) rfl <| Lx.gT rfl rfl rfl <| Lx.y (nilc rfl) rfl <| Lx.gT rfl rfl rfl <| Lx.y (fa' fo115_0 rfl) rfl <| Lx.gT rfl rfl rfl <| Lx.y (ld U110 rfl rfl rfl) rfl <| Lx.gT rfl rfl rfl <| Lx.y (nilc rfl) rfl <| Lx.gT rfl rfl rfl <| Lx.y (fa' fo113_2 rfl) rfl <| ?_
   refine Lx.gT rfl rfl rfl <| Lx.y (ldC U111 rfl rfl root_cells) rfl <| Lx.gT rfl rfl rfl <| Lx.y (lenV (ty' := 0) U111 rfl) rfl <| Lx.gT rfl rfl rfl <| Lx.y (gtr rfl rfl) rfl <| Lx.y (pickT rfl rfl) rfl <| Lx.nil <| ?_
   refine Xx.tn (k8 _ _ _ _ ?_)
   refine Cx.condD rfl (fun h10 => ?_) (fun h10 => ?_)
   ·
    have hck := h10
    have hck : 0 < c2.cs.length := by omega
    refine kids_at hck (fun bC hAc => ?_)
    obtain ⟨d2, hd2⟩ : ∃ d2, d = d2 + 1 := ⟨d - 1, by have := q3.1.2; cases d with | zero => rw [q3.1.2 rfl] at hck; simp at hck | succ d => rfl⟩
    subst hd2
    refine Cx.region <| Lx.y (mv rfl) rfl <| Lx.y (mv rfl) rfl <| Lx.y (nilc rfl) rfl <| Lx.y (fa' fo115_0 rfl) rfl <| Lx.y (ld U110 rfl rfl rfl) rfl <| Lx.y (nilc rfl) rfl <| Lx.y (fa' fo113_2 rfl) rfl <| Lx.y (Yx.val (ldC U111 rfl rfl root_cells) (show _ = Value.slice (some ⟨bC, 0, none⟩) c2.cs.length c2.cc by rw [hAc])) rfl <| Lx.y (ia U111 sz110 rfl rfl (show Int.toNat _ = 0 from rfl) (by omega) (by omega)) rfl <| Lx.y (ldC U110 rfl rfl (kid0_cells hAc hck)) rfl <| Lx.y (nilc rfl) rfl <| ?_
    refine Lx.y (fa' fo115_0 rfl) rfl ?_
    refine Lx.st (stO U110 sz110 rfl rfl rfl (by simp) rfl) ?_
    refine Lx.nil ?_
    refine Xx.tn (k7 _ _ _ _ ?_)
    refine Cx.seq (fun K11 k11 => ?_)
    refine Cx.region <| Lx.y (asg rfl) rfl <| Lx.nil <| ?_
    refine Xx.tn (k11 _ _ _ _ ?_)
    refine Cx.ret ?_
    have h3 := q3.2 _ (List.getElem_mem hck)
    have hc1 : c2.cs.length = 1 := by rcases q2.2.2.1 with z | z; rw [z] at hck; simp at hck; omega
    have hi3 : io (d2 + 2) c2 = io (d2 + 1) c2.cs[0] := root_one h0k (by rw [q2.1]; exact h0k) hc1
    refine Xx.perm (H' := nd c2 * (tree tb d2 c2.cs[0] * R)) ?_ (by rw [tr_nd, trs_one _ hc1]; unfold tree; rw [← hl2, hi3]; ac_rfl)
    refine Xx.drop ?_
    exact Xx.ret1 rfl rfl ⟨rfl, d2, c2.cs[0], by rw [← q5, htv], rfl, ⟨(Ok.of1 (q2.2.2.2 _ (List.getElem_mem hck))).le (by decide), h3.2, by rw [← hi3]; exact ho2, .inr (by omega)⟩, by rw [← hi3]; exact q4⟩ (Frag.le_refl _) rfl
   ·
    have hck := h10
    have hck : c2.cs.length = 0 := by omega
    refine Cx.skip ?_
    refine Xx.tn (k7 _ _ _ _ ?_)
    refine Cx.seq (fun K12 k12 => ?_)
    refine Cx.region <| Lx.y (asg rfl) rfl <| Lx.nil <| ?_
    refine Xx.tn (k12 _ _ _ _ ?_)
    refine Cx.ret ?_
    exact Xx.ret1 rfl rfl ⟨rfl, d, c2, by rw [← q5, htv], rfl, ⟨q2, q3, ho2, .inl (q3.1.1 (List.length_eq_zero_iff.1 hck))⟩, q4⟩ (Frag.le_refl _) (by unfold tree; rw [hl2]; ac_rfl)
  ·
   have h0k := h9
   have h0k : c2.ks.length ≠ 0 := by omega
   refine Lx.gF rfl rfl rfl rfl <| Lx.gF rfl rfl rfl rfl <| Lx.gF rfl rfl rfl rfl <| Lx.gF rfl rfl rfl rfl <| Lx.gF rfl rfl rfl rfl <| Lx.gF rfl rfl rfl rfl <| Lx.gF rfl rfl rfl rfl <| Lx.gF rfl rfl rfl rfl <| Lx.gF rfl rfl rfl rfl <| Lx.y (pickF rfl rfl) rfl <| Lx.nil <| ?_
   refine Xx.tn (k8 _ _ _ _ ?_)
   refine Cx.condF rfl <| Cx.skip <| ?_
   refine Xx.tn (k7 _ _ _ _ ?_)
   refine Cx.seq (fun K13 k13 => ?_)
   refine Cx.region <| Lx.y (asg rfl) rfl <| Lx.nil <| ?_
   refine Xx.tn (k13 _ _ _ _ ?_)
   refine Cx.ret ?_
   exact Xx.ret1 rfl rfl ⟨rfl, d, c2, by rw [← q5, htv], rfl, ⟨q2, q3, ho2, .inr (by omega)⟩, q4⟩ (Frag.le_refl _) (by unfold tree; rw [hl2]; ac_rfl)
end DrF
end Go.Proofs.YtdidpocakipinaaGreatDoor
