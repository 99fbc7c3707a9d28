/-
  Ranges over functions whose list is not known ahead; the going over a map of things; the library's sort of numbers.
-/
import Derived.Test.YtgcebieihmlaoaaSlu
import Derived.Sort.OwnSortedInts
namespace Go.SL
open Go.RowKit
open Go.ChangeMaps (setBlock)
open Go.Sort Go.Proofs
set_option linter.unusedVariables false
set_option linter.unusedSimpArgs false
/-- An iterator's contract: what it hands to yield is told as it comes: Adm: what may have come so far; Fn: all that came. -/
def ItA (P : Program) (gf : FuncId) (caps : List Value) {α : Type} (enc : α → List Value) (Adm Fn : List α → Prop) (B : Frag) (own : HP) : Prop :=
  (∀ args w, (callFunc gf args).run P w = .ok (.enter gf args) w) ∧
  ∀ (l : Nat) (J Jx : List α → Frag → HP → Prop),
    (∀ pre x B1 H1, Adm (pre ++ [x]) → B.le B1 → J pre B1 H1 → Yd P l (enc x) B1 H1 fun t B' H' => (t = true ∧ J (pre ++ [x]) B' H') ∨ (t = false ∧ Jx (pre ++ [x]) B' H')) →
    ∀ B1 H1, B.le B1 → J [] B1 H1 → Ct P gf (.func (.yield l) #[] #[] :: caps) B1 (own * H1) fun v B' H' => ∃ H2, H' = own * H2 ∧ ((∃ xs, Fn xs ∧ J xs B' H2) ∨ ∃ pre, Jx pre B' H2)

section
variable {e : Env} {ds : List Deferred} {Q : Exit → Act → World → Prop} {ρ ρ' : Sl} {B B' B0 B1 : Frag} {H H' R : HP} {K : Act → World → Prop} {P : Program} {α : Type}
/-- A range over a function, outside of every other one. -/
theorem Cx.rangeAF {g : Operand} {ps : Array Tmp} {assign body : Code} {gf : FuncId} {caps : List Value} {enc : α → List Value} {Adm Fn : List α → Prop} {own H1 R : HP}
    (hr : e.r = none) (hg : ev ρ g = some (.func (.func gf) #[] caps.toArray)) (hIt : ItA e.P gf caps enc Adm Fn B own) (hH : H = own * (H1 * R)) (hnt : ps.toList.all (fun p => Nat.blt p e.nt) = true) (hps : ∀ x, (enc x).length = ps.size)
    (J : List α → Frag → HP → Prop) (Jx : Code → List α → Frag → HP → Prop) (AS : List α → α → Frag → Sl → Frag → HP → Prop) (h0 : J [] B H1)
    (hassign : ∀ (l N0 : Nat) (w0 : World) pre x B1 H1 (F : HP) (K : Act → World → Prop), Adm (pre ++ [x]) → B.le B1 → J pre B1 H1 →
      (∀ ρ' B' H', AS pre x B1 ρ' B' H' → B1.le B' → Xx ⟨e.P, some l, N0, w0, e.nt⟩ [] K ρ' B' (H' * F)) →
      Cx ⟨e.P, some l, N0, w0, e.nt⟩ [] assign (Exit.then K (fun _ _ _ => False)) (asgn ps.toList (enc x) ρ) B1 (H1 * F))
    (hbody : ∀ (l N0 : Nat) (w0 : World) pre x B1 (F : HP) ρ' B' H', Adm (pre ++ [x]) → B.le B1 → B1.le B' → AS pre x B1 ρ' B' H' → Cx ⟨e.P, some l, N0, w0, e.nt⟩ [] body (RQ N0 w0 B1 J Jx (pre ++ [x]) F) ρ' B' (H' * F))
    (hdone : ∀ D xs B' H', Fn xs → B.le B' → J xs B' H' → Xx e (mark D :: ds) (Q .normal) ρ B' (H' * (blk D dfr * (own * R))))
    (hstop : ∀ D c pre B' H', B.le B' → Jx c pre B' H' → Cx e (mark D :: ds) c Q ρ B' (H' * (blk D dfr * (own * R)))) :
    Cx e ds (.rangeFunc g ps assign body) Q ρ B H := by
  intro a w f b s
  refine wpIn_rangeFunc ?_
  intro fn _
  have hgv := f.ev _ _ hg
  have s1 := (s.alloc dfr).alloc (.loop (mkRec fn a.tmps ps assign body w.heap.size .ready none))
  have b1 : Below e.N0 e.w0 ((w.alloc dfr).alloc (.loop (mkRec fn a.tmps ps assign body w.heap.size .ready none))) := (b.alloc s.sz _).alloc (s.alloc dfr).sz _
  rw [World.size_alloc, hH] at s1
  -- the loop's record l, the block D
  generalize hl : w.heap.size + 1 = l at *
  generalize hD : w.heap.size = D at *
  generalize hw1 : (w.alloc dfr).alloc (.loop (mkRec fn a.tmps ps assign body D .ready none)) = w1 at *
  have s2 : St e.N0 B ((own * (H1 * (blk l (.loop (mkRec fn a.tmps ps assign body D .ready none)) * blk D dfr))) * R) w1 := by
    exact s1.of_eq (by ac_rfl)
  have heg := hIt.1 #[.func (.yield l) #[] #[], ] w1
  let J' : List α → Frag → HP → Prop := fun pre B' H' => ∃ H1, H' = H1 * (blk l (.loop (mkRec fn a.tmps ps assign body D .ready none)) * blk D dfr) ∧ J pre B' H1
  let Jx' : List α → Frag → HP → Prop := fun pre B' H' => ∃ c H1, H' = H1 * (blk l (.loop (mkRec fn a.tmps ps assign body D .done (some c))) * blk D dfr) ∧ Jx c pre B' H1
  have hct := hIt.2 l J' Jx' ?round B _ (Frag.le_refl _) ⟨H1, rfl, h0⟩
  case round =>
    rintro pre x B1 _ hxs hB1 ⟨H2, rfl, hJ⟩ N0 wy Rf sy
    have hrl : wy.heap[l]? = some (.loop (mkRec fn a.tmps ps assign body D .ready none)) := by
      have : St N0 B1 (blk l (.loop (mkRec fn a.tmps ps assign body D .ready none)) * (H2 * (blk D dfr * Rf))) wy := sy.of_eq (by ac_rfl)
      exact this.blk.1
    have hy := run_yield (P := e.P) (args := (enc x).toArray) hrl (by simpa using hps x)
    refine ⟨fn, _, assign, body, hy, roundIn_of_wpIn trivial ?_⟩
    have hfr := asgn_fr (nt := e.nt) ps.toList (enc x) ρ a.tmps hnt ⟨f.size, f.get, rfl⟩
    have hzip : (ps.zip (enc x).toArray).foldl (fun tmps (t, a) => tmps.setIfInBounds t a) a.tmps = (ps.toList.zip (enc x)).foldl (fun t (y : Tmp × Value) => t.setIfInBounds y.1 y.2) a.tmps := by
      rw [← Array.foldl_toList, Array.toList_zip]
    show Code.wpIn (FW (some l)) 0 e.P assign _ { tmps := (ps.zip (enc x).toArray).foldl (fun tmps (t, a) => tmps.setIfInBounds t a) a.tmps, defers := [] } wy
    rw [hzip]
    refine hassign l N0 wy pre x B1 H2 ((blk l (.loop (mkRec fn a.tmps ps assign body D .ready none)) * blk D dfr) * Rf) _ hxs hB1 hJ ?_ _ wy hfr (Below.refl _ _) (by rw [← star_assoc]; exact sy)
    intro ρ' B' H' hAS hB' a1 wa fa ba sa
    have sa' : St N0 B' (blk l (.loop (mkRec fn a.tmps ps assign body D .ready none)) * (H' * (blk D dfr * Rf))) wa := sa.of_eq (by ac_rfl)
    have hbr := run_beginRound (P := e.P) sa'.blk.1 rfl
    refine ⟨_, hbr, ?_⟩
    have sb := sa'.putObj (o' := .loop { mkRec fn a.tmps ps assign body D .ready none with state := .busy })
    have sb2 : St N0 B' (H' * ((blk l (.loop { mkRec fn a.tmps ps assign body D .ready none with state := .busy }) * blk D dfr) * Rf)) (wa.putObj l (.loop { mkRec fn a.tmps ps assign body D .ready none with state := .busy })) := sb.1.of_eq (by ac_rfl)
    refine wpIn_mono (hbody l N0 wy pre x B1 _ ρ' B' H' hxs hB1 hB' hAS a1 _ fa (ba.trans sb.2) sb2) ?_
    have fin : ∀ (jump : Option Code) (w3 : World) B3 H3, St N0 B3 (H3 * ((blk l (.loop { mkRec fn a.tmps ps assign body D .ready none with state := .busy }) * blk D dfr) * Rf)) w3 →
        (Instr.endRound l jump).run e.P w3 = .ok (.bool jump.isNone) (w3.putObj l (.loop (mkRec fn a.tmps ps assign body D (if jump.isNone then .ready else .done) jump))) ∧ Below N0 w3 (w3.putObj l (.loop (mkRec fn a.tmps ps assign body D (if jump.isNone then .ready else .done) jump))) ∧
        St N0 B3 ((H3 * (blk l (.loop (mkRec fn a.tmps ps assign body D (if jump.isNone then .ready else .done) jump)) * blk D dfr)) * Rf) (w3.putObj l (.loop (mkRec fn a.tmps ps assign body D (if jump.isNone then .ready else .done) jump))) := by
      intro jump w3 B3 H3 s3
      have s3' : St N0 B3 (blk l (.loop { mkRec fn a.tmps ps assign body D .ready none with state := .busy }) * (H3 * (blk D dfr * Rf))) w3 := s3.of_eq (by ac_rfl)
      have h1 := run_endRound (P := e.P) jump s3'.blk.1
      have h2 := s3'.putObj (o' := .loop (mkRec fn a.tmps ps assign body D (if jump.isNone then .ready else .done) jump))
      refine ⟨h1, h2.2, h2.1.of_eq (by ac_rfl)⟩
    rintro x3 a3 w3 hp
    cases x3 with
    | normal =>
      obtain ⟨B3, H3, hJ3, hB3, b3, s3⟩ := hp
      obtain ⟨h1, h2, h3⟩ := fin none w3 B3 H3 s3
      exact ⟨_, _, h1, true, B3, _, rfl, .inl ⟨rfl, H3, rfl, hJ3⟩, hB3, b3.trans h2, h3⟩
    | ret =>
      obtain ⟨B3, H3, hJ3, hB3, b3, s3⟩ := hp
      obtain ⟨h1, h2, h3⟩ := fin (some .ret) w3 B3 H3 s3
      exact ⟨_, _, h1, false, B3, _, rfl, .inr ⟨rfl, _, H3, rfl, hJ3⟩, hB3, b3.trans h2, h3⟩
    | exit id =>
      obtain ⟨B3, H3, hJ3, hB3, b3, s3⟩ := hp
      obtain ⟨h1, h2, h3⟩ := fin (some (.exit id)) w3 B3 H3 s3
      exact ⟨_, _, h1, false, B3, _, rfl, .inr ⟨rfl, _, H3, rfl, hJ3⟩, hB3, b3.trans h2, h3⟩
    | goto t => exact hp.elim
    | panic ch => exact hp.elim
    | outgrown => exact hp.elim
  refine ⟨l, [mark D], w1, { target := .fn (.func gf) caps.toArray, args := #[.func (.yield l) #[] #[]] }, w1, gf, (.func (.yield l) #[] #[] :: caps).toArray, w1, ?_, ?_, fun _ _ => trivial, ?_, fun h => by simp [FW] at h, ?_⟩
  · have : (FW e.r).round = none := hr
    rw [this, ← hw1, ← hl]
    have := run_enterLoop_outer (P := e.P) (w := w) fn a.tmps ps assign body
    rw [hD] at this
    exact this
  · simp only [resolve, hgv, Deferred.ofValue]
    simp [Act.eval]
  · simp only [invoke]
    have := hIt.1 (#[.func (.yield l) #[] #[]] ++ caps.toArray) w1
    simpa using this
  · refine callsIn_FW.2 ((hct.2 e.N0 w1 R s2).mono ?_)
    rintro y w2 ⟨v, B', _, rfl, ⟨H2, rfl, (⟨xs, hxs, H3, rfl, hJ⟩ | ⟨pre, c, H3, rfl, hJ⟩)⟩, hB', b2, s3⟩
    · have s3' : St e.N0 B' (blk l (.loop (mkRec fn a.tmps ps assign body D .ready none)) * (H3 * (blk D dfr * (own * R)))) w2 := s3.of_eq (by ac_rfl)
      have h1 := run_endLoop (P := e.P) s3'.blk.1 (by simp)
      have h2 := s3'.putObj (o' := .loop { mkRec fn a.tmps ps assign body D .ready none with state := .exhausted })
      refine ⟨none, _, h1, ?_⟩
      exact hdone D xs B' H3 hxs hB' hJ _ _ ⟨f.size, f.get, by simp [f.defers]⟩ ((b1.trans b2).trans h2.2) h2.1.drop
    · have s3' : St e.N0 B' (blk l (.loop (mkRec fn a.tmps ps assign body D .done (some c))) * (H3 * (blk D dfr * (own * R)))) w2 := s3.of_eq (by ac_rfl)
      have h1 := run_endLoop (P := e.P) s3'.blk.1 (by simp)
      have h2 := s3'.putObj (o' := .loop { mkRec fn a.tmps ps assign body D .done (some c) with state := .exhausted })
      refine ⟨some c, _, h1, ?_⟩
      exact hstop D c pre B' H3 hB' hJ _ _ ⟨f.size, f.get, by simp [f.defers]⟩ ((b1.trans b2).trans h2.2) h2.1.drop

/-- The same; σ: slots that the rounds may look at. -/
theorem Cx.rangeA {g : Operand} {ps : Array Tmp} {assign body : Code} {gf : FuncId} {caps : List Value} {enc : α → List Value} {Adm Fn : List α → Prop} {own H1 R : HP} {σ : Sl} (hσ : Sub ρ σ)
    (hr : e.r = none) (hg : ev ρ g = some (.func (.func gf) #[] caps.toArray)) (hIt : ItA e.P gf caps enc Adm Fn B own) (hH : H = own * (H1 * R)) (hnt : ps.toList.all (fun p => Nat.blt p e.nt) = true) (hps : ∀ x, (enc x).length = ps.size)
    (J : List α → Frag → HP → Prop) (Jx : Code → List α → Frag → HP → Prop) (AS : List α → α → Frag → Sl → Frag → HP → Prop) (h0 : J [] B H1)
    (hassign : ∀ (l N0 : Nat) (w0 : World) pre x B1 H1 (F : HP) (K : Act → World → Prop), Adm (pre ++ [x]) → B.le B1 → J pre B1 H1 →
      (∀ ρ' B' H', AS pre x B1 ρ' B' H' → B1.le B' → Xx ⟨e.P, some l, N0, w0, e.nt⟩ [] K (ρ' ++ σ) B' (H' * F)) →
      Cx ⟨e.P, some l, N0, w0, e.nt⟩ [] assign (Exit.then K (fun _ _ _ => False)) (asgn ps.toList (enc x) ρ) B1 (H1 * F))
    (hbody : ∀ (l N0 : Nat) (w0 : World) pre x B1 (F : HP) ρ' B' H', Adm (pre ++ [x]) → B.le B1 → B1.le B' → AS pre x B1 ρ' B' H' → Cx ⟨e.P, some l, N0, w0, e.nt⟩ [] body (RQ N0 w0 B1 J Jx (pre ++ [x]) F) (ρ' ++ σ) B' (H' * F))
    (hdone : ∀ D xs B' H', Fn xs → B.le B' → J xs B' H' → Xx e (mark D :: ds) (Q .normal) ρ B' (H' * (blk D dfr * (own * R))))
    (hstop : ∀ D c pre B' H', B.le B' → Jx c pre B' H' → Cx e (mark D :: ds) c Q ρ B' (H' * (blk D dfr * (own * R)))) :
    Cx e ds (.rangeFunc g ps assign body) Q ρ B H :=
  Cx.rangeAF hr hg hIt hH hnt hps J Jx (fun pre x B1 ρ' B' H' => ∃ ρ'', ρ' = ρ'' ++ σ ∧ AS pre x B1 ρ'' B' H') h0
    (fun l N0 w0 pre x B1 H1 F K hxs hB1 hJ hK => hassign l N0 w0 pre x B1 H1 F K hxs hB1 hJ fun ρ' B' H' hAS hB' => hK _ B' H' ⟨ρ', rfl, hAS⟩ hB')
    (fun l N0 w0 pre x B1 F ρ' B' H' hxs hB1 hB' ⟨ρ'', h1, hAS⟩ => by subst h1; exact hbody l N0 w0 pre x B1 F ρ'' B' H' hxs hB1 hB' hAS) hdone hstop

end
section
variable {α : Type} {kv : α → Int × Value}
/-- A thing of a map, with its stamp. -/
def mz (kv : α → Int × Value) (z : α × Nat) : Me := ((kv z.1).1, (kv z.1).2, z.2)
theorem zip_of {T : List Me} {fs : List α} (h : kvs T = fs.map kv) : ∃ Z : List (α × Nat), T = Z.map (mz kv) ∧ Z.map (·.1) = fs := by
  induction T generalizing fs with
  | nil =>
    cases fs with
    | nil => exact ⟨[], rfl, rfl⟩
    | cons f fs => cases h
  | cons t T ih =>
    cases fs with
    | nil => cases h
    | cons f fs =>
      injection h with h1 h2
      obtain ⟨Z, rfl, rfl⟩ := ih h2
      refine ⟨(f, t.2.2) :: Z, ?_, rfl⟩
      rw [List.map_cons]
      congr 1
      unfold mz
      rw [← h1]
def VisF (Z dz : List (α × Nat)) : Prop := (∀ z ∈ dz, z ∈ Z) ∧ (dz.map fun z => z.2).Nodup
theorem VisF.nil (Z : List (α × Nat)) : VisF Z [] := ⟨fun t h => absurd h List.not_mem_nil, List.nodup_nil⟩
def AfterF (Z dz dz' : List (α × Nat)) : Option (α × Nat) → Prop
  | none => dz' = dz ∧ ∀ z ∈ Z, z.2 ∈ dz.map fun z => z.2
  | some z => dz' = dz ++ [z] ∧ z ∈ Z ∧ z.2 ∉ dz.map fun z => z.2
theorem mz_stamps (Z : List (α × Nat)) : (Z.map (mz kv)).map (fun t => t.2.2) = Z.map fun z => z.2 := by rw [List.map_map]; rfl
theorem VisF.vis {Z dz : List (α × Nat)} (h : VisF Z dz) : Vis (Z.map (mz kv)) (dz.map (mz kv)) :=
  ⟨fun t ht => by obtain ⟨z, hz, rfl⟩ := List.mem_map.1 ht; exact List.mem_map.2 ⟨z, h.1 z hz, rfl⟩, by rw [mz_stamps]; exact h.2⟩
theorem VisF.step {Z dz : List (α × Nat)} {z : α × Nat} (h : VisF Z dz) (hz : z ∈ Z) (hn : z.2 ∉ dz.map fun z => z.2) : VisF Z (dz ++ [z]) := by
  refine ⟨fun u hu => ?_, ?_⟩
  · rcases List.mem_append.1 hu with hu | hu
    · exact h.1 u hu
    · rw [List.mem_singleton.1 hu]; exact hz
  · rw [List.map_append, List.nodup_append]
    refine ⟨h.2, by simp, fun a ha b hb => ?_⟩
    simp at hb
    subst hb
    exact fun e => hn (e ▸ ha)
theorem VisF.len {Z dz : List (α × Nat)} (h : VisF Z dz) : dz.length ≤ Z.length := nodup_len _ _ (nodup_of_map _ h.2) h.1
theorem stampF_inj : ∀ {Z : List (α × Nat)}, (Z.map fun z => z.2).Nodup → ∀ {a b : α × Nat}, a ∈ Z → b ∈ Z → a.2 = b.2 → a = b := by
  intro Z
  induction Z with
  | nil => intro _ a b ha; cases ha
  | cons t T ih =>
    intro hn a b ha hb e
    rw [List.map_cons, List.nodup_cons] at hn
    rcases List.mem_cons.1 ha with h1 | ha
    · rcases List.mem_cons.1 hb with h2 | hb
      · rw [h1, h2]
      · exact absurd (List.mem_map.2 ⟨b, hb, by rw [← e, h1]⟩) hn.1
    · rcases List.mem_cons.1 hb with h2 | hb
      · exact absurd (List.mem_map.2 ⟨a, ha, by rw [e, h2]⟩) hn.1
      · exact ih hn.2 ha hb e
theorem VisF.all {Z dz : List (α × Nat)} {c : Nat} (h : VisF Z dz) (hs : Stp (Z.map (mz kv)) c) (hall : ∀ z ∈ Z, z.2 ∈ dz.map fun z => z.2) : (dz.map (·.1)).Perm (Z.map (·.1)) := by
  have hs1 := hs.1
  rw [mz_stamps] at hs1
  refine List.Perm.map _ ((List.perm_ext_iff_of_nodup (nodup_of_map _ h.2) (nodup_of_map _ hs1)).2 fun t => ⟨fun ht => h.1 t ht, fun ht => ?_⟩)
  obtain ⟨u, hu, e⟩ := List.mem_map.1 (hall t ht)
  rw [← stampF_inj hs1 (h.1 u hu) ht e]; exact hu
end
section
variable {e : Env} {ds : List Deferred} {ρ : Sl} {B : Frag} {H R R2 : HP} {t kt et ty : TypeId} {x : Operand} {b i c : Nat} {α : Type} {kv : α → Int × Value} {Z dz : List (α × Nat)}
theorem Xx.openF {K : Act → World → Prop} {fs : List α} (b : Nat) [hp : PickM H b (fs.map kv) R] (h : ∀ (Z : List (α × Nat)) c, Stp (Z.map (mz kv)) c → Z.map (·.1) = fs → Xx e ds K ρ B (blk b (mapObj (Z.map (mz kv)) c) * R)) : Xx e ds K ρ B H :=
  Xx.openM b fun T c hs hl => by
    obtain ⟨Z, rfl, hZ⟩ := zip_of hl
    exact h Z c hs hZ
theorem Xx.closeF {K : Act → World → Prop} {fs : List α} (b : Nat) {c : Nat} [hp : PickB H b (mapObj (Z.map (mz kv)) c) R] (hs : Stp (Z.map (mz kv)) c) (hZ : Z.map (·.1) = fs) (h : Xx e ds K ρ B (imap b (fs.map kv) * R)) : Xx e ds K ρ B H :=
  Xx.closeM b hs (by
    have e9 : kvs (Z.map (mz kv)) = fs.map kv := by
      rw [← hZ]; unfold kvs; rw [List.map_map, List.map_map]; rfl
    rw [e9]; exact h)
/-- One step of the going over a map. -/
theorem nxF (hs : Stp (Z.map (mz kv)) c) (hv : VisF Z dz) (hx : ev ρ x = some (.pointer (some ⟨i, 0, none⟩))) [h1 : PickB H i (itObj b c (dz.map (mz kv))) R] [h2 : PickB R b (mapObj (Z.map (mz kv)) c) R2] :
    Ox e ds (.next x false) ty ρ B H (fun v B' H' => ∃ o dz', v = .tuple (nx (o.map (mz kv))) ∧ AfterF Z dz dz' o ∧ B' = B ∧ H' = blk i (itObj b c (dz'.map (mz kv))) * R) := by
  have h := nxM (e := e) (ds := ds) (B := B) (ty := ty) hs (hv.vis (kv := kv)) hx (H := H) (R := R) (R2 := R2)
  refine ⟨h.1, fun a w dst pos after guard K Q f b s k => h.2 a w dst pos after guard K Q f b s fun v B' H' w' ⟨o, done', e1, e2, e3, e4⟩ hB hb hs => k v B' H' w' ?_ hB hb hs⟩
  cases o with
  | none =>
    obtain ⟨rfl, hall⟩ := e2
    refine ⟨none, dz, e1, ⟨rfl, fun z hz => ?_⟩, e3, e4⟩
    have := hall (mz kv z) (List.mem_map.2 ⟨z, hz, rfl⟩)
    rw [mz_stamps] at this
    exact this
  | some t =>
    obtain ⟨rfl, ht, hn⟩ := e2
    obtain ⟨z, hz, rfl⟩ := List.mem_map.1 ht
    rw [mz_stamps] at hn
    exact ⟨some z, dz ++ [z], e1, ⟨rfl, hz, hn⟩, e3, by rw [e4, List.map_append]; rfl⟩
/-- What came last. -/
theorem entF {P : Program} {N0 : Nat} {z : α × Nat} (hs : Stp (Z.map (mz kv)) c) (hz : z ∈ Z) (hx : ev ρ x = some (.pointer (some ⟨i, 0, none⟩))) [h1 : PickB H i (itObj b c ((dz ++ [z]).map (mz kv))) R] [h2 : PickB R b (mapObj (Z.map (mz kv)) c) R2] :
    Yx P (.entry x) ty ρ (St N0 B H) (.tuple #[.int .i64 (kv z.1).1, (kv z.1).2]) := .of (fun _ h => by cases h) fun f w _ _ _ _ he s => by
  have s1 : St N0 B (blk i (itObj b c ((dz ++ [z]).map (mz kv))) * R) w := h1.eq ▸ s
  have s2 : St N0 B (blk b (mapObj (Z.map (mz kv)) c) * R2) w := h2.eq ▸ s1.drop
  have hi := s1.blk.1
  have hb := s2.blk.1
  have hbk : (((dz ++ [z]).map (mz kv)).map fun t => t.2.2).toArray.back? = some z.2 := by
    rw [mz_stamps]; simp
  have hf : ((Z.map (mz kv)).map me).toArray.find? (fun e => e.born == z.2) = some (me (mz kv z)) := by
    have := find_born (me (mz kv z)) ((Z.map (mz kv)).map me) (by
      rw [List.map_map]
      exact hs.1) (List.mem_map.2 ⟨_, List.mem_map.2 ⟨z, hz, rfl⟩, rfl⟩)
    rw [List.find?_toArray]
    exact this
  have hr : (Instr.entry (.pointer (some ⟨i, 0, none⟩))).run P w = .ok (.tuple #[.int .i64 (kv z.1).1, (kv z.1).2]) w := by
    simp only [Instr.entry, getObj, Sem.run_bind, Sem.run, hi, hb, Result.andThen, hbk, bne_self_eq_false, Bool.false_eq_true, if_false, hf]
    rfl
  simp [execOp, he _ _ hx, hr, Result.andThen]
end
/-- A block of one's own turns; other blocks may come. -/
theorem St.putG {N0 : Nat} {B : Frag} {b : Nat} {o o' : Obj} {R : HP} {w w' : World} (h : St N0 B (SL.blk b o * R) w) (hb : w'.heap[b]? = some o') (hs : ∀ k, k < w.heap.size → k ≠ b → w'.heap[k]? = w.heap[k]?)
    (hz' : w.heap.size ≤ w'.heap.size) : St N0 B (SL.blk b o' * R) w' := by
  have hlt : ∀ {b : Nat} {u : Obj}, w.heap[b]? = some u → b < w.heap.size := fun h => (Array.getElem?_eq_some_iff.1 h).1
  obtain ⟨_, hB, hN⟩ := h.blk
  obtain ⟨hr, hz, k, hk, a, c, d, e, x, y⟩ := h
  have hx : a = Frag.one b o := x
  subst hx
  refine ⟨fun i u hi => ?_, Nat.le_trans hz hz', (Frag.one b o').un c, fun i u hi => ?_, Frag.one b o', c, fun i => ?_, rfl, rfl, y⟩
  · rw [hs i (hlt (hr i u hi)) (fun e => by subst e; rw [hB] at hi; cases hi)]; exact hr i u hi
  · by_cases e2 : i = b
    · subst e2
      simp [Frag.un, Frag.one] at hi
      subst hi
      exact ⟨hb, hB, hN⟩
    · have h2 : (Frag.un (Frag.one b o) c) i = some u := by
        simp [Frag.un, Frag.one, e2] at hi ⊢; exact hi
      rw [← e] at h2
      rw [hs i (hlt (hk i u h2).1) e2]
      exact hk i u h2
  · rcases d i with z | z
    · left
      simp only [Frag.one] at z ⊢
      split at z
      · cases z
      · rename_i hne; simp [hne]
    · exact .inr z
abbrev ints (zs : List Int) : List Value := zs.map (Value.int .i64)
abbrev sortI (zs : List Int) : List Int := zs.mergeSort fun x y => decide (x ≤ y)
/-- The library's sort of numbers, as a contract. -/
theorem Ct.of_sort {P : Program} {f : FuncId} (he : ∀ args w, (callFunc f args).run P w = .ok (.enter f args) w)
    (h1 : ∀ (blk off cap : Nat) (zs : List Int) (w : World), Holds (Value.int .i64) w blk off zs.toArray → blk < w.heap.size → zs.length < 4611686018427387904 →
      Calls P f #[.slice (some ⟨blk, off, none⟩) zs.length cap] w fun e w' => e = .returned (.tuple #[]) ∧ ∃ n os, w' = grow (putRow (Value.int .i64) (Sort.ahead w n) blk off (sortI zs).toArray) os)
    (h0 : ∀ (p : Option Addr) (cap : Nat) (w : World), Calls P f #[.slice p 0 cap] w fun e w' => e = .returned (.tuple #[]) ∧ w' = w)
    (zs : List Int) (A : Option Addr) (c : Nat) (et : TypeId) (B : Frag) (hz : zs.length < 4611686018427387904) :
    Ct P f [.slice A zs.length c] B (sbuf et 1 A zs.length c (ints zs)) (fun v B' H' => B' = B ∧ v = .tuple #[] ∧ H' = sbuf et 1 A zs.length c (ints (sortI zs))) :=
  ⟨he, fun N0 w R s => by
    have hln : (sortI zs).length = zs.length := List.length_mergeSort _
    rcases s.cases_sbuf with ⟨e1, e2, e3, e4, s'⟩ | ⟨b, sp, e1, e2, e3, e4, s'⟩
    · have e5 : zs = [] := by simpa using e4
      subst e5 e1 e3
      refine (h0 none 0 w).mono ?_
      rintro x w' ⟨rfl, rfl⟩
      refine ⟨_, B, _, rfl, ⟨rfl, rfl, rfl⟩, Frag.le_refl _, Below.refl _ _, ?_⟩
      have : sortI [] = [] := by simp [sortI]
      rw [this]; exact s
    · subst e1
      have hb := s'.blk.1
      have hlt : b < w.heap.size := (Array.getElem?_eq_some_iff.1 hb).1
      have hH : Holds (Value.int .i64) w b 0 zs.toArray := holds_of_blockI hb (by simp [ints])
      refine (h1 b 0 c zs w hH hlt hz).mono ?_
      rintro x w' ⟨rfl, n, os, rfl⟩
      have hg := grownBy_sortedI (w := w) (g := b) (n := n) (os := os) (sortI zs).toArray
      have hp := heap_sortedI (n := n) (os := os) (sortI zs).toArray hb
      have s2 := s'.putG hp (fun k hk hne => hg.block k hk (fun e => hne (Option.some.inj e))) hg.size
      have hcells : putCells (Value.int .i64) 0 (sortI zs).toArray (ints zs ++ sp).toArray = (ints (sortI zs) ++ sp).toArray := by
        have t1 := take_putCellsI (ints zs ++ sp).toArray (sortI zs) (by simp [ints, hln])
        apply Array.toList_inj.1
        apply List.ext_getElem?
        intro j
        by_cases hj : j < (sortI zs).length
        · rw [← List.getElem?_take_of_lt hj, t1, List.getElem?_append_left (by simpa [ints] using hj)]
        · rw [List.getElem?_append_right (by simp [ints]; omega)]
          simp only [Array.getElem?_toList, putCells, Array.getElem?_mapIdx, List.getElem?_toArray]
          rw [List.getElem?_append_right (by simp [ints]; omega)]
          simp only [ints, List.length_map, hln]
          have : ¬ (0 ≤ j ∧ j < 0 + (sortI zs).toArray.size) := by simp; omega
          cases sp[j - zs.length]? <;> simp [this]
          intro h; omega
      rw [hcells] at s2
      refine ⟨_, B, _, rfl, ⟨rfl, rfl, rfl⟩, Frag.le_refl _, ⟨hg.os, hg.tape, hg.output, hg.size, fun k hk => hg.block k (by have := s'.blk.2.2; have := s.sz; omega) (fun e => ?_)⟩, St.of_sbuf (by simp [ints, hln]) e3 (by simpa [ints, hln] using e4) s2⟩
      have h9 := s'.blk.2.2
      have := Option.some.inj e
      omega⟩
end Go.SL
