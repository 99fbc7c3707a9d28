/-
  More rules: a text's bytes as a slice of one's own; stores into it; a text's end.
-/
import Derived.Test.YtgcebieihmlaoaaSlk
import Derived.Laws.IdiomStrings
import Derived.Laws.AppendOwn
namespace Go.SL
open Go.RowKit
set_option linter.unusedVariables false
set_option linter.unusedSimpArgs false
section
variable {e : Env} {ds : List Deferred} {Q : Exit → Act → World → Prop} {ρ : Sl} {B : Frag} {H R : HP} {t ty et : TypeId} {x y : Operand} {b o n c : Nat} {v : Value}

/-- '[]byte(s)'. -/
theorem s2bO {src dst : TypeId} {l : List UInt8} (hs : e.P.underlying src = some .string) (hd : e.P.underlying dst = some (.slice et)) (he' : e.P.underlying et = some (.int .u8)) (hx : ev ρ x = some (str l)) :
    Ox e ds (.convert src dst x) ty ρ B H (fun v B' H' => ∃ b c, v = .slice (some ⟨b, 0, none⟩) l.length c ∧ l.length ≤ c ∧ B' = B ∧ H' = blk b (.cells (u8s l ++ List.replicate (c - l.length) (Value.int .u8 0)).toArray et (c, c + 1)) * H) :=
  .of_run (fun _ h => by cases h) fun f w dst' pos after guard he s => by
    have h := run_bytes_of_string w src dst et ⟨l.toArray⟩ hs hd he'
    have hsz : (⟨l.toArray⟩ : ByteArray).size = l.length := rfl
    rw [hsz] at h
    have hle : l.length ≤ grownCap w l.length 0 et := grownCap_ge w _ _ et
    have hrow : bytesRow ⟨l.toArray⟩ (grownCap w l.length 0 et) = (u8s l ++ List.replicate (grownCap w l.length 0 et - l.length) (Value.int .u8 0)).toArray := by
      unfold bytesRow u8s
      simp [hsz]
    have hsize : (u8s l ++ List.replicate (grownCap w l.length 0 et - l.length) (Value.int .u8 0)).toArray.size = grownCap w l.length 0 et := by
      simp [u8s_len]; omega
    rw [hrow, hsize] at h
    refine ⟨_, _, B, _, ?_, ⟨_, _, rfl, hle, rfl, rfl⟩, Frag.le_refl _, ((Below.refl _ _).drew).alloc s.sz _, s.drew.alloc _⟩
    simp only [execOp, he _ _ hx]
    simp [Sem.run_bind, h, Result.andThen, Sem.run_pure]
/-- A store of one cell, the block's mark lying behind it. -/
theorem stF {d : TypeDesc} {cs cs' : List Value} {lo hi : Nat} (ht : e.P.underlying t = some d) (hi' : (e.P.info? t).map (·.size) = some 1) (hx : ev ρ x = some (.pointer (some ⟨b, o, none⟩))) (hy : ev ρ y = some v) (h1 : v.oneCell' = true)
    [hp : PickB H b (.cells cs.toArray et (lo, hi)) R] (ho : o < cs.length) (hlo : o < lo) (hn : cs.set o v = cs') : Ox e ds (.store t x y) ty ρ B H (fun _ B' H' => B' = B ∧ H' = blk b (.cells cs'.toArray et (lo, hi)) * R) :=
  .of_skip (fun _ h => by cases h) fun f w _ _ _ _ he s => by
    subst hn
    have s' : St e.N0 B (blk b (.cells cs.toArray et (lo, hi)) * R) w := hp.eq ▸ s
    have hh := s'.blk.1
    have hv1 : v.cells = #[v] := by cases v <;> simp_all [Value.cells, Value.oneCell']
    have hcell : w.cell? ⟨b, o, none⟩ = some cs[o] := by simp [World.cell?, hh, ho]
    have hfro : w.frozen? ⟨b, o, none⟩ = false := by
      simp only [World.frozen?, hh, Bool.and_eq_false_iff, decide_eq_false_iff_not]
      left; omega
    have hst : (store ⟨b, o, none⟩ v).run e.P w = .ok () (w.setRow b (cs.toArray.setIfInBounds o v)) := by
      rw [run_store e.P w _ v _ h1, hcell]
      simp [hfro, setCell_eq_setRow w b o cs.toArray et (lo, hi) v hh]
    have e2 : cs.toArray.setIfInBounds o v = (cs.set o v).toArray := by
      apply Array.toList_inj.1
      simp
    rw [e2] at hst
    have hadd : (⟨b, o, none⟩ : Addr).add 0 = ⟨b, o, none⟩ := rfl
    cases hq : e.P.info? t with
    | none => simp [hq] at hi'
    | some i =>
      have hi2 : i.size = 1 := by simpa [hq] using hi'
      refine ⟨_, B, _, ?_, ⟨rfl, rfl⟩, Frag.le_refl _, (s'.setRow (cs.set o v).toArray).2, (s'.setRow (cs.set o v).toArray).1⟩
      simp [execOp, he _ _ hx, he _ _ hy, Instr.storeAt, Instr.sureAddr, storeVar, sizeOf, typeInfo, hq, hi2, hv1, storeCells, hadd, hst]
/-- At a function's end: one result of many cells, in cells of its own. -/
theorem Xx.rBa {P : Program} {fn : Func} {N0 nt size : Nat} {w0 : World} {r : Option Nat} {B0 : Frag} {Φ : Value → Frag → Prop} {t : Tmp} {ty : TypeId} {d : TypeDesc} {vs : List Value} {b : Nat} {et : TypeId} {fz : Nat × Nat}
    (hr : fn.results = #[.cell t ty]) (ht : P.underlying ty = some d) (hd : aggB d = true) (hi : (P.info? ty).map (·.size) = some size) (hv : lk ρ t = some (.pointer (some ⟨b, 0, none⟩))) [hp : PickB H b (.cells vs.toArray et fz) R] (hl : vs.length = size)
    (hΦ : Φ (.agg vs.toArray) B) (hB : B0.le B) : Xx ⟨P, r, N0, w0, nt⟩ [] (bodyPost P fn (FinB N0 w0 R B0 Φ) .ret) ρ B H := fun a w f bl s => by
  have s' : St N0 B (blk b (.cells vs.toArray et fz) * R) w := hp.eq ▸ s
  have hl := run_loadVar_row (P := P) w b et ty vs.toArray fz d s'.blk.1 ht (by cases d <;> simp_all [aggB]) (by rw [hi]; simp [hl])
  have h1 := f.get t _ hv
  refine ⟨f.defers, .agg vs.toArray, ?_, _, B, rfl, hΦ, hB, bl, s'.drop⟩
  simp [results, hr, h1, Sem.run_bind, asAddr, hl]
/-- A contract of the library's, for whatever world: what is below the heap's end stands. -/
theorem CtP.of_calls {P : Program} {f : FuncId} {args : List Value} {B : Frag} {v : Value} (he : ∀ args w, (callFunc f args).run P w = .ok (.enter f args) w)
    (h : ∀ w : World, (∀ b o, B b = some o → w.heap[b]? = some o) → Calls P f args.toArray w fun x w' => x = .returned v ∧ Below w.heap.size w w') : CtP P f args B v :=
  ⟨he, fun N0 w R s => (h w s.ro).mono fun x w' ⟨e, b⟩ => ⟨v, B, e, ⟨rfl, rfl⟩, Frag.le_refl _, b.mono s.sz, by
    have hlt : ∀ {k : Nat} {o : Obj}, w.heap[k]? = some o → w'.heap[k]? = some o := fun {k o} hk => by
      rw [b.block k (Array.getElem?_eq_some_iff.1 hk).1]; exact hk
    obtain ⟨k, hk, hR⟩ := s.own
    exact ⟨fun i o hi => hlt (s.ro i o hi), Nat.le_trans s.sz b.size, k, fun i o hi => ⟨hlt (hk i o hi).1, (hk i o hi).2⟩, hR⟩⟩⟩
/-- A guard that was not asked itself. -/
theorem yielded_undef {ops : Array Oper} {o : Oper} {a : Act} {j t : Nat} (f : Fr ρ e.nt ds a) (hj : ops[j]? = some o) (ho : o.dst = some t) (hv : lk ρ t = some undef) : yielded ops a.tmps j = none := by
  have := f.get t _ hv
  simp [yielded, hj, ho, this, undef]
theorem Lx.gU {ops : Array Oper} {rest : List Oper} {o : Oper} {op : Op} {ty : TypeId} {pos : String} {af : Array Edge} {d : Nat} {j t : Nat} {u : Bool} (hj : ops[j]? = some o) (ho : o.dst = some t) (hv : lk ρ t = some undef) (hd : Nat.blt d e.nt = true)
    (k : Lx e ds ops Q rest ((d, undef) :: ρ) B H) : Lx e ds ops Q (⟨some d, op, ty, pos, af, some (j, u)⟩ :: rest) ρ B H := by
  intro a w f b s
  have hy := yielded_undef (e := e) f hj ho hv
  simp only [wpListIn]
  rw [if_neg (by simp [Region.wanted, hy])]
  exact ⟨fun _ _ => trivial, k _ w (f.put hd undef) b s⟩
theorem Lx.gU0 {ops : Array Oper} {rest : List Oper} {o : Oper} {op : Op} {ty : TypeId} {pos : String} {af : Array Edge} {j t : Nat} {u : Bool} (hj : ops[j]? = some o) (ho : o.dst = some t) (hv : lk ρ t = some undef)
    (k : Lx e ds ops Q rest ρ B H) : Lx e ds ops Q (⟨none, op, ty, pos, af, some (j, u)⟩ :: rest) ρ B H := by
  intro a w f b s
  have hy := yielded_undef (e := e) f hj ho hv
  simp only [wpListIn]
  rw [if_neg (by simp [Region.wanted, hy])]
  exact ⟨fun _ _ => trivial, k _ w f b s⟩
theorem Dx.pU {ops : Array Oper} {J : Nat → World → Prop} {fuel : Nat} {listed : Array Bool} {i d j t : Nat} {u : Bool} {o : Oper} {op : Op} {ty : TypeId} {pos : String} {af : Array Edge} (hi : ops[i]? = some ⟨some d, op, ty, pos, af, some (j, u)⟩) (hop : ∀ c, op ≠ .defer c) (hj : ops[j]? = some o) (ho : o.dst = some t) (hv : lk ρ t = some undef) (ht : tk ops listed i = true)
    (hd : Nat.blt d e.nt = true) (k : Dx e ds ops (NoPanic Q) J fuel (listed.setIfInBounds i true) ((d, undef) :: ρ) B H) : Dx e ds ops (NoPanic Q) J (fuel + 1) listed ρ B H :=
  fun a w f b s => anyJ_take (T := fun _ => True) hi ht (fun _ _ _ h => h) ⟨hop, .inr ⟨by simp [Region.wanted, yielded_undef (e := e) f hj ho hv], rfl⟩⟩ trivial
    (anyJ_mono (fun j w h => ⟨h, fun _ => trivial⟩) _ _ _ _ (k _ w (f.put hd undef) b s))
end
section
open Go.ChangeShapes Go.WideShapes Go.ChangeAt
/-- A struct of two texts among the arguments. -/
theorem open_sp {H : Type} {enc : TypeId × Value → H} {P : Program} {r : Reach} {b0 base' : Nat} {sp : Nat → Bool} {hd : Bool} {W : World} {t : TypeId} {f0 f1 : Field} {v : Value} {d : DataW H} {ps : List MemPlace} (ht : P.underlying t = some (.struct #[f0, f1]))
    (h0 : P.underlying f0.type = some .string) (h1 : P.underlying f1.type = some .string) (c0 : P.cellsOf f0.type = 1) (c1 : P.cellsOf f1.type = 1) (o0 : f0.offset = 0) (o1 : f1.offset = 1) (hct : P.cellsOf t = 2)
    (hval : Value.okWide P W r b0 t v) (h : DataW.Trod enc P W base' sp hd t v d ps) : ∃ a b : List UInt8, v = .agg [str a, str b].toArray ∧ a.length ≤ maxLen ∧ b.length ≤ maxLen := by
  obtain ⟨cs, rfl, hsz⟩ := okWide_struct ht hval
  rw [hct] at hsz
  obtain ⟨fuel, hf⟩ := h
  obtain ⟨l⟩ := cs
  match l, hsz with
  | [x0, x1], _ =>
    obtain ⟨y0, y1, n, _, _, e0, e1⟩ := trod_struct2 ht hf
    rw [c0, o0] at e0
    rw [c1, o1] at e1
    simp [Value.cells] at e0 e1
    obtain ⟨s0, g0, _, w0⟩ := DataW.trod_string h0 e0
    obtain ⟨s1, g1, _, w1⟩ := DataW.trod_string h1 e1
    simp at g0 g1
    subst g0 g1
    exact ⟨s0.data.toList, s1.data.toList, rfl, w0, w1⟩
end
end Go.SL
