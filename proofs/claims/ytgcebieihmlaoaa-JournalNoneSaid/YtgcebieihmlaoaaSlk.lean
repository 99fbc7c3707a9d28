/-
  From a law function's contract over the small separation logic to its row: nothing that was there has turned, and it answers true.
-/
import Derived.Test.YtgcebieihmlaoaaSlj
import Derived.WalkKit
import Derived.ProofKit
import Derived.OpenShut
import Derived.JoinedCond
import Derived.JoinedOf
import Derived.ChangeSame
import Derived.Carry
import Derived.SliceStrings
namespace Go.SL
open Go.ChangeShapes Go.WideShapes Go.ChangeAt Go.RowKit
set_option linter.unusedVariables false
set_option linter.unusedSimpArgs false

/-- All that is there when the call begins. -/
def base (W : World) : Frag := fun b => W.heap[b]?
theorem St.begin (W : World) : St W.heap.size (base W) 1 W :=
  ⟨fun _ _ h => h, Nat.le_refl _, Frag.none, fun b o h => by simp [Frag.none] at h, rfl⟩

/-- A law's call: whatever is there, it answers true and turns nothing that was there. -/
theorem law_calls {P : Program} {f : FuncId} {args : List Value} {W : World} (h : CtB P f args (base W) (fun v _ => v = .bool true)) :
    Calls P f args.toArray W fun e w' => e = .returned (.bool true) ∧ Below W.heap.size W w' :=
  (h.2 W.heap.size W 1 (St.begin W)).mono fun e w' ⟨v, B', h1, h2, _, h3, _⟩ => by subst h2; exact ⟨h1, h3⟩

section
variable {H : Type} {enc : TypeId × Value → H} {P : Program}
theorem trodAll_carry (hl : laidOutB P = true) {W W' : World} (hb : Below W.heap.size W W') : ∀ {ts : List TypeId} {vs : List Value} {ds : List (DataW H)} {ps : List MemPlace},
    ts.all (fun t => P.readableRec t && decide (t < P.types.size)) = true → DataW.TrodAll enc P W 0 (fun _ => true) true ts vs ds ps → (∀ x ∈ ps, x.block < W.heap.size) → ∀ sp : Nat → Bool, (∀ x ∈ ps, sp x.block = true) →
    DataW.TrodAll enc P W' 0 sp true ts vs ds ps := by
  intro ts
  induction ts with
  | nil =>
    intro vs ds ps _ h _ sp _
    obtain ⟨rfl, rfl, rfl⟩ := trodAll_nil h
    exact trodAll_mk0
  | cons t ts ih =>
    intro vs ds ps hr h hlt sp hsp
    obtain ⟨v0, vs0, d0, ds0, p0, q0, rfl, rfl, rfl, h0, r0⟩ := trodAll_cons h
    simp only [List.all_cons, Bool.and_eq_true, decide_eq_true_eq] at hr
    exact trodAll_cons_mk (WideElems.Trod_stays hl hr.1.1 hr.1.2 h0 (fun x hx => hb.same (hlt x (by simp [hx]))) (fun x hx => hsp x (by simp [hx]))) (ih hr.2 r0 (fun x hx => hlt x (by simp [hx])) sp (fun x hx => hsp x (by simp [hx])))

/-- What the row asks behind the call. -/
theorem law_post {f : Func} {s : ChangeSpec} {apart fresh handsOn again : Bool} {W W' : World} {args : Array Value} {ds gs : List (DataW H)} {before : List MemPlace} {tb : TypeId}
    (hl : laidOutB P = true) (hr : f.params.toList.all (fun t => P.readableRec t && decide (t < P.types.size)) = true) (hrt : f.resultTypes = #[tb]) (hub : P.underlying tb = some .bool) (hv : s.vars = [])
    (hW : DataW.Whole enc P f.params.toList s.vars apart W args.toList ds gs before) (hfn : s.fn H (ds ++ gs) = { results := [.lit (.bool true)], args := ds }) (hb : Below W.heap.size W W') :
    s.post enc P f apart fresh handsOn again W args (.bool true) W' := by
  have hold : ∀ p ∈ before, (fun b => decide (b < W.heap.size)) p.block = true := fun p hp => by simpa using hW.lt p hp
  have hW' := hW
  obtain ⟨pa, pv, hA, hV, rfl, hz, hn⟩ := hW
  have hV' := hV
  rw [hv] at hV'
  obtain ⟨rfl, rfl⟩ := trodVars_none hV'
  have hlt : ∀ x ∈ pa, x.block < W.heap.size := fun x hx => hW'.lt x (by simpa using hx)
  have hA' := trodAll_carry hl hb hr hA hlt (fun b => decide (b < W.heap.size)) (fun x hx => by simpa using hlt x hx)
  have hres : ∀ (b : Nat) (sp : Nat → Bool) (hd : Bool), DataW.TrodAll enc P W' b sp hd f.resultTypes.toList ((Value.bool true).resultList f.resultTypes.size) [.lit (.bool true)] [] := fun b sp hd => by
    rw [hrt]
    exact trodAll_cons_mk (shut_bool hub _) trodAll_mk0
  have hvars : ∀ sp : Nat → Bool, DataW.TrodVars enc P W' sp s.vars [] [] := fun sp => by rw [hv]; rfl
  refine ⟨ds, [], pa ++ [], [], pa, [], hW', ?_, ?_, ?_, hb.frame _, fun _ => ?_⟩
  · rw [hfn]; exact hres _ _ _
  · rw [hfn]; exact hA'
  · rw [hfn]; exact hvars _
  · have hA2 := trodAll_carry hl hb hr hA hlt (fun _ => true) (fun x hx => rfl)
    refine ⟨ok_one hrt rfl (okWide_bool_mk hub _), _, _, ([] ++ pa) ++ [], ⟨[] ++ pa, [], trodAll_append hA2 (hres _ _ _), hvars _, rfl, ?_, ?_⟩, ?_⟩
    · intro b off hp
      have hp' : MemPlace.cell b off ∈ pa := by simpa using hp
      rw [hb.frozen (hlt _ hp')]
      exact hz b off (by simpa using hp')
    · intro ha
      simpa using hn ha
    · intro p hp _
      simpa using hp
/-- The places of a slice that is only read, one cell each. -/
def RoE (B : Frag) (A : Option Addr) (n : Nat) (xs : List Value) : Prop :=
  xs.length = n ∧ ∀ k, k < n → ∃ b o cs et fz, A = some ⟨b, o, none⟩ ∧ B b = some (.cells (List.toArray cs) et fz) ∧ cs[o + k * 1]? = xs[k]?
theorem RoE.at1 {B : Frag} {A : Option Addr} {n k : Nat} {xs : List Value} (h : RoE B A n xs) (hk : k < n) : ∃ b o cs et fz, A = some ⟨b, o, none⟩ ∧ B b = some (.cells (List.toArray cs) et fz) ∧ cs[o + k * 1]? = xs[k]? := h.2 k hk
theorem RoE.mono {B B' : Frag} {A : Option Addr} {n : Nat} {xs : List Value} (h : RoE B A n xs) (hB : B.le B') : RoE B' A n xs :=
  ⟨h.1, fun k hk => let ⟨b, o, cs, et, fz, h1, h2, h3⟩ := h.2 k hk; ⟨b, o, cs, et, fz, h1, hB _ _ h2, h3⟩⟩
theorem cell_obj {W : World} {a : Addr} {v : Value} (h : W.cell? a = some v) : a.spot = none ∧ ∃ cs et fz, W.heap[a.block]? = some (.cells (List.toArray cs) et fz) ∧ cs[a.off]? = some v := by
  unfold World.cell? at h
  split at h
  · rename_i c et fz hh
    split at h
    · cases h
    · rename_i hs
      refine ⟨by simpa using hs, c.toList, et, fz, by simpa using hh, by simpa using h⟩
  · cases h
theorem RoE.of_cells {W : World} {a : Addr} {n : Nat} {xs : List Value} (hl : xs.length = n) (h : ∀ i v, xs[i]? = some v → W.cell? (a.add i) = some v) : RoE (base W) (some a) n xs := by
  refine ⟨hl, fun k hk => ?_⟩
  have hk' : k < xs.length := by omega
  have h0 := cell_obj (h 0 _ (List.getElem?_eq_getElem (by omega)))
  have h1 := cell_obj (h k _ (List.getElem?_eq_getElem hk'))
  obtain ⟨cs, et, fz, h2, h3⟩ := h1.2
  have hb : (a.add k).block = a.block := by unfold Addr.add; split <;> rfl
  have ho : (a.add k).off = a.off + k := by unfold Addr.add; split <;> simp_all
  have hs : a.spot = none := by have := h0.1; simpa [Addr.add] using this
  refine ⟨a.block, a.off, cs, et, fz, ?_, by rw [← hb]; exact h2, ?_⟩
  · rw [← hs]
  · rw [Nat.mul_one, ← ho, h3, List.getElem?_eq_getElem hk']
theorem open_strs {r : Reach} {b0 base' : Nat} {sp : Nat → Bool} {hd : Bool} {W : World} {t et : TypeId} {v : Value} {d : DataW H} {ps : List MemPlace} (ht : P.underlying t = some (.slice et)) (he : P.underlying et = some .string) (hc : P.cellsOf et = 1)
    (hval : Value.okWide P W r b0 t v) (h : DataW.Trod enc P W base' sp hd t v d ps) : ∃ A n c, ∃ xs : List (List UInt8), v = .slice A n c ∧ n ≤ c ∧ c ≤ maxLen ∧ RoE (base W) A n (xs.map str) ∧ ∀ x ∈ xs, x.length ≤ maxLen := by
  obtain ⟨a0, len, cap, rfl⟩ := okWide_slice ht hval
  obtain ⟨fuel, hf⟩ := h
  rcases open_strings ht he hc hf with ⟨hcs, hx⟩ | ⟨a, len', cap', ss, hcs, _, hl, hm, hz, hx, hcell, hsz⟩
  · simp [Value.cells] at hcs
    obtain ⟨rfl, rfl, rfl⟩ := hcs
    exact ⟨none, 0, 0, [], rfl, Nat.le_refl _, Nat.zero_le _, ⟨rfl, fun k hk => by omega⟩, fun x hx => by cases hx⟩
  · simp [Value.cells] at hcs
    obtain ⟨rfl, rfl, rfl⟩ := hcs
    have hle : len ≤ ss.length := by rw [hz]; split <;> omega
    refine ⟨some a, len, cap, (ss.take len).map (·.data.toList), rfl, hl, hm, RoE.of_cells (by simp; omega) ?_, ?_⟩
    · intro i v hv
      simp only [List.map_map, List.getElem?_map] at hv
      by_cases hi : i < len
      · rw [List.getElem?_take, if_pos hi, List.getElem?_eq_getElem (by omega)] at hv
        simp at hv
        rw [hcell i (by omega), ← hv]
        simp [List.getD, List.getElem?_eq_getElem (show i < ss.length by omega)]
      · rw [List.getElem?_take, if_neg hi] at hv; cases hv
    · intro x hx
      simp only [List.mem_map] at hx
      obtain ⟨y, hy, rfl⟩ := hx
      exact hsz y (List.mem_of_mem_take hy)
theorem open_int2 {r : Reach} {b0 base' : Nat} {sp : Nat → Bool} {hd : Bool} {W : World} {t et : TypeId} {k : IntKind} {v : Value} {d : DataW H} {ps : List MemPlace} (ht : P.underlying t = some (.array 2 et)) (he : P.underlying et = some (.int k)) (hc : P.cellsOf et = 1) (hct : P.cellsOf t = 2)
    (hval : Value.okWide P W r b0 t v) (h : DataW.Trod enc P W base' sp hd t v d ps) : ∃ m n, v = .agg [.int k m, .int k n].toArray ∧ (Lit.int k m).wf = true ∧ (Lit.int k n).wf = true := by
  unfold Value.okWide at hval
  rw [ht] at hval
  obtain ⟨cs, rfl, hsz, _⟩ := hval
  rw [hct] at hsz
  obtain ⟨fuel, hf⟩ := h
  obtain ⟨l⟩ := cs
  match l, hsz with
  | [c0, c1], _ =>
    obtain ⟨xs, m, _, _, _, hlen, hel⟩ := DataW.trod_array ht hf
    match xs, hlen with
    | [y0, y1], _ =>
      have e0 := hel 0 (by omega)
      have e1 := hel 1 (by omega)
      simp [hc, Value.cells] at e0 e1
      obtain ⟨n0, h0, _, w0⟩ := DataW.trod_int he e0
      obtain ⟨n1, h1, _, w1⟩ := DataW.trod_int he e1
      simp at h0 h1
      subst h0 h1
      exact ⟨n0, n1, rfl, w0, w1⟩
end
end Go.SL
