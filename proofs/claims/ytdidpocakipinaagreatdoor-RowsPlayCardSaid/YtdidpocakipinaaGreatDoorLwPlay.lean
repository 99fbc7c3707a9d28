/-
  RowsPlay: whatever the input, the law answers true, and the input reads as it did.
-/
import Derived.SizedLaws
import Derived.Deep.Strs
import Derived.Test.YtdidpocakipinaaGreatDoorProg
import Derived.Test.YtdidpocakipinaaGreatDoorRows
import Derived.Test.YtdidpocakipinaaGreatDoorCards
import Derived.Test.YtdidpocakipinaaGreatDoorTie
import Derived.Deep.DeepHandedRow
import Derived.Lib.LaidTab
import Derived.Test.YtdidpocakipinaaGreatDoorMp7
set_option linter.unusedSimpArgs false
set_option linter.unusedVariables false
namespace Go.SL
open Go.RowKit Go.ChangeShapes Go.WideShapes Go.ChangeAt
theorem flatG_len {α : Type} {enc : α → List Value} {size : Nat} (he : ∀ x, (enc x).length = size) (l : List α) : (l.flatMap enc).length = l.length * size := by
  induction l with
  | nil => simp
  | cons x l ih => rw [List.flatMap_cons, List.length_append, ih, he, List.length_cons, Nat.succ_mul]; omega
def ixF {α : Type} (p : α → Bool) (l : List α) : Int := if l.any p = true then ((l.findIdx p : Nat) : Int) else -1
section
variable {H : Type} {enc : TypeId × Value → H}
theorem weightsAll_mem {P : Program} {e : TypeId} : ∀ {l : List (DataW H)} {d : DataW H} {n : Nat}, d ∈ l → n ∈ d.weights P e → n ∈ DataW.weightsAll P e l := by
  intro l
  induction l with
  | nil => intro d n h; cases h
  | cons x l ih =>
    intro d n h hn
    simp only [DataW.weightsAll, List.mem_append]
    rcases List.mem_cons.1 h with rfl | h
    · exact .inl hn
    · exact .inr (ih h hn)
theorem add_block (a : Addr) (k : Nat) : (a.add k).block = a.block := by unfold Addr.add; split <;> rfl
theorem add_off (a : Addr) (k : Nat) : (a.add k).off = a.off + k := by unfold Addr.add; split <;> simp_all
theorem cells_row {W : World} {b0 : Nat} {a : Addr} {n : Nat} {cs : List Value} (h : W.cells? b0 a n = some cs) (hn : 0 < n) : a.spot = none ∧ ∃ l et fz, W.heap[a.block]? = some (.cells (List.toArray l) et fz) ∧ (l.drop a.off).take n = cs := by
  obtain ⟨_, hl, hc⟩ := World.cells?_some h
  have hb : ∀ k, (a.add k).block = a.block := fun k => by unfold Addr.add; split <;> rfl
  have h0 := cell_obj ((hc 0 hn).trans (List.getElem?_eq_getElem (by omega)))
  have hs : a.spot = none := by have := h0.1; simpa [Addr.add] using this
  obtain ⟨l, et, fz, hh, _⟩ := h0.2
  rw [hb] at hh
  have ho : ∀ k, (a.add k).off = a.off + k := fun k => by unfold Addr.add; split <;> simp_all
  refine ⟨hs, l, et, fz, hh, ?_⟩
  apply List.ext_getElem?
  intro k
  by_cases hk : k < n
  · rw [List.getElem?_take, if_pos hk, List.getElem?_drop]
    obtain ⟨l2, et2, fz2, hh2, hv2⟩ := (cell_obj ((hc k hk).trans (List.getElem?_eq_getElem (by omega)))).2
    rw [hb, hh] at hh2
    rw [ho] at hv2
    injection hh2 with hh2
    injection hh2 with e1
    have e2 : l = l2 := by simpa using congrArg Array.toList e1
    subst e2
    rw [hv2, List.getElem?_eq_getElem]
  · rw [List.getElem?_take, if_neg hk, List.getElem?_eq_none (by omega)]
theorem wf_i64 {n : Int} (h : (Lit.int .i64 n).wf = true) : -9223372036854775808 ≤ n ∧ n ≤ 9223372036854775807 := by
  unfold Lit.wf at h
  rw [Bool.and_eq_true] at h
  exact ⟨of_decide_eq_true h.1, of_decide_eq_true h.2⟩
theorem wf_u64 {n : Int} (h : (Lit.int .u64 n).wf = true) : 0 ≤ n ∧ n ≤ 18446744073709551615 := by
  unfold Lit.wf at h
  rw [Bool.and_eq_true] at h
  exact ⟨of_decide_eq_true h.1, of_decide_eq_true h.2⟩
theorem u64_of {n : Int} (h : (Lit.int .u64 n).wf = true) : ∃ b : BitVec 64, Value.int .u64 n = u64 b := by
  obtain ⟨h1, h2⟩ := wf_u64 h
  refine ⟨BitVec.ofNat 64 n.toNat, ?_⟩
  show _ = Value.int .u64 _
  congr 1
  rw [BitVec.toNat_ofNat]
  omega
theorem flat_of {α : Type} {en : α → List Value} {size : Nat} : ∀ (l : List α) (o : Nat) (cs : List Value), (∀ i (h : i < l.length), (cs.drop (o + i * size)).take size = en l[i]) → (cs.drop o).take (l.length * size) = l.flatMap en := by
  intro l
  induction l with
  | nil => intro o cs _; simp
  | cons x l ih =>
    intro o cs h
    have h0 := h 0 (by simp)
    rw [Nat.zero_mul, Nat.add_zero] at h0
    have h1 := ih (o + size) cs (fun i hi => by
      have := h (i + 1) (by simpa using hi)
      rw [Nat.succ_mul, Nat.add_comm (i * size), ← Nat.add_assoc] at this
      exact this)
    rw [List.length_cons, Nat.succ_mul, Nat.add_comm, List.take_add, h0, List.drop_drop, h1, List.flatMap_cons]; rfl
theorem choose_any {α : Type} {n : Nat} {Q : Nat → α → Prop} (h : ∀ i, i < n → ∃ x, Q i x) : ∃ l : List α, l.length = n ∧ ∀ i (hi : i < l.length), Q i l[i] := by
  induction n with
  | zero => exact ⟨[], rfl, fun i hi => by simp at hi⟩
  | succ n ih =>
    obtain ⟨l, hl, hall⟩ := ih (fun i hi => h i (by omega))
    obtain ⟨x, hx⟩ := h n (by omega)
    refine ⟨l ++ [x], by simp [hl], fun i hi => ?_⟩
    by_cases e : i < l.length
    · rw [List.getElem_append_left e]; exact hall i e
    · have hin : i = l.length := by simp at hi; omega
      subst hin
      rw [List.getElem_append_right (Nat.le_refl _)]
      simp only [Nat.sub_self, List.getElem_cons_zero]
      rw [hl]; exact hx
theorem open_list {α : Type} {P : Program} {r : Reach} {b0 base' : Nat} {sp : Nat → Bool} {hd : Bool} {W : World} {t e : TypeId} {v : Value} {d : DataW H} {ps : List MemPlace} {size : Nat} (en : α → List Value) (Q : α → Prop) (he : ∀ x, (en x).length = size) (hz : 0 < size) (ht : P.underlying t = some (.slice e)) (hc : P.cellsOf e = size)
    (hval : Value.okWide P W r b0 t v) (h : DataW.Trod enc P W base' sp hd t v d ps)
    (hel : ∀ n cs y, DataW.trod enc P W base' sp hd n e cs = some y → (∀ k ∈ y.1.weights P e, k ∈ d.weights P t) → ∃ x, cs = en x ∧ Q x) :
    ∃ (A : Option Addr) (c : Nat) (l : List α), v = .slice A l.length c ∧ l.length ≤ 9223372036854775807 ∧ (0 < l.length → RoS (base W) size A l.length (l.flatMap en)) ∧ ∀ x ∈ l, Q x := by
  obtain ⟨a0, len0, cap0, rfl⟩ := okWide_slice ht hval
  obtain ⟨fuel, hf⟩ := h
  rcases DataW.trod_slice ht hf with ⟨hcs, _⟩ | ⟨a, len, cap, elems, rest, n, rfl, hcs, hx4, _, hl4, hm4, hlen4, hev, _, _⟩
  · simp [Value.cells] at hcs
    obtain ⟨rfl, rfl, rfl⟩ := hcs
    exact ⟨none, 0, [], rfl, by simp, fun h => by simp at h, fun x hx => by cases hx⟩
  · simp [Value.cells] at hcs
    obtain ⟨rfl, rfl, rfl⟩ := hcs
    have hdx : d = .slice (elems.map (·.1)) (rest.map (·.1)) := congrArg Prod.fst hx4
    have hex : ∀ i, i < len0 → ∃ x, W.cells? base' (a.add (i * size)) size = some (en x) ∧ Q x := by
      intro i hi
      have h1 := hev i hi
      rw [hc, List.getElem?_eq_getElem (by omega), Option.bind_eq_some_iff] at h1
      obtain ⟨cs', h2, h3⟩ := h1
      obtain ⟨x, rfl, hq⟩ := hel n cs' _ h3 (fun m hm => by
        rw [hdx]
        simp only [DataW.weights, ht, List.mem_cons, List.mem_append]
        exact .inr (.inl (weightsAll_mem (List.mem_map.2 ⟨_, List.getElem_mem (by omega), rfl⟩) hm)))
      exact ⟨x, h2, hq⟩
    obtain ⟨l, hl, hall⟩ := choose_any hex
    subst hl
    have hml : maxLen ≤ 9223372036854775807 := by decide
    refine ⟨some a, cap0, l, rfl, by omega, fun h0 => ?_, fun x hx => ?_⟩
    · obtain ⟨hs, cs, et, fz, hh, hd0⟩ := cells_row (hall 0 h0).1 hz
      rw [add_block] at hh
      have hsa : a.spot = none := by simpa [Addr.add] using hs
      refine ⟨flatG_len he l, .inr ⟨a.block, a.off, cs, et, fz, by rw [← hsa], hh, flat_of l a.off cs fun i hi => ?_⟩⟩
      obtain ⟨_, cs', et', fz', hh', hd'⟩ := cells_row (hall i hi).1 hz
      rw [add_block] at hh'
      rw [add_off] at hd'
      have e1 := hh.symm.trans hh'
      injection e1 with e1
      injection e1 with e1 e2 e3
      have e4 : cs = cs' := by simpa using congrArg Array.toList e1
      rw [e4]; exact hd'
    · obtain ⟨i, hi, rfl⟩ := List.getElem_of_mem hx
      exact (hall i hi).2
def s1 (s : List UInt8) : List Value := [str s]
end
end Go.SL
namespace Go.Proofs.YtdidpocakipinaaGreatDoor
open Go.SL Go.RowKit
set_option maxRecDepth 100000
open Ke1 Ke3 Ke4 Ke5 Ke6 Ke7 Ke8 Ke9 KeA KeB KeC KeD KeE KeF KeG KeI RwK
open Go.ChangeShapes Go.WideShapes Go.ChangeAt
namespace RwL
section
variable {H : Type} {enc : TypeId × Value → H}
structure Aq where
  kind : Int
  doc : BitVec 64
  v : V
  A1 : Option Addr
  c1 : Nat
  N1 : Option Addr
  d1 : Nat
  f : List UInt8
def aqv (a : Aq) : List Value := i64 a.kind :: u64 a.doc :: (vcs a.v a.A1 a.c1 a.N1 a.d1 ++ [str a.f])
def Aq.ac (a : Aq) : Ac := ⟨a.kind, a.doc, a.v, vcs a.v a.A1 a.c1 a.N1 a.d1, a.f⟩
theorem open_act0 {W : World} {b0 : Nat} {sp : Nat → Bool} {hd : Bool} {fuel : Nat} {cs : List Value} {x : DataW H × List MemPlace} (h : DataW.trod enc Tryz.prog W b0 sp hd fuel 51 cs = some x) (hw : ∀ n ∈ x.1.weights Tryz.prog 51, n ≤ reachBytes) :
    ∃ a : Aq, cs = aqv a ∧ ∃ d, ValR (base W) d a.v (vcs a.v a.A1 a.c1 a.N1 a.d1) := by
  have c3 : Tryz.prog.cellsOf 3 = 1 := by kernel_rfl
  have c34 : Tryz.prog.cellsOf 34 = 1 := by kernel_rfl
  have cV : Tryz.prog.cellsOf 25 = 6 := by kernel_rfl
  have c9 : Tryz.prog.cellsOf 9 = 1 := by kernel_rfl
  have cT : Tryz.prog.cellsOf 51 = 9 := by kernel_rfl
  obtain ⟨xs, n, rfl, rfl, hl, hlen, hf⟩ := DataW.trod_struct U51 h
  rw [cT] at hl
  match cs, hl, xs, hlen with
  | [k0, k1, k2, k3, k4, k5, k6, k7, k8], _, [y0, y1, y2, y3], _ =>
    have g0 : DataW.trod enc Tryz.prog W b0 sp hd n 3 (List.take (Tryz.prog.cellsOf 3) [k0, k1, k2, k3, k4, k5, k6, k7, k8]) = some y0 := hf 0 _ rfl
    have g1 : DataW.trod enc Tryz.prog W b0 sp hd n 34 (List.take (Tryz.prog.cellsOf 34) [k1, k2, k3, k4, k5, k6, k7, k8]) = some y1 := hf 1 _ rfl
    have g2 : DataW.trod enc Tryz.prog W b0 sp hd n 25 (List.take (Tryz.prog.cellsOf 25) [k2, k3, k4, k5, k6, k7, k8]) = some y2 := hf 2 _ rfl
    have g3 : DataW.trod enc Tryz.prog W b0 sp hd n 9 (List.take (Tryz.prog.cellsOf 9) [k8]) = some y3 := hf 3 _ rfl
    rw [c3] at g0
    rw [c34] at g1
    rw [cV] at g2
    rw [c9] at g3
    have hwe : ∀ (j : Nat) (t : TypeId) (d : DataW H), [3, 34, 25, 9][j]? = some t → [y0.1, y1.1, y2.1, y3.1][j]? = some d → ∀ m ∈ d.weights Tryz.prog t, m ≤ reachBytes := fun j t d ht hd' m hm => hw m (by
      have : (DataW.agg (List.map (·.1) [y0, y1, y2, y3])).weights Tryz.prog 51 = DataW.weightsEach Tryz.prog [3, 34, 25, 9] [y0.1, y1.1, y2.1, y3.1] := by
        simp [DataW.weights, U51]
      rw [this]
      exact DataW.weights_mem_each ht hd' m hm)
    obtain ⟨m0, q0, _, _⟩ := DataW.trod_int U3 g0
    obtain ⟨m1, q1, _, w1⟩ := DataW.trod_int U34 g1
    obtain ⟨m3, q3, _, _⟩ := DataW.trod_string U9 g3
    obtain ⟨v, hv⟩ := open_val0 n _ _ g2 (hwe 2 25 _ rfl rfl)
    obtain ⟨Ap, cp, An, cn, hsh⟩ := ValR.shape hv
    obtain ⟨x1, hx1⟩ := SL.u64_of w1
    injection q0 with q0 _
    injection q1 with q1 _
    injection q3 with q3 _
    subst q0 q1 q3
    refine ⟨⟨m0, x1, v, Ap, cp, An, cn, m3.data.toList⟩, ?_, n, ?_⟩
    · have hsh' : [k2, k3, k4, k5, k6, k7] = vcs v Ap cp An cn := hsh
      unfold aqv
      rw [← hsh', ← hx1]; rfl
    · have hsh' : [k2, k3, k4, k5, k6, k7] = vcs v Ap cp An cn := hsh
      rw [← hsh']; exact hv
theorem aq_flat (l : List Aq) : (l.map Aq.ac).flatMap acv = l.flatMap aqv := by
  induction l with
  | nil => rfl
  | cons a l ih => rw [List.map_cons, List.flatMap_cons, List.flatMap_cons, ih]; rfl
theorem open_acts {r : Reach} {b0 base' : Nat} {sp : Nat → Bool} {hd : Bool} {W : World} {v : Value} {d : DataW H} {ps : List MemPlace} (hval : Value.okWide Tryz.prog W r b0 46 v) (h : DataW.Trod enc Tryz.prog W base' sp hd 46 v d ps) (hw : ∀ n ∈ d.weights Tryz.prog 46, n ≤ reachBytes) :
    ∃ (A : Option Addr) (c : Nat) (l : List Ac), v = .slice A l.length c ∧ l.length ≤ 9223372036854775807 ∧ (0 < l.length → RoS (base W) 9 A l.length (l.flatMap acv)) ∧ ∀ a ∈ l, AcOk (base W) a := by
  obtain ⟨A, c, l, h1, h2, h3, h4⟩ := open_list (size := 9) aqv (fun a => ∃ d, ValR (base W) d a.v (vcs a.v a.A1 a.c1 a.N1 a.d1)) (fun x => rfl) (by decide) U46 (by kernel_rfl) hval h fun n cs y hy hk => by
    obtain ⟨a, ha, hd⟩ := open_act0 hy (fun m hm => hw m (hk m hm))
    exact ⟨a, ha, hd⟩
  refine ⟨A, c, l.map Aq.ac, by rw [h1, List.length_map], by rw [List.length_map]; exact h2, fun h0 => ?_, fun a ha => ?_⟩
  · rw [List.length_map] at h0 ⊢
    rw [aq_flat]; exact h3 h0
  · obtain ⟨x, hx, rfl⟩ := List.mem_map.1 ha
    exact ⟨rfl, h4 x hx⟩
end
end RwL
end Go.Proofs.YtdidpocakipinaaGreatDoor
namespace Go.Proofs.YtdidpocakipinaaGreatDoor.RowsPlayLaw
open Go.ChangeShapes Go.WideShapes Go.ChangeAt Go.RowKit Go.SL
open Ke6 KeI RwK RwL RwX
open Go.ChangeMaps (open_string shut_string)
theorem own : ownKnob Tryz.prog.godebug = none := by kernel_rfl
theorem laidOut : laidOutB Tryz.prog = true := by kernel_rfl
set_option maxRecDepth 100000 in
theorem contract (H : Type) (enc : TypeId × Value → H) (W : World) (base : Nat) (args : Array Value) (ds gs : List (DataW H)) (before : List MemPlace)
    (hval : ∀ (j : Nat) t v, Tryz.f6.params[j]? = some t → args[j]? = some v → Value.okWide Tryz.prog W .any base t v)
    (hW : DataW.Whole enc Tryz.prog Tryz.f6.params.toList Rows.rowsPlaySpec.vars false W args.toList ds gs before) (ts : List TypeId) (hwt : (DataW.weightsEach Tryz.prog (Tryz.f6.params.toList ++ ts) (ds ++ gs)).all (· ≤ reachBytes) = true) (hsh : W.ShapedOpen Tryz.prog) :
    Calls Tryz.prog 6 args W fun e W' => ∃ v, e = .returned v ∧ Rows.rowsPlaySpec.post enc Tryz.prog Tryz.f6 false true false false W args v W' := by
  have hW' := hW
  obtain ⟨p, q, hA0, hV, rfl, hfz, hnd⟩ := hW
  have hA : DataW.TrodAll enc Tryz.prog W 0 (fun _ => true) true Tryz.f6.params.toList args.toList ds p := hA0
  rw [Tryz.params6] at hA hval
  obtain ⟨v0, vs0, d0, ds0, p0, q0, hargs, rfl, rfl, h0, r0⟩ := trodAll_cons hA
  obtain ⟨v1, vs1, d1, ds1, p1, q1, rfl, rfl, rfl, h1, r1⟩ := trodAll_cons r0
  obtain ⟨v2, vs2, d2, ds2, p2, q2, rfl, rfl, rfl, h2, r2⟩ := trodAll_cons r1
  obtain ⟨rfl, rfl, rfl⟩ := trodAll_nil r2
  obtain rfl : args = #[v0, v1, v2] := by cases args; simp_all
  obtain ⟨A0, c0, l0, rfl, hm0, ro0, hv0⟩ := open_acts (hval 0 46 v0 rfl rfl) h0 (weights_at hwt (j := 0) rfl rfl)
  obtain ⟨a1, rfl, rfl, rfl, m1⟩ := open_string U9 (hval 1 9 v1 rfl rfl) h1
  obtain ⟨a2, b2, rfl, m2, mb2⟩ := open_sp U48 U9 U9 (by kernel_rfl) (by kernel_rfl) rfl rfl (by kernel_rfl) (hval 2 48 v2 rfl rfl) h2
  obtain ⟨rfl, rfl⟩ := trodVars_none hV
  refine (law_calls (args := [.slice A0 l0.length c0, str a1.data.toList, .agg [str a2, str b2].toArray]) (RwX.RowsPlay_ct l0 A0 c0 a1.data.toList a2 b2 _ (maxLen_in hsh) hm0 ro0 hv0)).mono fun e W' ⟨he, hb⟩ => ?_
  exact ⟨_, he, law_post laidOut (by kernel_rfl) (by kernel_rfl) U4 rfl hW' rfl hb⟩
def ranges : List Nat := [128, 191, 160, 191, 128, 159, 144, 191, 128, 143, 0, 0, 0, 0, 0, 0, 0, 0, 0, 0, 0, 0, 0, 0, 0, 0, 0, 0, 0, 0, 0, 0]
def u8cells (l : List Nat) : Array Value := (l.map fun n => Value.int .u8 ((n : Nat) : Int)).toArray
def putc (cs : Array Value) : Obj → Obj
  | .cells _ t frozen => .cells cs t frozen
  | o => o
noncomputable def laidWorld (os : Os) : World :=
  { World.holding Tryz.prog os ⟨#[], #[], []⟩ with heap := ((World.holding Tryz.prog os ⟨#[], #[], []⟩).heap.modify 1 (putc (u8cells Go.Pinned.utf8FirstZ))).modify 2 (putc (u8cells ranges)) }
theorem laid_met (os : Os) : laidMet Tryz.prog Rows.rowsPlayRow.laid ((laidWorld os).forCall (fun _ _ => 0) ⟨#[], #[.slice none 0 0, .string ⟨#[]⟩, .agg #[.string ⟨#[]⟩, .string ⟨#[]⟩]], []⟩).memory :=
  laidMet_of_run' 8 (by kernel_rfl) (by kernel_rfl)
theorem reads (os : Os) {H : Type} (enc : TypeId × Value → H) : ∃ places, DataW.whole enc Tryz.prog ((laidWorld os).forCall (fun _ _ => 0) ⟨#[], #[.slice none 0 0, .string ⟨#[]⟩, .agg #[.string ⟨#[]⟩, .string ⟨#[]⟩]], []⟩).memory Tryz.f6.params.toList Rows.rowsPlaySpec.vars false #[.slice none 0 0, .string ⟨#[]⟩, .agg #[.string ⟨#[]⟩, .string ⟨#[]⟩]].toList 8 = some ([.nil, .lit (.string []), .agg [.lit (.string []), .lit (.string [])]], [], places) :=
  ⟨[], by kernel_rfl⟩
set_option maxRecDepth 100000 in
theorem lifted (os : Os) (started : os.Started) (H : Type) (enc : TypeId × Value → H) (F : Stop.Interp) :
    ReturnsInHanded {} Tryz.checked os 6 .any ((OpenSpec.ofChange Rows.rowsPlaySpec).preRow enc Tryz.prog Tryz.f6 Rows.rowsPlayRow.domain false Rows.rowsPlayRow.laid) (((OpenSpec.ofChange Rows.rowsPlaySpec).at F).post enc Tryz.prog Tryz.f6 false true false false) := by
  obtain ⟨places, hx⟩ := reads os enc
  refine returnsInHanded_of_row (C := Tryz.checked) (s := OpenSpec.ofChange Rows.rowsPlaySpec) own started (by kernel_rfl) Tryz.func6
    (witness_row_at (enc := enc) (C := Tryz.checked) false (laidWorld os) #[.slice none 0 0, .string ⟨#[]⟩, .agg #[.string ⟨#[]⟩, .string ⟨#[]⟩]] rfl (by kernel_rfl) (by kernel_rfl) (by kernel_rfl)
      (OpenSpec.preRow_of_cond 8 hx (by kernel_rfl) (fun k hk => by cases hk) (by kernel_rfl) (laid_met os))) ?_
  intro W base args ds gs before hval hW _ _ hwt hL hsh _
  exact contract H enc W base args ds gs before hval hW _ hwt hsh
theorem bare : Rows.RowsPlaySaid :=
  OpenClaim.holds_of_cond 6 Tryz.f6 rfl rfl rfl rfl rfl rfl rfl ⟨rfl, rfl, rfl, rfl, rfl⟩ rfl rfl rfl rfl rfl (by kernel_rfl) Tryz.func6 (by kernel_rfl)
    (of_decide_eq_true (by kernel_rfl)) (by unfold Func.isWrapper; first | (rw [if_pos (by decide +kernel)]; kernel_rfl) | (rw [if_neg (by decide +kernel)]; exact ⟨rfl, rfl⟩))
    (fun os started H enc _ F => by rw [OpenClaim.pre_eq_preRow]; exact lifted os started H enc F)
theorem plain (f : FuncId) (fn : Func) (hf : Tryz.pinned.checked.prog.funcNamed "parchment/parchmentlaw14.RowsPlay" = some f) (hfn : Tryz.pinned.checked.prog.funcs[f]? = some fn) :
    false = Tryz.pinned.checked.prog.looks [] ∧ ∀ (j : Nat) t, fn.params[j]? = some t → Tryz.pinned.checked.prog.wantsStandIn t = false := by
  obtain rfl : f = 6 := Option.some.inj ((show Tryz.prog.funcNamed "parchment/parchmentlaw14.RowsPlay" = some 6 by kernel_rfl).symm.trans hf) |>.symm
  obtain rfl : fn = Tryz.f6 := (Option.some.inj (Tryz.func6.symm.trans hfn)).symm
  refine ⟨by kernel_rfl, fun j t ht => ?_⟩
  rw [Tryz.params6] at ht
  have hm := Array.mem_of_getElem? ht
  simp only [List.mem_toArray, List.mem_cons, List.not_mem_nil, or_false] at hm
  rcases hm with rfl | rfl | rfl
  all_goals exact (show Tryz.prog.wantsStandIn _ = false by kernel_rfl)
theorem said : Rows.RowsPlayCardSaid :=
  Claim7.holds_tied_plain_at .later [] _ _ _ _ bare (fun _ h => by cases h) (by kernel_rfl) (fun _ h => by cases h) rowsPlay_row_tie rfl ⟨rfl, rfl⟩ (by kernel_rfl) rfl plain (by kernel_rfl)
end Go.Proofs.YtdidpocakipinaaGreatDoor.RowsPlayLaw
#print axioms Go.Proofs.YtdidpocakipinaaGreatDoor.RowsPlayLaw.said
