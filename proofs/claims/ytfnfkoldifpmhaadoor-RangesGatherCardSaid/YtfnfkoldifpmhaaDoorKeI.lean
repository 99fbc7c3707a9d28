/-
  Values that come in.
-/
import Derived.Test.YtfnfkoldifpmhaaDoorProg
import Derived.Test.YtfnfkoldifpmhaaDoorSlj
import Derived.Test.YtfnfkoldifpmhaaDoorKeG
import Derived.Test.YtfnfkoldifpmhaaDoorSlk
import Derived.SizedLaws
import Derived.Shelf.Vars
namespace Go.Proofs.YtfnfkoldifpmhaaDoor
open Go.SL Go.RowKit
set_option linter.unusedVariables false
set_option linter.unusedSimpArgs false
set_option maxRecDepth 100000
open Ke1 Ke3 Ke4 Ke5 Ke6 Ke7 Ke8 Ke9 KeA KeB KeC KeD KeE KeF KeG
open Go.ChangeShapes Go.WideShapes Go.ChangeAt
namespace KeI


section
variable {H : Type} {enc : TypeId × Value → H}
theorem choose_list {n : Nat} {Q : Nat → V → Prop} (h : ∀ i, i < n → ∃ x, Q i x) : ∃ l : List V, l.length = n ∧ ∀ i (hi : i < l.length), Q i l[i] := by
  classical
  refine ⟨(List.range n).map fun i => if h' : i < n then Classical.choose (h i h') else default, by simp, fun i hi => ?_⟩
  have hin : i < n := by simpa using hi
  simp only [List.getElem_map, List.getElem_range, dif_pos hin]
  exact Classical.choose_spec (h i hin)
theorem ValR.up {B : Frag} : ∀ {d : Nat} {v : V} {cs : List Value}, ValR B d v cs → ValR B (d + 1) v cs := by
  intro d
  induction d with
  | zero => intro v cs h; exact h.elim
  | succ d ih =>
    rintro v cs ⟨Ap, cp, An, cn, h1, h2, h3, h4, h5, h6, h7⟩
    exact ⟨Ap, cp, An, cn, h1, h2, h3, h4, h5, h6, fun i hi => let ⟨b, o, l, et, fz, xs, g1, g2, g3, g4⟩ := h7 i hi; ⟨b, o, l, et, fz, xs, g1, g2, g3, ih g4⟩⟩
theorem weightsAll_mem {P : Program} {e : TypeId} : ∀ {l : List (DataW H)} {d : DataW H} {n : Nat}, d ∈ l → n ∈ d.weights P e → n ∈ DataW.weightsAll P e l := by
  intro l
  induction l with
  | nil => intro d n h; cases h
  | cons x l ih =>
    intro d n h hn
    simp only [DataW.weightsAll, List.mem_append]
    rcases List.mem_cons.1 h with rfl | h
    · exact .inl hn
    · exact .inr (ih h hn)
theorem add_block (a : Addr) (k : Nat) : (a.add k).block = a.block := by unfold Addr.add; split <;> rfl
theorem add_off (a : Addr) (k : Nat) : (a.add k).off = a.off + k := by unfold Addr.add; split <;> simp_all
theorem cells_row {W : World} {b0 : Nat} {a : Addr} {n : Nat} {cs : List Value} (h : W.cells? b0 a n = some cs) (hn : 0 < n) : a.spot = none ∧ ∃ l et fz, W.heap[a.block]? = some (.cells (List.toArray l) et fz) ∧ (l.drop a.off).take n = cs := by
  obtain ⟨_, hl, hc⟩ := World.cells?_some h
  have hb : ∀ k, (a.add k).block = a.block := fun k => by unfold Addr.add; split <;> rfl
  have h0 := cell_obj ((hc 0 hn).trans (List.getElem?_eq_getElem (by omega)))
  have hs : a.spot = none := by have := h0.1; simpa [Addr.add] using this
  obtain ⟨l, et, fz, hh, _⟩ := h0.2
  rw [hb] at hh
  have ho : ∀ k, (a.add k).off = a.off + k := fun k => by unfold Addr.add; split <;> simp_all
  refine ⟨hs, l, et, fz, hh, ?_⟩
  apply List.ext_getElem?
  intro k
  by_cases hk : k < n
  · rw [List.getElem?_take, if_pos hk, List.getElem?_drop]
    obtain ⟨l2, et2, fz2, hh2, hv2⟩ := (cell_obj ((hc k hk).trans (List.getElem?_eq_getElem (by omega)))).2
    rw [hb, hh] at hh2
    rw [ho] at hv2
    injection hh2 with hh2
    injection hh2 with e1
    have e2 : l = l2 := by simpa using congrArg Array.toList e1
    subst e2
    rw [hv2, List.getElem?_eq_getElem]
  · rw [List.getElem?_take, if_neg hk, List.getElem?_eq_none (by omega)]
theorem wf_i64 {n : Int} (h : (Lit.int .i64 n).wf = true) : -9223372036854775808 ≤ n ∧ n ≤ 9223372036854775807 := by
  unfold Lit.wf at h
  rw [Bool.and_eq_true] at h
  exact ⟨of_decide_eq_true h.1, of_decide_eq_true h.2⟩
theorem wf_u64 {n : Int} (h : (Lit.int .u64 n).wf = true) : 0 ≤ n ∧ n ≤ 18446744073709551615 := by
  unfold Lit.wf at h
  rw [Bool.and_eq_true] at h
  exact ⟨of_decide_eq_true h.1, of_decide_eq_true h.2⟩
theorem u64_of {n : Int} (h : (Lit.int .u64 n).wf = true) : ∃ b : BitVec 64, Value.int .u64 n = u64 b := by
  obtain ⟨h1, h2⟩ := wf_u64 h
  refine ⟨BitVec.ofNat 64 n.toNat, ?_⟩
  show _ = Value.int .u64 _
  congr 1
  rw [BitVec.toNat_ofNat]
  omega
theorem open_val0 {W : World} {b0 : Nat} {sp : Nat → Bool} {hd : Bool} : ∀ (fuel : Nat) (cs : List Value) (x : DataW H × List MemPlace), DataW.trod enc Tryd.prog W b0 sp hd fuel 26 cs = some x → (∀ n ∈ x.1.weights Tryd.prog 26, n ≤ reachBytes) → ∃ v, ValR (base W) fuel v cs := by
  intro fuel
  induction fuel using Nat.strongRecOn with
  | _ fuel ih =>
    intro cs x h hw
    have c3 : Tryd.prog.cellsOf 3 = 1 := by kernel_rfl
    have c4 : Tryd.prog.cellsOf 4 = 1 := by kernel_rfl
    have c2 : Tryd.prog.cellsOf 2 = 1 := by kernel_rfl
    have c9 : Tryd.prog.cellsOf 9 = 1 := by kernel_rfl
    have c32 : Tryd.prog.cellsOf 23 = 1 := by kernel_rfl
    have c33 : Tryd.prog.cellsOf 24 = 1 := by kernel_rfl
    have c35 : Tryd.prog.cellsOf 26 = 6 := by kernel_rfl
    have b35 : Tryd.prog.bytesOf 26 = 88 := by kernel_rfl
    obtain ⟨xs, n, rfl, rfl, hl, hlen, hf⟩ := DataW.trod_struct Tryd.underlying26 h
    rw [c35] at hl
    match cs, hl, xs, hlen with
    | [k0, k1, k2, k3, k4, k5], _, [y0, y1, y2, y3, y4, y5], _ =>
      have e0 : DataW.trod enc Tryd.prog W b0 sp hd n 3 [k0] = some y0 := by
        have := hf 0 _ rfl
        have e : DataW.trod enc Tryd.prog W b0 sp hd n 3 (List.take (Tryd.prog.cellsOf 3) [k0, k1, k2, k3, k4, k5]) = some y0 := this
        rw [c3] at e; exact e
      have e1 : DataW.trod enc Tryd.prog W b0 sp hd n 4 [k1] = some y1 := by
        have := hf 1 _ rfl
        have e : DataW.trod enc Tryd.prog W b0 sp hd n 4 (List.take (Tryd.prog.cellsOf 4) [k1, k2, k3, k4, k5]) = some y1 := this
        rw [c4] at e; exact e
      have e2 : DataW.trod enc Tryd.prog W b0 sp hd n 2 [k2] = some y2 := by
        have := hf 2 _ rfl
        have e : DataW.trod enc Tryd.prog W b0 sp hd n 2 (List.take (Tryd.prog.cellsOf 2) [k2, k3, k4, k5]) = some y2 := this
        rw [c2] at e; exact e
      have e3 : DataW.trod enc Tryd.prog W b0 sp hd n 9 [k3] = some y3 := by
        have := hf 3 _ rfl
        have e : DataW.trod enc Tryd.prog W b0 sp hd n 9 (List.take (Tryd.prog.cellsOf 9) [k3, k4, k5]) = some y3 := this
        rw [c9] at e; exact e
      have e4 : DataW.trod enc Tryd.prog W b0 sp hd n 23 [k4] = some y4 := by
        have := hf 4 _ rfl
        have e : DataW.trod enc Tryd.prog W b0 sp hd n 23 (List.take (Tryd.prog.cellsOf 23) [k4, k5]) = some y4 := this
        rw [c32] at e; exact e
      have e5 : DataW.trod enc Tryd.prog W b0 sp hd n 24 [k5] = some y5 := by
        have := hf 5 _ rfl
        have e : DataW.trod enc Tryd.prog W b0 sp hd n 24 (List.take (Tryd.prog.cellsOf 24) [k5]) = some y5 := this
        rw [c33] at e; exact e
      have hwe : ∀ (j : Nat) (t : TypeId) (d : DataW H), [3, 4, 2, 9, 23, 24][j]? = some t → [y0.1, y1.1, y2.1, y3.1, y4.1, y5.1][j]? = some d → ∀ m ∈ d.weights Tryd.prog t, m ≤ reachBytes := fun j t d ht hd' m hm => hw m (by
        have : (DataW.agg (List.map (·.1) [y0, y1, y2, y3, y4, y5])).weights Tryd.prog 26 = DataW.weightsEach Tryd.prog [3, 4, 2, 9, 23, 24] [y0.1, y1.1, y2.1, y3.1, y4.1, y5.1] := by
          simp [DataW.weights, Tryd.underlying26]
        rw [this]
        exact DataW.weights_mem_each ht hd' m hm)
      obtain ⟨m0, g0, _, _⟩ := DataW.trod_int Tryd.underlying3 e0
      obtain ⟨m1, g1, _⟩ := DataW.trod_bool Tryd.underlying4 e1
      obtain ⟨m2, g2, _, w2⟩ := DataW.trod_int Tryd.underlying2 e2
      obtain ⟨m3, g3, hx3, _⟩ := DataW.trod_string Tryd.underlying9 e3
      have w3 : m3.data.toList.length ≤ reachBytes := hwe 3 9 _ rfl rfl _ (by rw [hx3]; simp [DataW.weights])
      have hr : reachBytes ≤ 4611686018427387904 := by decide
      obtain ⟨n1, n2⟩ := wf_i64 w2
      injection g0 with g0 _
      injection g1 with g1 _
      injection g2 with g2 _
      injection g3 with g3 _
      subst g0 g1 g2 g3
      -- the names
      have hnm : ∃ (An : Option Addr) (cn : Nat) (nm : List (List UInt8)), k5 = .slice An nm.length cn ∧ nm.length ≤ cn ∧ nm.length ≤ 4611686018427387904 ∧ RoE (base W) An nm.length (nm.map str) ∧ ∀ s ∈ nm, s.length ≤ 4611686018427387904 := by
        rcases open_strings Tryd.underlying24 Tryd.underlying9 c9 e5 with ⟨hcs, _⟩ | ⟨a, len, cap, ss, hcs, _, hl5, hm5, hz5, hx5, hcell5, hsz5⟩
        · simp at hcs
          exact ⟨none, 0, [], hcs, Nat.le_refl _, by simp, ⟨rfl, fun k hk => absurd hk (by simp)⟩, fun s hs => by cases hs⟩
        · simp at hcs
          have hle : len ≤ ss.length := by rw [hz5]; split <;> omega
          have hwn : ∀ m ∈ y5.1.weights Tryd.prog 24, m ≤ reachBytes := hwe 5 24 _ rfl rfl
          rw [hx5] at hwn
          have hwl : ((strs (H := H) (ss.take len)).length + (strs (H := H) (ss.drop len)).length) * Tryd.prog.bytesOf 9 ≤ reachBytes := hwn _ (by simp [DataW.weights, Tryd.underlying24])
          have b9 : Tryd.prog.bytesOf 9 = 16 := by kernel_rfl
          rw [b9] at hwl
          have hsl : (strs (H := H) (ss.take len)).length = len := by simp [strs]; omega
          have hnl : ((ss.take len).map (·.data.toList)).length = len := by simp; omega
          refine ⟨some a, cap, (ss.take len).map (·.data.toList), by rw [hcs, hnl], by omega, by omega, RoE.of_cells (by simp) ?_, ?_⟩
          · intro i v hv
            simp only [List.map_map, List.getElem?_map] at hv
            by_cases hi : i < len
            · rw [List.getElem?_take, if_pos hi, List.getElem?_eq_getElem (by omega)] at hv
              simp at hv
              rw [hcell5 i (by omega), ← hv]
              simp [List.getD, List.getElem?_eq_getElem (show i < ss.length by omega)]
            · rw [List.getElem?_take, if_neg hi] at hv; cases hv
          · intro s hs
            simp only [List.mem_map] at hs
            obtain ⟨y, hy, rfl⟩ := hs
            have : y.data.toList.length ≤ reachBytes := hwn _ (by
              simp only [DataW.weights, Tryd.underlying24, List.mem_cons, List.mem_append]
              refine .inr (.inl (weightsAll_mem (d := .lit (.string y.data.toList)) ?_ (by simp [DataW.weights])))
              unfold strs
              exact List.mem_map.2 ⟨y, hy, rfl⟩)
            omega
      obtain ⟨An, cn, nm, rfl, hnc, hnl, hnr, hnx⟩ := hnm
      rcases DataW.trod_slice Tryd.underlying23 e4 with ⟨hcs, _⟩ | ⟨a, len, cap, elems, rest, n', rfl, hcs, hx4, _, hl4, hm4, hlen4, hel, _, _⟩
      · simp at hcs
        subst hcs
        exact ⟨.mk m0 m1 m2 m3.data.toList [] nm, none, 0, An, cn, rfl, ⟨Nat.le_trans w3 hr, n1, n2, hnc, Nat.le_refl _⟩, by show 0 ≤ _; omega, hnl, hnr, hnx, fun i hi => absurd hi (by show ¬ i < 0; omega)⟩
      · simp at hcs
        subst hcs
        have hwn : ∀ m ∈ y4.1.weights Tryd.prog 23, m ≤ reachBytes := hwe 4 23 _ rfl rfl
        rw [hx4] at hwn
        have hwl : ((elems.map (·.1)).length + (rest.map (·.1)).length) * Tryd.prog.bytesOf 26 ≤ reachBytes := hwn _ (by simp [DataW.weights, Tryd.underlying23])
        rw [b35, List.length_map] at hwl
        have hex : ∀ i, i < len → ∃ v, ∃ cs', W.cells? b0 (a.add (i * 6)) 6 = some cs' ∧ ValR (base W) n' v cs' := by
          intro i hi
          have h1 := hel i hi
          rw [c35, List.getElem?_eq_getElem (by omega), Option.bind_eq_some_iff] at h1
          obtain ⟨cs', h2, h3⟩ := h1
          obtain ⟨v, hv⟩ := ih n' (by omega) cs' _ h3 (fun m hm => hwn m (by
            simp only [DataW.weights, Tryd.underlying23, List.mem_cons, List.mem_append]
            exact .inr (.inl (weightsAll_mem (List.mem_map.2 ⟨_, List.getElem_mem (by omega), rfl⟩) hm))))
          exact ⟨v, cs', h2, hv⟩
        obtain ⟨ps, hps, hall⟩ := choose_list hex
        refine ⟨.mk m0 m1 m2 m3.data.toList ps nm, some a, cap, An, cn, by rw [← hps]; rfl, ⟨Nat.le_trans w3 hr, n1, n2, hnc, by show ps.length ≤ _; omega⟩, by show ps.length ≤ _; omega, hnl, hnr, hnx, fun i hi => ?_⟩
        obtain ⟨cs', h2, hv⟩ := hall i hi
        obtain ⟨hs, l, et, fz, hh, hd6⟩ := cells_row h2 (by decide)
        have hsa : a.spot = none := by
          obtain ⟨_, h20, _⟩ := hall 0 (Nat.lt_of_le_of_lt (Nat.zero_le i) hi)
          have := (cells_row h20 (by decide)).1
          simpa [Addr.add] using this
        have hb : (a.add (i * 6)).block = a.block := add_block _ _
        have ho : (a.add (i * 6)).off = a.off + i * 6 := add_off _ _
        rw [hb] at hh
        rw [ho] at hd6
        exact ⟨a.block, a.off, l, et, fz, cs', by rw [← hsa], hh, hd6, ValR.up hv⟩
/-- A value among the arguments. -/
theorem open_val {r : Reach} {b0 base' : Nat} {sp : Nat → Bool} {hd : Bool} {W : World} {v : Value} {d : DataW H} {ps : List MemPlace} (hval : Value.okWide Tryd.prog W r b0 26 v) (h : DataW.Trod enc Tryd.prog W base' sp hd 26 v d ps) (hw : ∀ n ∈ d.weights Tryd.prog 26, n ≤ reachBytes) :
    ∃ (x : V) (k : Nat) (cs : List Value), v = .agg cs.toArray ∧ ValR (base W) k x cs := by
  obtain ⟨cs, rfl, _⟩ := okWide_struct Tryd.underlying26 hval
  obtain ⟨fuel, hf⟩ := h
  obtain ⟨x, hx⟩ := open_val0 fuel _ _ hf hw
  exact ⟨x, fuel, cs.toList, rfl, by simpa [Value.cells] using hx⟩
theorem open_u64 {r : Reach} {b0 base' : Nat} {sp : Nat → Bool} {hd : Bool} {W : World} {t : TypeId} {v : Value} {d : DataW H} {ps : List MemPlace} (ht : Tryd.prog.underlying t = some (.int .u64)) (hval : Value.okWide Tryd.prog W r b0 t v) (h : DataW.Trod enc Tryd.prog W base' sp hd t v d ps) : ∃ n : BitVec 64, v = u64 n := by
  obtain ⟨n, rfl, _, _, hn⟩ := open_int ht hval h
  exact u64_of hn
theorem maxLen_in {W : World} (h : W.ShapedOpen Tryd.prog) : MaxLenIn (base W) := by
  obtain ⟨m, hm⟩ := cell_of_shapedOpen_int (g := 0) h (of_decide_eq_true (by kernel_rfl)) (t := 3) (zero := #[.int .i64 0]) (by kernel_rfl) rfl (by kernel_rfl) (by kernel_rfl) Tryd.underlying3
  obtain ⟨_, cs, et, fz, h1, h2⟩ := cell_obj hm
  exact ⟨cs, et, fz, m, h1, h2⟩
theorem weights_at {P : Program} {ts : List TypeId} {ds : List (DataW H)} (h : (DataW.weightsEach P ts ds).all (· ≤ reachBytes) = true) {j : Nat} {t : TypeId} {d : DataW H} (ht : ts[j]? = some t) (hd : ds[j]? = some d) : ∀ n ∈ d.weights P t, n ≤ reachBytes := fun n hn => by
  have := List.all_eq_true.1 h _ (DataW.weights_mem_each ht hd n hn)
  simpa using this
end
end KeI
end Go.Proofs.YtfnfkoldifpmhaaDoor
