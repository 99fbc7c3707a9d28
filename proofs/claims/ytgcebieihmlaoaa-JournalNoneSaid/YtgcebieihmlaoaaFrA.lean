/-
  Frames that are cut or turned: plain laws.
-/
import Derived.Test.YtgcebieihmlaoaaProg
import Derived.Test.YtgcebieihmlaoaaSlj
import Derived.Test.YtgcebieihmlaoaaFr8
namespace Go.Proofs.Ytgcebieihmlaoaa
open Go.SL Go.RowKit
set_option linter.unusedVariables false
set_option linter.unusedSimpArgs false
set_option maxRecDepth 100000
open Fr1 Fr2 Fr3 Fr4 Fr5 Fr6 Fr7 Fr8
namespace FrA


/-- a text with one byte put in another's place -/
def fl (l : List UInt8) (k : Nat) (b : UInt8) : List UInt8 := l.take k ++ b :: l.drop (k + 1)
theorem fl_left {u w : List UInt8} {k : Nat} {b : UInt8} (h : k < u.length) : fl (u ++ w) k b = fl u k b ++ w := by
  unfold fl
  rw [List.take_append_of_le_length (by omega), List.drop_append_of_le_length (by omega)]
  simp
theorem fl_right (u w : List UInt8) (k : Nat) (b : UInt8) : fl (u ++ w) (u.length + k) b = u ++ fl w k b := by
  unfold fl
  rw [List.take_length_add_append, Nat.add_assoc, List.drop_length_add_append]
  simp
theorem fl_len {l : List UInt8} {k : Nat} {b : UInt8} (h : k < l.length) : (fl l k b).length = l.length := by
  unfold fl; simp; omega
theorem fl_split {l : List UInt8} {k : Nat} (h : k < l.length) : l = l.take k ++ l.getD k 0 :: l.drop (k + 1) := by
  have : l.getD k 0 = l[k] := by simp [List.getD, h]
  rw [this, List.getElem_cons_drop, List.take_append_drop]
theorem bW_inj {a b : UInt8} (h : bW a = bW b) : a = b := by
  have e : ∀ c : UInt8, (bW c).toNat = c.toNat := fun c => by
    have := c.toNat_lt
    unfold bW; simp
  apply UInt8.toNat_inj.1
  rw [← e a, ← e b, h]
theorem crcBit_zero {x : BitVec 32} (h : crcBit x = 0#32) : x = 0#32 := by
  rw [crcBit_eq] at h
  cases h0 : x.getLsbD 0 with
  | true =>
    rw [h0] at h
    have := congrArg (fun z => z.getLsbD 31) h
    simp only [if_true, BitVec.getLsbD_xor, BitVec.getLsbD_ushiftRight] at this
    rw [BitVec.getLsbD_of_ge x (1 + 31) (by omega)] at this
    exact absurd this (by decide)
  | false =>
    rw [h0] at h
    simp at h
    apply BitVec.eq_of_getLsbD_eq
    intro i hi
    cases i with
    | zero => rw [h0]; rfl
    | succ i =>
      have := congrArg (fun z => z.getLsbD i) h
      simpa [BitVec.getLsbD_ushiftRight, Nat.add_comm] using this
theorem crcBit_inj {a b : BitVec 32} (h : crcBit a = crcBit b) : a = b := by
  have : crcBit (a ^^^ b) = 0#32 := by rw [crcBit_xor, h, BitVec.xor_self]
  exact BitVec.xor_eq_zero_iff.1 (crcBit_zero this)
theorem crcBits_inj {n : Nat} {a b : BitVec 32} (h : crcBits n a = crcBits n b) : a = b := by
  induction n with
  | zero => exact h
  | succ n ih => exact ih (crcBit_inj h)
theorem xor_cancel {a b c : BitVec 32} (h : a ^^^ c = b ^^^ c) : a = b := by
  have := congrArg (· ^^^ c) h
  simpa [BitVec.xor_assoc] using this
theorem step_inj {h g : BitVec 32} {b : UInt8} (e : crcStep h b = crcStep g b) : h = g := xor_cancel (crcBits_inj (n := 8) e)
theorem step_inj2 {h : BitVec 32} {b c : UInt8} (e : crcStep h b = crcStep h c) : b = c := by
  have := crcBits_inj (n := 8) e
  apply bW_inj
  rw [BitVec.xor_comm h, BitVec.xor_comm h] at this
  exact xor_cancel this
theorem fold_inj (l : List UInt8) {h g : BitVec 32} (e : l.foldl crcStep h = l.foldl crcStep g) : h = g := by
  induction l generalizing h g with
  | nil => exact e
  | cons x l ih => exact step_inj (ih e)
theorem crc_fl {l : List UInt8} {k : Nat} {b : UInt8} (h : k < l.length) (hb : b ≠ l.getD k 0) : crc (fl l k b) ≠ crc l := by
  intro e
  have e1 : crcTo (fl l k b) = crcTo l := by
    have := congrArg (fun z => ~~~z) e
    simpa [crc] using this
  rw [fl_split h] at e1
  unfold crcTo fl at e1
  rw [← fl_split h] at e1
  rw [List.foldl_append, List.foldl_cons] at e1
  have e2 : List.foldl crcStep 4294967295#32 l = List.foldl crcStep (crcStep (List.foldl crcStep 4294967295#32 (l.take k)) (l.getD k 0)) (l.drop (k + 1)) := by
    conv => lhs; rw [fl_split h]
    rw [List.foldl_append, List.foldl_cons]
  rw [e2] at e1
  exact hb (step_inj2 (fold_inj _ e1))
theorem fl_ne {l : List UInt8} {k : Nat} {b : UInt8} (h : k < l.length) (hb : b ≠ l.getD k 0) : fl l k b ≠ l := fun e => crc_fl h hb (by rw [e])

theorem numL_app {u : List UInt8} (r : List UInt8) (h : u.length = 4) : numL (u ++ r) = numL u := by
  match u, h with
  | [a, b, c, d], _ => rfl
theorem nextT_parts {u v g : List UInt8} (y : List UInt8) (a : Nat) (hu : u.length = 4) (hv : v.length = 4) (hg : g.length = 4) :
    nextT (u ++ (v ++ (g ++ y))) a = if 65536 < (numL u).toNat then none else if ¬ numL v = crc u then none else if y.length < (numL u).toNat then none
      else some ⟨a + 12, y.take (numL u).toNat, decide (numL g = crc (y.take (numL u).toNat))⟩ := by
  have t4 : (u ++ (v ++ (g ++ y))).take 4 = u := List.take_left' hu
  have d4 : (u ++ (v ++ (g ++ y))).drop 4 = v ++ (g ++ y) := List.drop_left' hu
  have d8 : (u ++ (v ++ (g ++ y))).drop 8 = g ++ y := by rw [← List.append_assoc]; exact List.drop_left' (by simp [hu, hv])
  have d12 : (u ++ (v ++ (g ++ y))).drop 12 = y := by rw [← List.append_assoc, ← List.append_assoc]; exact List.drop_left' (by simp [hu, hv, hg])
  have hl : (u ++ (v ++ (g ++ y))).length = 12 + y.length := by simp [hu, hv, hg]; omega
  unfold nextT
  rw [t4, d4, d8, d12, hl, numL_app _ hu, numL_app _ hv, numL_app _ hg, if_neg (by omega)]
  simp only [Nat.add_lt_add_iff_left]

structure Ck where
  tx : List UInt8
  bd : List UInt8
  gd : Bool
def Ck.ok (c : Ck) : Prop := c.tx.length = 12 + c.bd.length ∧ ∀ r a, nextT (c.tx ++ r) a = some ⟨a + 12, c.bd, c.gd⟩
def cat (cs : List Ck) : List UInt8 := (cs.map (·.tx)).flatten
@[simp] theorem cat_nil : cat [] = [] := rfl
@[simp] theorem cat_cons (c : Ck) (cs : List Ck) : cat (c :: cs) = c.tx ++ cat cs := rfl
@[simp] theorem cat_app (a b : List Ck) : cat (a ++ b) = cat a ++ cat b := by simp [cat]
def fms : List Ck → Nat → List Fm
  | [], _ => []
  | c :: cs, a => ⟨a + 12, c.bd, c.gd⟩ :: fms cs (a + c.tx.length)
theorem scan_cat : ∀ (cs : List Ck), (∀ c ∈ cs, c.ok) → ∀ (p q : List UInt8) (n : Nat), cs.length ≤ n →
    scanF (p ++ (cat cs ++ q)) n p.length = fms cs p.length ++ scanF (p ++ (cat cs ++ q)) (n - cs.length) (p.length + (cat cs).length) := by
  intro cs
  induction cs with
  | nil => intro _ p q n _; simp [fms]
  | cons c cs ih =>
    intro hok p q n hn
    obtain ⟨m, rfl⟩ : ∃ m, n = m + 1 := ⟨n - 1, by simp at hn; omega⟩
    have hc := hok c (by simp)
    have h1 : nextF (p ++ (cat (c :: cs) ++ q)) p.length = some ⟨p.length + 12, c.bd, c.gd⟩ := by
      rw [nextF_eq _ _ (by simp), List.drop_left, cat_cons, List.append_assoc]
      exact hc.2 _ _
    have h2 : nx (p ++ (cat (c :: cs) ++ q)) p.length = ⟨p.length + 12, c.bd, c.gd⟩ := by unfold nx; rw [h1]; rfl
    have h3 := ih (fun x hx => hok x (by simp [hx])) (p ++ c.tx) q m (by simpa using hn)
    have e : p ++ c.tx ++ (cat cs ++ q) = p ++ (cat (c :: cs) ++ q) := by simp
    rw [e] at h3
    rw [scanF, if_pos (by rw [h1]; rfl), h2]
    have l1 : (p ++ c.tx).length = p.length + c.tx.length := List.length_append
    have l2 : p.length + 12 + c.bd.length = (p ++ c.tx).length := by rw [l1, hc.1]; omega
    simp only [fms, List.cons_append]
    rw [l2, h3, l1]
    congr 2
    simp [Nat.add_assoc]
theorem cat_len {cs : List Ck} (h : ∀ c ∈ cs, c.ok) : cs.length ≤ (cat cs).length := by
  induction cs with
  | nil => simp
  | cons c cs ih =>
    have h1 := (h c (by simp)).1
    have h2 := ih (fun x hx => h x (by simp [hx]))
    simp; omega
theorem scan_all {cs : List Ck} (h : ∀ c ∈ cs, c.ok) {q : List UInt8} (hq : ∀ a, nextT q a = none) : scanL (cat cs ++ q) = fms cs 0 := by
  have h1 := scan_cat cs h [] q ((cat cs ++ q).length + 1) (by have := cat_len h; simp; omega)
  simp only [List.nil_append, List.length_nil, Nat.zero_add] at h1
  unfold scanL
  rw [h1]
  cases (cat cs ++ q).length + 1 - cs.length with
  | zero => simp [scanF]
  | succ n =>
    have : nextF (cat cs ++ q) (cat cs).length = none := by rw [nextF_eq _ _ (by simp), List.drop_left]; exact hq _
    rw [scanF, if_neg (by rw [this]; simp)]
    simp
theorem fms_len (cs : List Ck) (a : Nat) : (fms cs a).length = cs.length := by
  induction cs generalizing a with
  | nil => rfl
  | cons c cs ih => simp [fms, ih]
theorem fms_good (cs : List Ck) (a : Nat) : ((fms cs a).filter (·.good)).length = (cs.filter (·.gd)).length := by
  induction cs generalizing a with
  | nil => rfl
  | cons c cs ih => cases h : c.gd <;> simp [fms, h, ih]
theorem fms_end {cs : List Ck} (h : ∀ c ∈ cs, c.ok) (hn : cs ≠ []) (a : Nat) : endL (fms cs a) = a + (cat cs).length := by
  induction cs generalizing a with
  | nil => exact absurd rfl hn
  | cons c cs ih =>
    have h1 := (h c (by simp)).1
    cases cs with
    | nil => simp [fms, endL]; omega
    | cons d cs =>
      have h2 := ih (fun x hx => h x (by simp [hx])) (by simp) (a + c.tx.length)
      have : endL (fms (c :: d :: cs) a) = endL (fms (d :: cs) (a + c.tx.length)) := by
        unfold endL
        simp [fms, List.getLast?_cons_cons]
      rw [this, h2]
      simp; omega

def fr (l : List UInt8) : Ck := ⟨headL l ++ l, l, true⟩
theorem fr_ok {l : List UInt8} (h : l.length ≤ 65536) : (fr l).ok := ⟨by simp [fr], fun r a => by
  have := nextT_frame l r a h
  simpa [fr] using this⟩
theorem nil_none (a : Nat) : nextT [] a = none := by unfold nextT; rw [if_pos (by simp)]
theorem headL_parts (l : List UInt8) : headL l = fourL (BitVec.ofInt 32 (l.length : Nat)) ++ (fourL (crc (fourL (BitVec.ofInt 32 (l.length : Nat)))) ++ fourL (crc l)) := by unfold headL; simp
theorem four_nat {n : Nat} (h : n ≤ 65536) : (numL (fourL (BitVec.ofInt 32 (n : Nat)))).toNat = n := by
  have := numL_four (BitVec.ofInt 32 (n : Nat)) []
  rw [List.append_nil] at this
  rw [this]; simp; omega
theorem part_none {l : List UInt8} (h : l.length ≤ 65536) {j : Nat} (hj : j < (fr l).tx.length) (a : Nat) : nextT ((fr l).tx.take j) a = none := by
  by_cases h12 : j < 12
  · unfold nextT; rw [if_pos (by simp; omega)]
  · have hl : (fr l).tx.length = 12 + l.length := by simp [fr]
    have e : (fr l).tx.take j = headL l ++ l.take (j - 12) := by
      show (headL l ++ l).take j = _
      rw [List.take_append, List.take_of_length_le (by simp; omega)]
      simp
    rw [e, headL_parts, List.append_assoc, List.append_assoc, nextT_parts _ _ (fourL_len _) (fourL_len _) (fourL_len _), four_nat h]
    rw [if_neg (by omega), if_neg (by simpa using numL_four (crc (fourL (BitVec.ofInt 32 (l.length : Nat)))) []), if_pos (by simp; omega)]
theorem torn1 {fs : List (List UInt8)} (h : ∀ x ∈ fs, x.length ≤ 65536) {w N : Nat} (hw : w ≤ fs.length) (h1 : (cat ((fs.take w).map fr)).length ≤ N)
    (h2 : w < fs.length → N < (cat ((fs.take (w + 1)).map fr)).length) (hN : N ≤ (cat (fs.map fr)).length) : scanL ((cat (fs.map fr)).take N) = fms ((fs.take w).map fr) 0 := by
  have e : cat (fs.map fr) = cat ((fs.take w).map fr) ++ cat ((fs.drop w).map fr) := by rw [← cat_app, ← List.map_append, List.take_append_drop]
  have hok : ∀ c ∈ (fs.take w).map fr, c.ok := by
    intro c hc
    obtain ⟨x, hx, rfl⟩ := List.mem_map.1 hc
    exact fr_ok (h x (List.mem_of_mem_take hx))
  rw [e, List.take_append, List.take_of_length_le h1]
  refine scan_all hok fun a => ?_
  by_cases hlt : w < fs.length
  · have ed : fs.drop w = fs[w] :: fs.drop (w + 1) := List.drop_eq_getElem_cons hlt
    have et : fs.take (w + 1) = fs.take w ++ [fs[w]] := List.take_succ_eq_append_getElem hlt
    have h3 := h2 hlt
    rw [et] at h3
    simp only [List.map_append, cat_app, List.length_append, List.map_cons, List.map_nil, cat_cons, cat_nil, List.append_nil] at h3
    rw [ed, List.map_cons, cat_cons, List.take_append_of_le_length (by omega)]
    exact part_none (h _ (List.getElem_mem hlt)) (by omega) a
  · rw [List.drop_eq_nil_of_le (by omega)]
    simpa using nil_none a
theorem at_cat {fs : List (List UInt8)} {k : Nat} (hk : k < (cat (fs.map fr)).length) : ∃ us x vs j, fs = us ++ x :: vs ∧ k = (cat (us.map fr)).length + j ∧ j < (fr x).tx.length := by
  induction fs generalizing k with
  | nil => simp at hk
  | cons y fs ih =>
    by_cases h : k < (fr y).tx.length
    · exact ⟨[], y, fs, k, rfl, by simp, h⟩
    · simp at hk
      obtain ⟨us, x, vs, j, h1, h2, h3⟩ := ih (k := k - (fr y).tx.length) (by omega)
      exact ⟨y :: us, x, vs, j, by simp [h1], by simp; omega, h3⟩
theorem getD_left {u w : List UInt8} {j : Nat} (h : j < u.length) : (u ++ w).getD j 0 = u.getD j 0 := by
  simp only [List.getD]; rw [List.getElem?_append_left h]
theorem getD_right (u w : List UInt8) (k : Nat) : (u ++ w).getD (u.length + k) 0 = w.getD k 0 := by
  simp only [List.getD]; rw [List.getElem?_append_right (by omega)]; congr 2; omega
theorem fr_parts (x : List UInt8) (hx : x.length ≤ 65536) : ∃ u v g : List UInt8, (fr x).tx = u ++ (v ++ (g ++ x)) ∧ u.length = 4 ∧ v.length = 4 ∧ g.length = 4 ∧ (numL u).toNat = x.length ∧ v = fourL (crc u) ∧ g = fourL (crc x) := by
  refine ⟨_, _, _, ?_, fourL_len (BitVec.ofInt 32 (x.length : Nat)), fourL_len _, fourL_len _, four_nat hx, rfl, rfl⟩
  show headL x ++ x = _
  rw [headL_parts]; simp
theorem numL_four' (n : BitVec 32) : numL (fourL n) = n := by simpa using numL_four n []
theorem numL_ne {v : List UInt8} {c : BitVec 32} (hv : v.length = 4) (h : v ≠ fourL c) : ¬ numL v = c := fun e => h (by
  have := (four_num (t := v) (c := c) (by omega)).2 e
  rw [this, List.take_of_length_le (by omega)])
theorem flip_head {x : List UInt8} (hx : x.length ≤ 65536) {j : Nat} (hj : j < 8) {b : UInt8} (hb : b ≠ (fr x).tx.getD j 0) (r : List UInt8) (a : Nat) : nextT (fl (fr x).tx j b ++ r) a = none := by
  obtain ⟨u, v, g, e, hu, hv, hg, hN, e1, e2⟩ := fr_parts x hx
  rw [e] at hb ⊢
  by_cases h4 : j < 4
  · rw [getD_left (by omega)] at hb
    rw [fl_left (by omega)]
    simp only [List.append_assoc]
    rw [nextT_parts _ _ (by rw [fl_len (by omega)]; exact hu) hv hg]
    have : ¬ numL v = crc (fl u j b) := by
      rw [e1, numL_four']
      exact fun h => crc_fl (by omega) hb h.symm
    rw [if_pos this]
    split <;> rfl
  · obtain ⟨k, rfl⟩ : ∃ k, j = u.length + k := ⟨j - 4, by omega⟩
    rw [getD_right, getD_left (by omega)] at hb
    rw [fl_right, fl_left (by omega)]
    simp only [List.append_assoc]
    rw [nextT_parts _ _ hu (by rw [fl_len (by omega)]; exact hv) hg]
    have : ¬ numL (fl v k b) = crc u := numL_ne (by rw [fl_len (by omega)]; exact hv) (fun h => fl_ne (by omega) hb (by rw [h, e1]))
    rw [if_pos this]
    split <;> rfl
theorem flip_tail {x : List UInt8} (hx : x.length ≤ 65536) {j : Nat} (hj : 8 ≤ j) (hj2 : j < (fr x).tx.length) {b : UInt8} (hb : b ≠ (fr x).tx.getD j 0) : ∃ y, (Ck.mk (fl (fr x).tx j b) y false).ok := by
  obtain ⟨u, v, g, e, hu, hv, hg, hN, e1, e2⟩ := fr_parts x hx
  rw [e] at hb hj2 ⊢
  have hnv : numL v = crc u := by rw [e1, numL_four']
  have hlen : (u ++ (v ++ (g ++ x))).length = 12 + x.length := by simp only [List.length_append]; omega
  by_cases h12 : j < 12
  · refine ⟨x, by show (fl _ _ _).length = _; rw [fl_len hj2, hlen], fun r a => ?_⟩
    show nextT (fl _ _ _ ++ r) a = _
    obtain ⟨k, rfl⟩ : ∃ k, j = u.length + (v.length + k) := ⟨j - 8, by omega⟩
    rw [getD_right, getD_right, getD_left (by omega)] at hb
    rw [fl_right, fl_right, fl_left (by omega)]
    simp only [List.append_assoc]
    rw [nextT_parts _ _ hu hv (by rw [fl_len (by omega)]; exact hg), hN, if_neg (by omega), if_neg (by simpa using hnv), if_neg (by simp), List.take_left]
    have : ¬ numL (fl g k b) = crc x := numL_ne (by rw [fl_len (by omega)]; exact hg) (fun h => fl_ne (by omega) hb (by rw [h, e2]))
    rw [decide_eq_false this]
  · obtain ⟨k, rfl⟩ : ∃ k, j = u.length + (v.length + (g.length + k)) := ⟨j - 12, by omega⟩
    rw [getD_right, getD_right, getD_right] at hb
    have hk : k < x.length := by omega
    refine ⟨fl x k b, by show (fl _ _ _).length = _; rw [fl_len hj2, hlen, fl_len hk], fun r a => ?_⟩
    show nextT (fl _ _ _ ++ r) a = _
    rw [fl_right, fl_right, fl_right]
    simp only [List.append_assoc]
    have ht : (fl x k b ++ r).take x.length = fl x k b := List.take_left' (fl_len hk)
    rw [nextT_parts _ _ hu hv hg, hN, if_neg (by omega), if_neg (by simpa using hnv), if_neg (by simp [fl_len hk]), ht]
    have : ¬ numL g = crc (fl x k b) := by
      rw [e2, numL_four']
      exact fun h => crc_fl hk hb h.symm
    rw [decide_eq_false this]
theorem torn2 {fs : List (List UInt8)} (h : ∀ x ∈ fs, x.length ≤ 65536) {k : Nat} (hk : k < (cat (fs.map fr)).length) {b : UInt8} (hb : b ≠ (cat (fs.map fr)).getD k 0) :
    ((scanL (fl (cat (fs.map fr)) k b)).filter (·.good)).length < fs.length := by
  obtain ⟨us, x, vs, j, rfl, rfl, hj⟩ := at_cat hk
  have ho : ∀ (ys : List (List UInt8)), (∀ y ∈ ys, y ∈ us ++ x :: vs) → ∀ c ∈ ys.map fr, c.ok := by
    intro ys hys c hc
    obtain ⟨y, hy, rfl⟩ := List.mem_map.1 hc
    exact fr_ok (h y (hys y hy))
  have hx := h x (by simp)
  have e : cat ((us ++ x :: vs).map fr) = cat (us.map fr) ++ ((fr x).tx ++ cat (vs.map fr)) := by simp
  rw [e] at hb ⊢
  have hb' : b ≠ (fr x).tx.getD j 0 := by
    have : (cat (us.map fr) ++ ((fr x).tx ++ cat (vs.map fr))).getD ((cat (us.map fr)).length + j) 0 = (fr x).tx.getD j 0 := by
      simp only [List.getD]
      rw [List.getElem?_append_right (by omega), List.getElem?_append_left (by omega)]
      congr 2; omega
    rwa [this] at hb
  rw [fl_right, fl_left hj]
  by_cases h8 : j < 8
  · rw [scan_all (ho us (fun y hy => by simp [hy])) (fun a => flip_head hx h8 hb' _ a), fms_good]
    have := List.length_filter_le (fun c : Ck => c.gd) (us.map fr)
    simp at this ⊢
    omega
  · obtain ⟨y, hy⟩ := flip_tail hx (by omega) hj hb'
    have hall : ∀ c ∈ us.map fr ++ (Ck.mk (fl (fr x).tx j b) y false) :: vs.map fr, c.ok := by
      intro c hc
      rcases List.mem_append.1 hc with h1 | h1
      · exact ho us (fun y hy => by simp [hy]) c h1
      · rcases List.mem_cons.1 h1 with rfl | h2
        · exact hy
        · exact ho vs (fun y hy => by simp [hy]) c h2
    have := scan_all hall nil_none
    simp only [cat_app, cat_cons, List.append_nil] at this
    rw [this, fms_good]
    have h1 := List.length_filter_le (fun c : Ck => c.gd) (us.map fr)
    have h2 := List.length_filter_le (fun c : Ck => c.gd) (vs.map fr)
    simp at h1 h2 ⊢
    omega
end FrA
end Go.Proofs.Ytgcebieihmlaoaa
