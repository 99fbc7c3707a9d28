/-
  A value out of its bytes, its bytes out of what was read.
-/
import Derived.Test.YtcoiejmlpinpbaaProg
import Derived.Test.YtcoiejmlpinpbaaSlj
import Derived.Test.YtcoiejmlpinpbaaVaK
namespace Go.Proofs.Ytcoiejmlpinpbaa
open Go.SL Go.RowKit
set_option linter.unusedVariables false
set_option linter.unusedSimpArgs false
set_option maxRecDepth 100000
open Ke5 Ke6 Ke7 Ke8 Ke9 KeA KeB KeE KeF KeG KeH VaA VaB VaC VaD VaK
namespace VaL


def segL (f : V → List UInt8) : List (List UInt8) → List V → List UInt8
  | _, [] => []
  | [], p :: ps => f p ++ segL f [] ps
  | n :: ns, p :: ps => txtL n ++ f p ++ segL f ns ps
theorem seg_eq (f : V → List UInt8) (v : V) : ∀ m i, i + m = v.parts.length → (List.range' i m).flatMap (partB f v) = segL f (v.names.drop i) (v.parts.drop i) := by
  intro m
  induction m with
  | zero => intro i h; rw [List.drop_of_length_le (l := v.parts) (by omega)]; cases v.names.drop i <;> rfl
  | succ m ih =>
    intro i h
    have hi : i < v.parts.length := by omega
    rw [List.range'_succ, List.flatMap_cons, ih (i + 1) (by omega), List.drop_eq_getElem_cons hi]
    unfold partB
    rw [getDp hi]
    by_cases hn : i < v.names.length
    · rw [if_pos hn, List.drop_eq_getElem_cons hn]
      show _ = txtL v.names[i] ++ _ ++ _
      simp [List.getD, hn]
    · rw [if_neg hn, List.drop_of_length_le (l := v.names) (i := i + 1) (by omega), List.drop_of_length_le (l := v.names) (i := i) (by omega)]
      rfl
theorem preB_seg (f : V → List UInt8) (v : V) : preB f v v.parts.length = [toB v.kind] ++ (uvL (BitVec.ofNat 64 v.parts.length) ++ segL f v.names v.parts) := by
  have := seg_eq f v v.parts.length 0 (by omega)
  unfold preB
  rw [List.range_eq_range', this, List.append_assoc]; rfl
/-- numbers within 64 bits, d deep -/
def Rg : Nat → V → Prop
  | 0, _ => True
  | d + 1, v => -9223372036854775808 ≤ v.n ∧ v.n ≤ 9223372036854775807 ∧ ∀ p ∈ v.parts, Rg d p
theorem ValR.rg {B : Frag} : ∀ {d : Nat} {v : V} {cs : List Value}, ValR B d v cs → Rg d v := by
  intro d
  induction d with
  | zero => intro v cs h; exact trivial
  | succ d ih =>
    rintro v cs ⟨Ap, cp, An, cn, h1, h2, h3, h4, h5, h6, h7⟩
    refine ⟨h2.2.1, h2.2.2.1, fun p hp => ?_⟩
    obtain ⟨i, hi, rfl⟩ := List.getElem_of_mem hp
    obtain ⟨b, o, l, et, fz, xs, g1, g2, g3, g4⟩ := h7 i hi
    exact ih g4
theorem getD1 (b : UInt8) : ([b] : List UInt8).getD 0 0 = b := rfl
theorem bool_to {c : Cu} {b : Bool} (hc : c.at' ≤ c.s.length) (a : Ahead c (if b then [1] else [0])) : Took c c.bool.1 (if b then [1] else [0]) ∧ c.bool.2 = b := by
  have hx : (if b then [1] else [0] : List UInt8) = [if b then 1 else 0] := by cases b <;> rfl
  rw [hx] at a ⊢
  obtain ⟨h1, h2⟩ := bytes_to hc a
  have h1' : Took c (c.bytes 1).1 _ := h1
  have h2' : (c.bytes 1).2 = _ := h2
  unfold Cu.bool
  rw [h2', getD1, if_neg (by cases b <;> simp)]
  refine ⟨h1', ?_⟩
  have he := h1'.2.1
  show decide _ = _
  rw [he]
  cases b <;> rfl
theorem u8_one {b : UInt8} {k : Nat} (h : b.toNat = k) : toB ((k : Nat) : Int) = b := by
  subst h; exact UInt8.toNat_inj.1 (toB_nat b.toNat_lt)
theorem bool_of {c : Cu} (h : c.e = 0) (h2 : c.bool.1.e = 0) : Took c c.bool.1 (if c.bool.2 then [1] else [0]) := by
  unfold Cu.bool at *
  have h2' : (if (c.bytes 1).1.e = 0 ∧ 1 < ((c.bytes 1).2.getD 0 0).toNat then ⟨c.s, c.at', 6⟩ else (c.bytes 1).1 : Cu).e = 0 := h2
  clear h2
  by_cases hq : (c.bytes 1).1.e = 0 ∧ 1 < ((c.bytes 1).2.getD 0 0).toNat
  · rw [if_pos hq] at h2'; exact absurd h2' (by show ¬ (6 : Int) = 0; decide)
  · rw [if_neg hq] at h2' ⊢
    obtain ⟨g1, g2⟩ := bytes_of h h2'
    have hs : ∃ b, (c.bytes 1).2 = [b] := List.length_eq_one_iff.1 g1
    obtain ⟨b, hb⟩ := hs
    rw [hb] at g2 hq ⊢
    rw [getD1] at hq ⊢
    have e : [b] = (if decide ((c.bytes 1).1.e = 0 ∧ b.toNat = 1) then [1] else [0] : List UInt8) := by
      by_cases h1 : b.toNat = 1
      · rw [decide_eq_true ⟨h2', h1⟩]; exact congrArg (fun z => [z]) (UInt8.toNat_inj.1 h1)
      · rw [decide_eq_false (fun z => h1 z.2)]
        have h0 : b.toNat = 0 := by
          refine Classical.byContradiction fun hn => hq ⟨h2', by omega⟩
        exact congrArg (fun z => [z]) (UInt8.toNat_inj.1 h0)
    show Took c (c.bytes 1).1 (if decide _ then [1] else [0])
    rw [← e]; exact g2
theorem parts_to {f : Cu → Cu × V} {g : V → List UInt8} {six : Bool} : ∀ (pl : List V) (nl : List (List UInt8)) (c : Cu) (ns : List (List UInt8)) (ps : List V),
    (∀ p ∈ pl, ∀ c, c.at' ≤ c.s.length → Ahead c (g p) → Took c (f c).1 (g p) ∧ (f c).2 = p) → (∀ n ∈ nl, n.length ≤ 16) → (six = true → nl.length = pl.length) → (six = false → nl = []) → c.at' ≤ c.s.length → Ahead c (segL g nl pl) →
    Took c (partsF f six pl.length c ns ps).1 (segL g nl pl) ∧ (partsF f six pl.length c ns ps).2 = (ns ++ nl, ps ++ pl) := by
  intro pl
  induction pl with
  | nil =>
    intro nl c ns ps hf hn h6 h5 hc a
    have e : nl = [] := by cases six with
      | true => exact List.length_eq_zero_iff.1 (h6 rfl)
      | false => exact h5 rfl
    subst e
    show Took c (partsF f six 0 c ns ps).1 _ ∧ (partsF f six 0 c ns ps).2 = _
    rw [partsF_zero (.inl rfl)]
    exact ⟨Took.refl a.1, by simp⟩
  | cons p pl ih =>
    intro nl c ns ps hf hn h6 h5 hc a
    show Took c (partsF f six (pl.length + 1) c ns ps).1 _ ∧ (partsF f six (pl.length + 1) c ns ps).2 = _
    rw [partsF_step a.1]
    cases six with
    | true =>
      cases nl with
      | nil => exact absurd (h6 rfl) (by simp)
      | cons n nl =>
        have a' : Ahead c (txtL n ++ g p ++ segL g nl pl) := a
        have hnl := hn n (by simp)
        obtain ⟨t1, t2⟩ := text_to (most := 16) hc hnl (by omega) (a'.split).split
        have a2 : Ahead (c.text 16).1 (g p ++ segL g nl pl) := by rw [List.append_assoc] at a'; exact a'.next t1
        obtain ⟨t3, t4⟩ := hf p (by simp) _ (t1.at hc) a2.split
        have a3 := a2.next t3
        show Took c (partsF f true pl.length (f (c.text 16).1).1 (ns ++ [(c.text 16).2]) (ps ++ [(f (c.text 16).1).2])).1 (txtL n ++ g p ++ segL g nl pl) ∧ (partsF f true pl.length (f (c.text 16).1).1 (ns ++ [(c.text 16).2]) (ps ++ [(f (c.text 16).1).2])).2 = _
        rw [t2, t4]
        obtain ⟨g1, g2⟩ := ih nl (f (c.text 16).1).1 (ns ++ [n]) (ps ++ [p]) (fun q hq => hf q (by simp [hq])) (fun q hq => hn q (by simp [hq])) (fun _ => by have := h6 rfl; simpa using this) (fun z => by cases z) (t3.at (t1.at hc)) a3
        exact ⟨(t1.trans t3).trans g1, by rw [g2]; simp⟩
    | false =>
      have e := h5 rfl
      subst e
      have a' : Ahead c (g p ++ segL g [] pl) := a
      obtain ⟨t3, t4⟩ := hf p (by simp) c hc a'.split
      have a3 := a'.next t3
      show Took c (partsF f false pl.length (f c).1 ns (ps ++ [(f c).2])).1 (g p ++ segL g [] pl) ∧ (partsF f false pl.length (f c).1 ns (ps ++ [(f c).2])).2 = _
      rw [t4]
      obtain ⟨g1, g2⟩ := ih [] (f c).1 ns (ps ++ [p]) (fun q hq => hf q (by simp [hq])) (fun q hq => by cases hq) (fun z => by cases z) (fun _ => rfl) (t3.at hc) a3
      exact ⟨t3.trans g1, by rw [g2]; simp⟩
theorem parts_e {f : Cu → Cu × V} {six : Bool} {n : Nat} {c : Cu} {ns : List (List UInt8)} {ps : List V} (h : (partsF f six n c ns ps).1.e = 0) : c.e = 0 := by
  refine Classical.byContradiction fun hn => ?_
  rw [partsF_zero (.inr hn)] at h; exact hn h
theorem parts_of {f : Cu → Cu × V} {g : V → List UInt8} {six : Bool} (hf : ∀ c, c.e = 0 → (f c).1.e = 0 → Took c (f c).1 (g (f c).2)) (hf2 : ∀ c, ¬ c.e = 0 → ¬ (f c).1.e = 0) : ∀ (n : Nat) (c : Cu) (ns : List (List UInt8)) (ps : List V), (partsF f six n c ns ps).1.e = 0 →
    ∃ nl pl, (partsF f six n c ns ps).2 = (ns ++ nl, ps ++ pl) ∧ pl.length = n ∧ (six = true → nl.length = n) ∧ (six = false → nl = []) ∧ Took c (partsF f six n c ns ps).1 (segL g nl pl) := by
  intro n
  induction n with
  | zero => intro c ns ps h; rw [partsF_zero (.inl rfl)] at h ⊢; exact ⟨[], [], by simp, rfl, fun _ => rfl, fun _ => rfl, Took.refl h⟩
  | succ n ih =>
    intro c ns ps h
    have hc := parts_e h
    rw [partsF_step hc] at h ⊢
    obtain ⟨nl, pl, g1, g2, g3, g4, g5⟩ := ih _ _ _ h
    have h1 := parts_e h
    have h2 : (nameC six c).e = 0 := Classical.byContradiction fun hn => hf2 _ hn h1
    have h3 := hf _ h2 h1
    cases six with
    | true =>
      have t := (text_of hc h2).2
      exact ⟨(c.text 16).2 :: nl, (f (nameC true c)).2 :: pl, by rw [g1]; simp [nameN], by simp [g2], fun _ => by simp [g3], (fun z => by cases z), (t.trans h3).trans g5⟩
    | false =>
      have e := g4 rfl
      subst e
      exact ⟨[], (f (nameC false c)).2 :: pl, by rw [g1]; simp [nameN], by simp [g2], (fun z => by cases z), fun _ => rfl, h3.trans g5⟩
theorem seg_len {f : V → List UInt8} : ∀ {nl : List (List UInt8)} {pl : List V} {p : V}, p ∈ pl → (f p).length ≤ (segL f nl pl).length := by
  intro nl pl
  induction pl generalizing nl with
  | nil => intro p hp; cases hp
  | cons q pl ih =>
    intro p hp
    cases nl with
    | nil =>
      show _ ≤ (f q ++ segL f [] pl).length
      rcases List.mem_cons.1 hp with rfl | h
      · simp
      · have := ih (nl := []) h; simp; omega
    | cons n nl =>
      show _ ≤ (txtL n ++ f q ++ segL f nl pl).length
      rcases List.mem_cons.1 hp with rfl | h
      · simp; omega
      · have := ih (nl := nl) h; simp; omega
theorem bytes_pre {d : Nat} {v : V} (h : v.kind = 5 ∨ v.kind = 6) : bytesF (d + 1) v = [toB v.kind] ++ (uvL (BitVec.ofNat 64 v.parts.length) ++ segL (bytesF d) v.names v.parts) := by
  rw [← preB_seg]; unfold bytesF; rw [if_neg (by omega), if_neg (by omega), if_neg (by omega), if_pos h]
theorem bytes_head (d : Nat) (v : V) : ∃ r, bytesF (d + 1) v = [toB v.kind] ++ r := by
  by_cases h5 : v.kind = 5 ∨ v.kind = 6
  · exact ⟨_, bytes_pre h5⟩
  · unfold bytesF
    rw [if_neg h5]
    repeat' split
    all_goals first | exact ⟨_, rfl⟩ | exact ⟨[], (List.append_nil _).symm⟩
theorem names16 {d : Nat} {v : V} {deep : Int} (h : checkF (d + 1) v deep = 0) : ∀ n ∈ v.names, n.length ≤ 16 := by
  obtain ⟨_, _, _, _, _, hn, _⟩ := chk_ok h
  intro n hm
  obtain ⟨i, hi, rfl⟩ := List.getElem_of_mem hm
  have := ((namesP hn).1 i hi).1.2.2
  simpa [List.getD, hi] using this
theorem take_to : ∀ (d : Nat) (deep : Int) (v : V), deep + (d + 1 : Nat) = 10 → checkF (d + 1) v deep = 0 → Rg (d + 1) v → (bytesF (d + 1) v).length ≤ 1024 → ∀ c : Cu, c.at' ≤ c.s.length → Ahead c (bytesF (d + 1) v) → Took c (takeF (d + 1) deep c).1 (bytesF (d + 1) v) ∧ (takeF (d + 1) deep c).2 = v := by
  intro d
  induction d with
  | zero =>
    intro deep v hd hk
    have := (chk_ok hk).1
    omega
  | succ d ih =>
    intro deep v hd hk hr hl c hc a
    have hmany := names_many hk
    have h16 := names16 hk
    obtain ⟨h8, k0, k6, hb, h32, hn, hps⟩ := chk_ok hk
    obtain ⟨rest, hrest⟩ := bytes_head (d + 1) v
    have a0 := a
    rw [hrest] at a0
    obtain ⟨t1, t2⟩ := bytes_to hc a0.split
    have t1' : Took c (c.bytes 1).1 [toB v.kind] := t1
    have t2' : (c.bytes 1).2 = [toB v.kind] := t2
    have hc1 := t1'.at hc
    have a1 : Ahead (c.bytes 1).1 rest := a0.next t1'
    rw [takeF_k (by omega) t1'.2.1, t2', getD1]
    obtain ⟨k, hkk⟩ : ∃ k : Nat, v.kind = (k : Nat) := ⟨v.kind.toNat, by omega⟩
    have hkn : (toB v.kind).toNat = k := by rw [hkk]; exact toB_nat (by omega)
    rw [hkn]
    obtain ⟨vk, vb, vn, vs, vp, vm⟩ := v
    have hkk' : vk = (k : Nat) := hkk
    subst hkk'
    obtain ⟨b1, b2, b3, b4, b5⟩ := hb
    replace b1 : (k : Int) = 1 ∨ vb = false := b1
    replace b2 : (k : Int) = 2 ∨ vn = 0 := b2
    replace b3 : (k : Int) = 3 ∨ (k : Int) = 4 ∨ vs = [] := b3
    replace b4 : (k : Int) = 5 ∨ (k : Int) = 6 ∨ vp.length = 0 := b4
    replace b5 : (k : Int) = 6 ∨ vm.length = 0 := b5
    replace k6 : (k : Int) ≤ 6 := k6
    have e0 : bytesF (d + 2) (.mk (k : Nat) vb vn vs vp vm) = [toB (k : Nat)] ++ rest := hrest
    rw [e0]
    have hnm : ¬ ((k : Int) = 6) → vm = [] := fun h => List.length_eq_zero_iff.1 (b5.resolve_left h)
    have hpm : ¬ ((k : Int) = 5 ∨ (k : Int) = 6) → vp = [] := fun h => List.length_eq_zero_iff.1 ((b4.resolve_left (fun z => h (.inl z))).resolve_left (fun z => h (.inr z)))
    have hsm : ¬ ((k : Int) = 3 ∨ (k : Int) = 4) → vs = [] := fun h => (b3.resolve_left (fun z => h (.inl z))).resolve_left (fun z => h (.inr z))
    unfold takeK
    by_cases q0 : k = 0
    · subst q0
      rw [if_pos rfl]
      have hre : rest = [] := by
        have : bytesF (d + 2) (.mk (0 : Nat) vb vn vs vp vm) = [toB (0 : Nat)] := rfl
        rw [this] at e0; simpa using e0
      rw [hre, List.append_nil, hnm (by decide), hpm (by decide), hsm (by decide), b1.resolve_left (by decide), b2.resolve_left (by decide)]
      exact ⟨t1', rfl⟩
    · rw [if_neg q0]
      by_cases q1 : k = 1
      · subst q1
        rw [if_pos rfl]
        have hre : rest = if vb then [1] else [0] := by
          have : bytesF (d + 2) (.mk (1 : Nat) vb vn vs vp vm) = [toB (1 : Nat)] ++ (if vb then [1] else [0]) := rfl
          rw [this] at e0; exact (List.append_cancel_left e0).symm
        rw [hre] at a1 ⊢
        obtain ⟨g1, g2⟩ := bool_to hc1 a1
        refine ⟨t1'.trans g1, ?_⟩
        rw [g2, hnm (by decide), hpm (by decide), hsm (by decide), b2.resolve_left (by decide)]; rfl
      · rw [if_neg q1]
        by_cases q2 : k = 2
        · subst q2
          rw [if_pos rfl]
          have hre : rest = intL vn := by
            have : bytesF (d + 2) (.mk (2 : Nat) vb vn vs vp vm) = [toB (2 : Nat)] ++ intL vn := rfl
            rw [this] at e0; exact (List.append_cancel_left e0).symm
          have hz := intL_zz (n := vn) hr.1 hr.2.1
          rw [hre, hz] at a1 ⊢
          obtain ⟨g1, g2⟩ := uint_to (zz_lt hr.1 hr.2.1) a1
          refine ⟨t1'.trans g1, ?_⟩
          rw [g2, zig_zz, hnm (by decide), hpm (by decide), hsm (by decide), b1.resolve_left (by decide)]; rfl
        · rw [if_neg q2]
          by_cases q3 : k = 3 ∨ k = 4
          · rw [if_pos q3]
            have hre : rest = txtL vs := by
              have : bytesF (d + 2) (.mk (k : Nat) vb vn vs vp vm) = [toB (k : Nat)] ++ txtL vs := by
                unfold bytesF
                show (if (k : Int) = 1 then _ else if (k : Int) = 2 then _ else if (k : Int) = 3 ∨ (k : Int) = 4 then _ else _) = _
                rw [if_neg (by omega), if_neg (by omega), if_pos (by omega)]; rfl
              rw [this] at e0; exact (List.append_cancel_left e0).symm
            rw [hrest, hre, txt_eq] at hl
            simp only [List.length_append, List.length_cons, List.length_nil] at hl
            rw [hre] at a1 ⊢
            obtain ⟨g1, g2⟩ := text_to (most := 1024) hc1 (by omega) (by omega) a1
            refine ⟨t1'.trans g1, ?_⟩
            rw [g2, hnm (by omega), hpm (by omega), b1.resolve_left (by omega), b2.resolve_left (by omega)]
          · rw [if_neg q3]
            have q5 : k = 5 ∨ k = 6 := by omega
            rw [if_pos q5]
            have hre : rest = uvL (BitVec.ofNat 64 vp.length) ++ segL (bytesF (d + 1)) vm vp := by
              have : bytesF (d + 2) (.mk (k : Nat) vb vn vs vp vm) = _ := bytes_pre (by show (k : Int) = 5 ∨ (k : Int) = 6; omega)
              rw [this] at e0; exact (List.append_cancel_left e0).symm
            rw [hrest, hre] at hl
            simp only [List.length_append] at hl
            rw [hre] at a1 ⊢
            have h32' : vp.length ≤ 32 := h32
            obtain ⟨g1, g2⟩ := count_to (most := 32) h32' (by omega) a1.split
            have hb5 : ∀ p ∈ vp, (bytesF (d + 1) p).length ≤ 1024 := fun p hp => by have := seg_len (f := bytesF (d + 1)) (nl := vm) hp; omega
            obtain ⟨g3, g4⟩ := parts_to (f := takeF (d + 1) (deep + 1)) (g := bytesF (d + 1)) (six := decide (k = 6)) vp vm ((c.bytes 1).1.count 32).1 [] []
              (fun p hp c hc a => by
                obtain ⟨i, hi, rfl⟩ := List.getElem_of_mem hp
                exact ih (deep + 1) vp[i] (by omega) (hps i hi) (hr.2.2 _ hp) (hb5 _ hp) c hc a)
              h16 (fun z => hmany.1 (by have := of_decide_eq_true z; show (k : Int) = 6; omega)) (fun z => hnm (by have := of_decide_eq_false z; omega)) (g1.at hc1) (a1.next g1)
            rw [g2, g4]
            refine ⟨t1'.trans (g1.trans g3), ?_⟩
            rw [hsm (by omega), b1.resolve_left (by omega), b2.resolve_left (by omega)]; rfl
end VaL
end Go.Proofs.Ytcoiejmlpinpbaa
