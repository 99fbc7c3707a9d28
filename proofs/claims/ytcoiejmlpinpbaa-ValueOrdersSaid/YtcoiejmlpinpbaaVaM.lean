/-
  What reads was encoded so; the order is one; how deep is no matter.
-/
import Derived.Test.YtcoiejmlpinpbaaProg
import Derived.Test.YtcoiejmlpinpbaaSlj
import Derived.Test.YtcoiejmlpinpbaaVaL
namespace Go.Proofs.Ytcoiejmlpinpbaa
open Go.SL Go.RowKit
set_option linter.unusedVariables false
set_option linter.unusedSimpArgs false
set_option maxRecDepth 100000
open Ke5 Ke6 Ke7 Ke8 Ke9 KeA KeB KeE KeF KeG KeH VaA VaB VaC VaD VaK VaL
namespace VaM


theorem stop_bad {c : Cu} {x : Int} (hx : ¬ x = 0) : ¬ (c.stop x).e = 0 := by
  unfold Cu.stop; split
  · exact hx
  · assumption
theorem bytes_bad {c : Cu} {k : Nat} (h : ¬ c.e = 0) : ¬ (c.bytes k).1.e = 0 := by
  unfold Cu.bytes; rw [if_pos h]; exact h
theorem take_bad (d : Nat) (deep : Int) {c : Cu} (h : ¬ c.e = 0) : ¬ (takeF d deep c).1.e = 0 := by
  cases d with
  | zero => exact h
  | succ d =>
    unfold takeF
    split
    · exact stop_bad (by decide)
    · rw [if_pos (bytes_bad h)]; exact bytes_bad h
theorem take_of : ∀ (d : Nat) (deep : Int) (c : Cu), c.e = 0 → (takeF d deep c).1.e = 0 → Took c (takeF d deep c).1 (bytesF d (takeF d deep c).2) := by
  intro d
  induction d with
  | zero => intro deep c h _; exact Took.refl h
  | succ d ih =>
    intro deep c h h2
    by_cases h8 : 8 < deep
    · unfold takeF at h2; rw [if_pos h8] at h2; exact absurd h2 (stop_bad (by decide))
    · by_cases he : (c.bytes 1).1.e = 0
      · rw [takeF_k h8 he] at h2 ⊢
        obtain ⟨g1, t1⟩ := bytes_of h he
        obtain ⟨b, hb⟩ := List.length_eq_one_iff.1 g1
        rw [hb] at t1 h2 ⊢
        rw [getD1] at h2 ⊢
        have hk := u8_one (b := b) rfl
        generalize b.toNat = k at *
        subst hk
        unfold takeK at *
        by_cases q0 : k = 0
        · subst q0; rw [if_pos rfl] at h2 ⊢; exact t1
        · rw [if_neg q0] at h2 ⊢
          by_cases q1 : k = 1
          · subst q1
            rw [if_pos rfl] at h2 ⊢
            exact t1.trans (bool_of he h2)
          · rw [if_neg q1] at h2 ⊢
            by_cases q2 : k = 2
            · subst q2
              rw [if_pos rfl] at h2 ⊢
              obtain ⟨hn, t2⟩ := uint_of he h2 (fun x hx => udec_bad _ _ _ hx)
              have hz := intL_zz (zig_range hn).1 (zig_range hn).2
              rw [zz_zig] at hz
              show Took c _ ([toB (2 : Nat)] ++ intL (zig (c.bytes 1).1.uint.2))
              rw [hz]
              exact t1.trans t2
            · rw [if_neg q2] at h2 ⊢
              by_cases q3 : k = 3 ∨ k = 4
              · rw [if_pos q3] at h2 ⊢
                have e : bytesF (d + 1) (.mk (k : Nat) false 0 ((c.bytes 1).1.text 1024).2 [] []) = [toB (k : Nat)] ++ txtL ((c.bytes 1).1.text 1024).2 := by
                  unfold bytesF
                  show (if (k : Int) = 1 then _ else if (k : Int) = 2 then _ else if (k : Int) = 3 ∨ (k : Int) = 4 then _ else _) = _
                  rw [if_neg (by omega), if_neg (by omega), if_pos (by omega)]; rfl
                show Took c _ (bytesF (d + 1) (.mk (k : Nat) false 0 ((c.bytes 1).1.text 1024).2 [] []))
                rw [e]
                exact t1.trans (text_of he h2).2
              · rw [if_neg q3] at h2 ⊢
                by_cases q5 : k = 5 ∨ k = 6
                · rw [if_pos q5] at h2 ⊢
                  have h3 := parts_e h2
                  obtain ⟨m1, m2, m3⟩ := count_of he h3
                  obtain ⟨nl, pl, p1, p2, p3, p4, p5⟩ := parts_of (f := takeF d (deep + 1)) (g := bytesF d) (fun c hc hf => ih (deep + 1) c hc hf) (fun c hc => take_bad d _ hc) _ _ _ _ h2
                  rw [p1]
                  have e : bytesF (d + 1) (.mk (k : Nat) false 0 [] ([] ++ pl) ([] ++ nl)) = _ := bytes_pre (by show (k : Int) = 5 ∨ (k : Int) = 6; omega)
                  show Took c _ (bytesF (d + 1) (.mk (k : Nat) false 0 [] ([] ++ pl) ([] ++ nl)))
                  rw [e]
                  refine t1.trans ?_
                  show Took _ _ (uvL (BitVec.ofNat 64 pl.length) ++ segL (bytesF d) nl pl)
                  rw [p2]
                  exact m3.trans p5
                · rw [if_neg q5] at h2
                  exact absurd h2 (stop_bad (by decide))
      · unfold takeF at h2; rw [if_neg h8, if_pos he] at h2; exact absurd h2 he
theorem dec_of {s : List UInt8} (h : decE s = 0) : decV s = (takeF 9 1 ⟨s, 0, 0⟩).2 ∧ CheckF 9 (decV s) = 0 ∧ bytesF 9 (decV s) = s := by
  have hv : decV s = (takeF 9 1 ⟨s, 0, 0⟩).2 := by unfold decV; rw [if_pos h]
  rw [hv]
  unfold decE at h
  by_cases hf : (takeF 9 1 ⟨s, 0, 0⟩).1.fin.e = 0
  · rw [if_pos hf] at h
    refine ⟨rfl, h, ?_⟩
    unfold Cu.fin at hf
    by_cases hl : (takeF 9 1 ⟨s, 0, 0⟩).1.at' < (takeF 9 1 ⟨s, 0, 0⟩).1.s.length
    · rw [if_pos hl] at hf; exact absurd hf (stop_bad (by decide))
    · rw [if_neg hl] at hf
      obtain ⟨t1, t2, t3, t4, t5⟩ := take_of 9 1 ⟨s, 0, 0⟩ rfl hf
      rw [t3] at hl
      have t6 : s = bytesF 9 (takeF 9 1 ⟨s, 0, 0⟩).2 ++ s.drop (takeF 9 1 ⟨s, 0, 0⟩).1.at' := t5
      rw [List.drop_of_length_le (by exact Nat.le_of_not_lt hl), List.append_nil] at t6
      exact t6.symm
  · rw [if_neg hf] at h; exact absurd h hf
theorem dec_to {v : V} (h : CheckF 9 v = 0) (hr : Rg 9 v) : decE (bytesF 9 v) = 0 ∧ decV (bytesF 9 v) = v := by
  obtain ⟨h1, h2⟩ := CheckF_zero h
  obtain ⟨t1, t2⟩ := take_to 8 1 v rfl h1 hr h2 ⟨bytesF 9 v, 0, 0⟩ (Nat.zero_le _) ⟨rfl, [], by simp⟩
  have hfin : (takeF 9 1 ⟨bytesF 9 v, 0, 0⟩).1.fin = (takeF 9 1 ⟨bytesF 9 v, 0, 0⟩).1 := by
    unfold Cu.fin
    rw [if_neg]
    have e3 : (takeF 9 1 ⟨bytesF 9 v, 0, 0⟩).1.s = bytesF 9 v := t1.2.2.1
    have e4 : (takeF 9 1 ⟨bytesF 9 v, 0, 0⟩).1.at' = 0 + (bytesF 9 v).length := t1.2.2.2.1
    rw [e3, e4]; omega
  have he : decE (bytesF 9 v) = 0 := by
    unfold decE
    rw [hfin, if_pos t1.2.1]
    have : (takeF 9 1 ⟨bytesF 9 v, 0, 0⟩).2 = v := t2
    rw [this]; exact h
  exact ⟨he, by unfold decV; rw [if_pos he]; exact t2⟩
/-! ### how deep one looks -/
theorem Rg.down : ∀ {d : Nat} {v : V}, Rg (d + 1) v → Rg d v := by
  intro d
  induction d with
  | zero => intro v _; exact trivial
  | succ d ih => intro v h; exact ⟨h.1, h.2.1, fun p hp => ih (h.2.2 p hp)⟩
theorem checkF_up : ∀ (d : Nat) (deep : Int) (v : V), 10 ≤ deep + (d + 1 : Nat) → checkF (d + 2) v deep = checkF (d + 1) v deep := by
  intro d
  induction d with
  | zero => intro deep v h; rw [chk1 (by omega), chk1 (by omega)]
  | succ d ih =>
    intro deep v h
    have e : (v.parts.map fun p => checkF (d + 2) p (deep + 1)) = (v.parts.map fun p => checkF (d + 1) p (deep + 1)) := List.map_congr_left fun p _ => ih (deep + 1) p (by omega)
    conv => lhs; unfold checkF
    conv => rhs; unfold checkF
    rw [e]
theorem seg_congr {f g : V → List UInt8} : ∀ (pl : List V) (nl : List (List UInt8)), (∀ p ∈ pl, f p = g p) → segL f nl pl = segL g nl pl := by
  intro pl
  induction pl with
  | nil => intro nl _; cases nl <;> rfl
  | cons p pl ih =>
    intro nl h
    have h1 := h p (by simp)
    cases nl with
    | nil => show f p ++ segL f [] pl = g p ++ segL g [] pl; rw [h1, ih [] fun q hq => h q (by simp [hq])]
    | cons n nl => show txtL n ++ f p ++ segL f nl pl = txtL n ++ g p ++ segL g nl pl; rw [h1, ih nl fun q hq => h q (by simp [hq])]
theorem bytesF_up : ∀ (d : Nat) (deep : Int) (v : V), 10 ≤ deep + (d + 1 : Nat) → checkF (d + 1) v deep = 0 → bytesF (d + 2) v = bytesF (d + 1) v := by
  intro d
  induction d with
  | zero => intro deep v h hk; have := (chk_ok hk).1; omega
  | succ d ih =>
    intro deep v h hk
    by_cases h5 : v.kind = 5 ∨ v.kind = 6
    · rw [bytes_pre h5, bytes_pre h5]
      congr 2
      refine seg_congr _ _ fun p hp => ?_
      obtain ⟨i, hi, rfl⟩ := List.getElem_of_mem hp
      exact ih (deep + 1) _ (by omega) ((chk_ok hk).2.2.2.2.2.2 i hi)
    · conv => lhs; unfold bytesF
      conv => rhs; unfold bytesF
      rw [if_neg h5, if_neg h5]
theorem check11 (v : V) : checkF 11 v 1 = checkF 9 v 1 := (checkF_up 9 1 v (by decide)).trans (checkF_up 8 1 v (by decide))
theorem bytes11 {v : V} (h : checkF 9 v 1 = 0) : bytesF 11 v = bytesF 9 v := (bytesF_up 9 1 v (by decide) ((checkF_up 8 1 v (by decide)).trans h)).trans (bytesF_up 8 1 v (by decide) h)
theorem Check11 (v : V) : CheckF 11 v = CheckF 9 v := by
  unfold CheckF
  rw [check11]
  by_cases h : checkF 9 v 1 = 0
  · rw [if_pos h, if_pos h, bytes11 h]
  · rw [if_neg h, if_neg h]
/-! ### the order -/
theorem cmpF_refl (d : Nat) (v : V) : cmpF d v v = .eq := by
  have := cmpF_swap d v v
  cases h : cmpF d v v with
  | eq => rfl
  | lt => rw [h] at this; cases this
  | gt => rw [h] at this; cases this
/-- of three, in their order -/
def T3 (x y z : Ordering) : Prop := x ≠ .gt → y ≠ .gt → z = x.then y
theorem T3.then {x1 y1 z1 x2 y2 z2 : Ordering} (h1 : T3 x1 y1 z1) (h2 : x1 = .eq → y1 = .eq → T3 x2 y2 z2) : T3 (x1.then x2) (y1.then y2) (z1.then z2) := by
  intro hx hy
  cases x1 with
  | gt => exact absurd rfl hx
  | lt =>
    cases y1 with
    | gt => exact absurd rfl hy
    | lt => rw [h1 (by decide) (by decide)]; rfl
    | eq => rw [h1 (by decide) (by decide)]; rfl
  | eq =>
    have hx' : x2 ≠ .gt := hx
    cases y1 with
    | gt => exact absurd rfl hy
    | lt =>
      rw [h1 (by decide) (by decide)]
      show Ordering.lt = x2.then .lt
      cases x2 with
      | gt => exact absurd rfl hx'
      | lt => rfl
      | eq => rfl
    | eq => rw [h1 (by decide) (by decide)]; exact h2 rfl rfl hx' hy
theorem cmpI_iff {m n : Int} : (cmpI m n = .lt ↔ m < n) ∧ (cmpI m n = .eq ↔ m = n) ∧ (cmpI m n = .gt ↔ n < m) := by
  unfold cmpI
  split
  · exact ⟨by simp; omega, by simp; omega, by simp; omega⟩
  · split
    · exact ⟨by simp; omega, by simp; omega, by simp; omega⟩
    · exact ⟨by simp; omega, by simp; omega, by simp; omega⟩
theorem T3_I (m n k : Int) : T3 (cmpI m n) (cmpI n k) (cmpI m k) := by
  intro h1 h2
  have a := cmpI_iff (m := m) (n := n)
  have b := cmpI_iff (m := n) (n := k)
  have c := cmpI_iff (m := m) (n := k)
  cases ha : cmpI m n with
  | gt => exact absurd ha h1
  | lt =>
    have := a.1.1 ha
    cases hb : cmpI n k with
    | gt => exact absurd hb h2
    | lt => have := b.1.1 hb; exact c.1.2 (by omega)
    | eq => have := b.2.1.1 hb; exact c.1.2 (by omega)
  | eq =>
    have := a.2.1.1 ha
    subst this; rfl
theorem T3_B (m n k : Bool) : T3 (cmpB m n) (cmpB n k) (cmpB m k) := by cases m <;> cases n <;> cases k <;> simp [T3, cmpB]
theorem T3_L (m n k : List UInt8) : T3 (cmpL m n) (cmpL n k) (cmpL m k) := by
  intro h1 h2
  cases ha : cmpL m n with
  | gt => exact absurd ha h1
  | lt =>
    cases hb : cmpL n k with
    | gt => exact absurd hb h2
    | lt => exact cmpL_lt.2 (bless_trans (cmpL_lt.1 ha) (cmpL_lt.1 hb))
    | eq => have := cmpL_eq.1 hb; subst this; exact ha
  | eq => have := cmpL_eq.1 ha; subst this; rfl
theorem T3_lex {f g k : Nat → Ordering} (h : ∀ j, T3 (f j) (g j) (k j)) : ∀ a b c i, T3 (lexO f a b i) (lexO g b c i) (lexO k a c i) := by
  intro a
  induction a with
  | zero =>
    intro b c i
    cases b with
    | zero => intro _ _; cases c <;> rfl
    | succ b =>
      cases c with
      | zero => intro _ h2; exact absurd rfl h2
      | succ c => intro _ _; rfl
  | succ a ih =>
    intro b c i
    cases b with
    | zero => intro h1; exact absurd rfl h1
    | succ b =>
      cases c with
      | zero => intro _ h2; exact absurd rfl h2
      | succ c => exact (h i).then fun _ _ => ih b c (i + 1)
theorem T3_F : ∀ (d : Nat) (a b c : V), T3 (cmpF d a b) (cmpF d b c) (cmpF d a c) := by
  intro d
  induction d with
  | zero => intro a b c _ _; rfl
  | succ d ih =>
    intro a b c
    by_cases h1 : a.kind = b.kind
    · by_cases h2 : b.kind = c.kind
      · rw [cmpF_same h1, cmpF_same h2, cmpF_same (h1.trans h2), h1]
        by_cases k1 : b.kind = 1
        · rw [if_pos k1, if_pos k1, if_pos k1]; exact T3_B _ _ _
        · rw [if_neg k1, if_neg k1, if_neg k1]
          by_cases k2 : b.kind = 2
          · rw [if_pos k2, if_pos k2, if_pos k2]; exact T3_I _ _ _
          · rw [if_neg k2, if_neg k2, if_neg k2]
            by_cases k3 : b.kind = 3 ∨ b.kind = 4
            · rw [if_pos k3, if_pos k3, if_pos k3]; exact T3_L _ _ _
            · rw [if_neg k3, if_neg k3, if_neg k3]
              refine T3_lex (fun j => ?_) _ _ _ _
              unfold prtO
              rw [h1]
              refine T3.then ?_ fun _ _ => ih _ _ _
              by_cases k6 : b.kind = 6
              · rw [if_pos k6, if_pos k6, if_pos k6]; exact T3_L _ _ _
              · rw [if_neg k6, if_neg k6, if_neg k6]; intro _ _; rfl
      · rw [cmpF_diff h2, cmpF_diff (d := d) (a := a) (b := c) (fun e => h2 (h1.symm.trans e)), h1]
        intro hx hy
        have hb := cmpI_iff (m := b.kind) (n := c.kind)
        cases he : cmpI b.kind c.kind with
        | gt => exact absurd he hy
        | eq => exact absurd (hb.2.1.1 he) h2
        | lt => cases hq : cmpF (d + 1) a b with
          | gt => exact absurd hq hx
          | lt => rfl
          | eq => rfl
    · rw [cmpF_diff h1]
      intro hx hy
      have ha := cmpI_iff (m := a.kind) (n := b.kind)
      have hlt : a.kind < b.kind := by
        rcases Int.lt_trichotomy a.kind b.kind with z | z | z
        · exact z
        · exact absurd z h1
        · exact absurd (ha.2.2.2 z) hx
      rw [ha.1.2 hlt]
      show _ = Ordering.lt
      by_cases h2 : b.kind = c.kind
      · rw [cmpF_diff (d := d) (a := a) (b := c) (by omega)]; exact cmpI_iff.1.2 (by omega)
      · rw [cmpF_diff h2] at hy
        have hlt2 : b.kind < c.kind := by
          rcases Int.lt_trichotomy b.kind c.kind with z | z | z
          · exact z
          · exact absurd z h2
          · exact absurd (cmpI_iff.2.2.2 z) hy
        rw [cmpF_diff (d := d) (a := a) (b := c) (by omega)]; exact cmpI_iff.1.2 (by omega)
theorem lexO_eq {f : Nat → Ordering} : ∀ a b i, lexO f a b i = .eq → a = b ∧ ∀ j, i ≤ j → j < i + a → f j = .eq := by
  intro a
  induction a with
  | zero => intro b i h; cases b with
    | zero => exact ⟨rfl, fun j h1 h2 => absurd h2 (by omega)⟩
    | succ b => cases h
  | succ a ih => intro b i h; cases b with
    | zero => cases h
    | succ b =>
      have h' : (f i).then (lexO f a b (i + 1)) = .eq := h
      have h0 : f i = .eq := by cases hf : f i with
        | eq => rfl
        | lt => rw [hf] at h'; cases h'
        | gt => rw [hf] at h'; cases h'
      rw [h0] at h'
      obtain ⟨g1, g2⟩ := ih b (i + 1) h'
      refine ⟨by omega, fun j h1 h2 => ?_⟩
      by_cases e : j = i
      · subst e; exact h0
      · exact g2 j (by omega) (by omega)
theorem then_eq {x y : Ordering} (h : x.then y = .eq) : x = .eq ∧ y = .eq := by cases x <;> cases y <;> first | exact ⟨rfl, rfl⟩ | cases h
theorem cmpB_eq {a b : Bool} (h : cmpB a b = .eq) : a = b := by cases a <;> cases b <;> first | rfl | cases h
theorem cmpF_eq : ∀ (d : Nat) (deep : Int) (a b : V), 10 ≤ deep + (d + 1 : Nat) → checkF (d + 1) a deep = 0 → checkF (d + 1) b deep = 0 → cmpF (d + 1) a b = .eq → a = b := by
  intro d
  induction d with
  | zero => intro deep a b h hk; have := (chk_ok hk).1; omega
  | succ d ih =>
    intro deep a b h hka hkb he
    have ma := names_many hka
    have mb := names_many hkb
    obtain ⟨_, a0, a6, ab, _, _, ap⟩ := chk_ok hka
    obtain ⟨_, b0, b6, bb, _, _, bp⟩ := chk_ok hkb
    have hk : a.kind = b.kind := Classical.byContradiction fun hn => by rw [cmpF_diff hn] at he; exact hn (cmpI_iff.2.1.1 he)
    rw [cmpF_same hk] at he
    obtain ⟨ka, ba, na, sa, pa, ma'⟩ := a
    obtain ⟨kb, bb', nb, sb, pb, mb'⟩ := b
    have hk' : ka = kb := hk
    subst hk'
    replace ab : (ka = 1 ∨ ba = false) ∧ (ka = 2 ∨ na = 0) ∧ (ka = 3 ∨ ka = 4 ∨ sa = []) ∧ (ka = 5 ∨ ka = 6 ∨ pa.length = 0) ∧ (ka = 6 ∨ ma'.length = 0) := ab
    replace bb : (ka = 1 ∨ bb' = false) ∧ (ka = 2 ∨ nb = 0) ∧ (ka = 3 ∨ ka = 4 ∨ sb = []) ∧ (ka = 5 ∨ ka = 6 ∨ pb.length = 0) ∧ (ka = 6 ∨ mb'.length = 0) := bb
    replace ma : (ka = 6 → ma'.length = pa.length) ∧ (ka ≠ 6 → ma'.length = 0) := ma
    replace mb : (ka = 6 → mb'.length = pb.length) ∧ (ka ≠ 6 → mb'.length = 0) := mb
    replace a0 : 0 ≤ ka := a0
    replace a6 : ka ≤ 6 := a6
    replace he : (if ka = 1 then cmpB ba bb' else if ka = 2 then cmpI na nb else if ka = 3 ∨ ka = 4 then cmpL sa sb else lexO (prtO (cmpF (d + 1)) (.mk ka ba na sa pa ma') (.mk ka bb' nb sb pb mb')) pa.length pb.length 0) = .eq := he
    have e1 : ba = bb' := by
      by_cases q : ka = 1
      · rw [if_pos q] at he; exact cmpB_eq he
      · rw [ab.1.resolve_left q, bb.1.resolve_left q]
    have e2 : na = nb := by
      by_cases q : ka = 2
      · rw [if_neg (by omega), if_pos q] at he; exact cmpI_iff.2.1.1 he
      · rw [ab.2.1.resolve_left q, bb.2.1.resolve_left q]
    have e3 : sa = sb := by
      by_cases q : ka = 3 ∨ ka = 4
      · rw [if_neg (by omega), if_neg (by omega), if_pos q] at he; exact cmpL_eq.1 he
      · rw [(ab.2.2.1.resolve_left fun z => q (.inl z)).resolve_left fun z => q (.inr z), (bb.2.2.1.resolve_left fun z => q (.inl z)).resolve_left fun z => q (.inr z)]
    have e4 : pa = pb ∧ ma' = mb' := by
      by_cases q : ka = 5 ∨ ka = 6
      · rw [if_neg (by omega), if_neg (by omega), if_neg (by omega)] at he
        obtain ⟨g1, g2⟩ := lexO_eq _ _ _ he
        have g3 : pa = pb := by
          refine List.ext_getElem g1 fun i h1 h2 => ?_
          have := (then_eq (g2 i (by omega) (by omega))).2
          have h5 : cmpF (d + 1) (pa.getD i default) (pb.getD i default) = .eq := this
          rw [getDp h1, getDp h2] at h5
          exact ih (deep + 1) _ _ (by omega) (ap i h1) (bp i h2) h5
        refine ⟨g3, ?_⟩
        by_cases q6 : ka = 6
        · have l1 := ma.1 q6
          have l2 := mb.1 q6
          refine List.ext_getElem (by omega) fun i h1 h2 => ?_
          have := (then_eq (g2 i (by omega) (by omega))).1
          have h5 : (if ka = 6 then cmpL (ma'.getD i []) (mb'.getD i []) else .eq) = .eq := this
          rw [if_pos q6] at h5
          have h6 := cmpL_eq.1 h5
          simpa [List.getD, h1, h2] using h6
        · rw [List.length_eq_zero_iff.1 (ma.2 q6), List.length_eq_zero_iff.1 (mb.2 q6)]
      · have q6 : ¬ ka = 6 := fun z => q (.inr z)
        rw [List.length_eq_zero_iff.1 (ma.2 q6), List.length_eq_zero_iff.1 (mb.2 q6), List.length_eq_zero_iff.1 ((ab.2.2.2.1.resolve_left fun z => q (.inl z)).resolve_left q6), List.length_eq_zero_iff.1 ((bb.2.2.2.1.resolve_left fun z => q (.inl z)).resolve_left q6)]
        exact ⟨rfl, rfl⟩
    obtain ⟨rfl, rfl⟩ := e4
    subst e1 e2 e3
    rfl
end VaM
end Go.Proofs.Ytcoiejmlpinpbaa
