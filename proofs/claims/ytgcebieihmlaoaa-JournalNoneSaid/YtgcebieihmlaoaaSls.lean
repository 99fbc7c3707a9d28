/-
  What is owned is lent to one who only reads.
-/
import Derived.Test.YtgcebieihmlaoaaSlr
namespace Go.SL
open Go.RowKit
set_option linter.unusedVariables false
/-- Apart from each other. -/
def Frag.apart (k B : Frag) : Prop := ∀ b o, k b = some o → B b = Option.none
theorem Frag.un_right {B k : Frag} (h : k.apart B) {b : Nat} {o : Obj} (hb : k b = some o) : Frag.un B k b = some o := by
  simp [Frag.un, h b o hb, hb]
theorem Frag.le_un (B k : Frag) : B.le (Frag.un B k) := fun b o h => by simp [Frag.un, h]
theorem St.lend {N0 : Nat} {B : Frag} {p R : HP} {w : World} (h : St N0 B (p * R) w) :
    ∃ k : Frag, p k ∧ k.apart B ∧ St N0 (Frag.un B k) R w ∧ ∀ R' w', St N0 (Frag.un B k) R' w' → St N0 B (p * R') w' := by
  obtain ⟨hr, hz, f, hf, k, c, d, e, x, y⟩ := h
  have hk : ∀ b o, k b = some o → w.heap[b]? = some o ∧ B b = Option.none ∧ N0 ≤ b := fun b o hb => hf b o (by rw [e]; simp [Frag.un, hb])
  have hc : ∀ b o, c b = some o → k b = Option.none := fun b o hb => by
    rcases d b with z | z
    · exact z
    · rw [z] at hb; cases hb
  have hap : k.apart B := fun b o hb => (hk b o hb).2.1
  refine ⟨k, x, hap, ⟨fun b o hb => ?_, hz, c, fun b o hb => ?_, y⟩, fun R' w' s => ?_⟩
  · simp only [Frag.un] at hb
    cases hB : B b with
    | some u => rw [hB] at hb; simp at hb; subst hb; exact hr b u hB
    | none => rw [hB] at hb; simp at hb; exact (hk b o hb).1
  · have h1 := hf b o (by rw [e]; simp [Frag.un, hc b o hb, hb])
    exact ⟨h1.1, by simp [Frag.un, h1.2.1, hc b o hb], h1.2.2⟩
  · obtain ⟨hr', hz', f', hf', y'⟩ := s
    have hd : ∀ b o, f' b = some o → k b = Option.none := fun b o hb => by
      have := (hf' b o hb).2.1
      simp only [Frag.un, Option.or_eq_none_iff] at this
      exact this.2
    refine ⟨fun b o hb => hr' b o (Frag.le_un B k b o hb), hz', Frag.un k f', fun b o hb => ?_, k, f', fun b => ?_, rfl, x, y'⟩
    · simp only [Frag.un] at hb
      cases hkb : k b with
      | some u =>
        rw [hkb] at hb; simp at hb; subst hb
        exact ⟨hr' b u (Frag.un_right hap hkb), (hk b u hkb).2⟩
      | none =>
        rw [hkb] at hb; simp at hb
        obtain ⟨g1, g2, g3⟩ := hf' b o hb
        simp only [Frag.un, Option.or_eq_none_iff] at g2
        exact ⟨g1, g2.1, g3⟩
    · cases hfb : f' b with
      | none => exact .inr rfl
      | some u => exact .inl (hd b u hfb)
/-- A reader's contract, for what is owned. -/
theorem CtC.lend {P : Program} {f : FuncId} {args : List Value} {B : Frag} {p : HP} {v : Value} (he : ∀ args w, (callFunc f args).run P w = .ok (.enter f args) w)
    (h : ∀ k : Frag, p k → k.apart B → CtP P f args (Frag.un B k) v) : CtC P f args B p v p :=
  ⟨he, fun N0 w R s => by
    obtain ⟨k, hk, hap, s', back⟩ := s.lend
    refine ((h k hk hap).2 N0 w R s').mono ?_
    rintro x w' ⟨v', B', hx, ⟨rfl, rfl⟩, _, hb, s2⟩
    exact ⟨v', B, p, hx, ⟨rfl, rfl, rfl⟩, Frag.le_refl _, hb, back R w' s2⟩⟩
theorem Ct.lend {P : Program} {f : FuncId} {args : List Value} {B : Frag} {p q : HP} {Φ : Value → HP → Prop} (he : ∀ args w, (callFunc f args).run P w = .ok (.enter f args) w)
    (h : ∀ k : Frag, p k → k.apart B → Ct P f args (Frag.un B k) q (fun v B' H' => B' = Frag.un B k ∧ Φ v H')) : Ct P f args B (p * q) (fun v B' H' => B' = B ∧ ∃ H0, Φ v H0 ∧ H' = p * H0) :=
  ⟨he, fun N0 w R s => by
    obtain ⟨k, hk, hap, s', back⟩ := (s.of_eq (star_assoc _ _ _)).lend
    refine ((h k hk hap).2 N0 w R s').mono ?_
    rintro x w' ⟨v', B', H', hx, ⟨rfl, hΦ⟩, _, hb, s2⟩
    exact ⟨v', B, _, hx, ⟨rfl, H', hΦ, rfl⟩, Frag.le_refl _, hb, (back _ w' s2).of_eq (star_assoc _ _ _).symm⟩⟩
/-- A buffer, as what is only read. -/
theorem sbuf_ro {B k : Frag} {et : TypeId} {size n c : Nat} {A : Option Addr} {xs : List Value} (h : sbuf et size A n c xs k) (ha : k.apart B) : RoS (Frag.un B k) size A n xs ∧ n ≤ c := by
  rcases h with ⟨e1, e2, e3, e4, e5⟩ | ⟨b, sp, e1, e2, e3, e4, e5⟩
  · subst e1 e2 e3 e4; exact ⟨RoS.nil _ _, Nat.le_refl _⟩
  · subst e5
    refine ⟨⟨e2, .inr ⟨b, 0, xs ++ sp, et, (0, 0), e1, ?_, ?_⟩⟩, e3⟩
    · exact Frag.un_right ha (by simp [Frag.one])
    · rw [List.drop_zero, ← e2, List.take_left]
theorem RoS.cut {B : Frag} {size n b c j : Nat} {xs : List Value} (h : RoS B size (some ⟨b, 0, none⟩) n xs) (hj : j ≤ n) : RoS B size (some ⟨b, 0 + j * size, none⟩) (n - j) (xs.drop (j * size)) := by
  obtain ⟨h1, ⟨h2, _⟩ | ⟨b2, o, cs, et, fz, h3, h4, h5⟩⟩ := h
  · cases h2
  · injection h3 with h3
    injection h3 with g1 g2
    subst g1 g2
    have e : (n - j) * size = n * size - j * size := Nat.sub_mul _ _ _
    refine ⟨by rw [List.length_drop, h1, e], .inr ⟨b, 0 + j * size, cs, et, fz, rfl, h4, ?_⟩⟩
    rw [← h5, e, ← List.drop_drop, List.drop_take]
section
variable {e : Env} {ds : List Deferred} {K : Act → World → Prop} {ρ : Sl} {B : Frag} {H R : HP}
/-- Where a buffer that is not empty lies. -/
theorem Xx.addrT (A : Option Addr) {et : TypeId} {size n c : Nat} {xs : List Value} [hp : PickS H A et size n c xs R] (hn : 0 < n)
    (h : ∀ b, A = some ⟨b, 0, none⟩ → xs.length = n * size → n ≤ c → Xx e ds K ρ B H) : Xx e ds K ρ B H := fun a w f b s => by
  have s' := s.of_eq hp.eq
  rcases s'.cases_sbuf with ⟨_, h2, _⟩ | ⟨bb, sp, h1, h2, h3, _, _⟩
  · omega
  · exact h bb h1 h2 h3 a w f b s
/-- The length's fact of a buffer. -/
theorem Xx.factT (A : Option Addr) {et : TypeId} {size n c : Nat} {xs : List Value} [hp : PickS H A et size n c xs R]
    (h : xs.length = n * size → n ≤ c → Xx e ds K ρ B H) : Xx e ds K ρ B H := fun a w f b s => by
  have s' := s.of_eq hp.eq
  rcases s'.cases_sbuf with ⟨_, h2, h3, h4, _⟩ | ⟨bb, sp, h1, h2, h3, _, _⟩
  · exact h (by simp [h2, h4]) (by omega) a w f b s
  · exact h h2 h3 a w f b s
theorem Cells.buf {N0 b n c size m o : Nat} {xs vs : List Value} {et : TypeId} [hp : PickS H (some ⟨b, 0, none⟩) et size n c xs R] (hv : (xs.drop o).take m = vs) (hm : o + m ≤ xs.length) : Cells N0 B H b o vs := by
  intro w s j v hj
  have s' := s.of_eq hp.eq
  rcases s'.cases_sbuf with ⟨h1, _⟩ | ⟨bb, sp, h1, h2, h3, h4, s2⟩
  · cases h1
  · injection h1 with h1
    injection h1 with h1
    subst h1
    have hv2 : ((xs ++ sp).drop o).take m = vs := by rw [List.drop_append_of_le_length (by omega), List.take_append_of_le_length (by rw [List.length_drop]; omega)]; exact hv
    exact Cells.own (H := blk b (.cells (xs ++ sp).toArray et (0, 0)) * R) rfl hv2 w s2 j v hj
theorem pickSB (A : Option Addr) (b : Nat) {et : TypeId} {size n c : Nat} {xs : List Value} {R1 : HP} {o : Obj} [h1 : PickS H A et size n c xs R1] [h2 : PickB R1 b o R] : H = (sbuf et size A n c xs * blk b o) * R := by
  rw [PickS.eq (H := H) (A := A), h2.eq, star_assoc]
theorem pickS (A : Option Addr) {et : TypeId} {size n c : Nat} {xs : List Value} [h1 : PickS H A et size n c xs R] : H = sbuf et size A n c xs * R := h1.eq
/-- Fewer of a buffer. -/
theorem Xx.lessT (b m : Nat) {et : TypeId} {size n c : Nat} {xs : List Value} [hp : PickS H (some ⟨b, 0, none⟩) et size n c xs R] (hm : m ≤ n)
    (h : Xx e ds K ρ B (sbuf et size (some ⟨b, 0, none⟩) m c (xs.take (m * size)) * R)) : Xx e ds K ρ B H :=
  Xx.perm (fun a w f b' s => by
    rcases s.cases_sbuf with ⟨h1, _⟩ | ⟨bb, sp, h1, h2, h3, h4, s2⟩
    · cases h1
    · injection h1 with h1
      injection h1 with h1
      subst h1
      have hle : m * size ≤ n * size := Nat.mul_le_mul_right _ hm
      refine h a w f b' (St.of_sbuf (sp := xs.drop (m * size) ++ sp) (by rw [List.length_take]; omega) (by omega) (by rw [← List.append_assoc, List.take_append_drop]; exact h4) ?_)
      rw [← List.append_assoc, List.take_append_drop]; exact s2) hp.eq
end
end Go.SL
