/-
  The tree: what lies there, what it has.
-/
import Derived.Test.YtcoiejmlpinpbaaProg
import Derived.Test.YtcoiejmlpinpbaaSlj
import Derived.Test.YtcoiejmlpinpbaaBtB
namespace Go.Proofs.Ytcoiejmlpinpbaa
open Go.SL Go.RowKit
set_option linter.unusedVariables false
set_option linter.unusedSimpArgs false
set_option maxRecDepth 100000
open BtA BtB
namespace BtC


abbrev Str8 := List UInt8
/-- A node, and where its parts lie. -/
inductive C where
  | mk (b : Nat) (Ak : Option Addr) (ck : Nat) (Av : Option Addr) (cv : Nat) (Ac : Option Addr) (cc : Nat) (ks vs : List (List UInt8)) (cs : List C)
instance : Inhabited C := ⟨.mk 0 none 0 none 0 none 0 [] [] []⟩
def C.b : C → Nat | .mk b _ _ _ _ _ _ _ _ _ => b
def C.Ak : C → Option Addr | .mk _ a _ _ _ _ _ _ _ _ => a
def C.ck : C → Nat | .mk _ _ c _ _ _ _ _ _ _ => c
def C.Av : C → Option Addr | .mk _ _ _ a _ _ _ _ _ _ => a
def C.cv : C → Nat | .mk _ _ _ _ c _ _ _ _ _ => c
def C.Ac : C → Option Addr | .mk _ _ _ _ _ a _ _ _ _ => a
def C.cc : C → Nat | .mk _ _ _ _ _ _ c _ _ _ => c
def C.ks : C → List (List UInt8) | .mk _ _ _ _ _ _ _ k _ _ => k
def C.vs : C → List (List UInt8) | .mk _ _ _ _ _ _ _ _ v _ => v
def C.cs : C → List C | .mk _ _ _ _ _ _ _ _ _ c => c
def pt (c : C) : Value := .pointer (some ⟨c.b, 0, none⟩)
def ncells (c : C) : List Value := [.slice c.Ak c.ks.length c.ck, .slice c.Av c.vs.length c.cv, .slice c.Ac c.cs.length c.cc]
abbrev nrow (c : C) : HP := row c.b 70 (ncells c)
abbrev kbuf (c : C) : HP := sbuf 9 1 c.Ak c.ks.length c.ck (c.ks.map str)
abbrev vbuf (c : C) : HP := sbuf 9 1 c.Av c.vs.length c.cv (c.vs.map str)
abbrev cbuf (c : C) : HP := sbuf 67 1 c.Ac c.cs.length c.cc (c.cs.map pt)
def trs (f : C → HP) : List C → HP
  | [] => 1
  | c :: cs => f c * trs f cs
/-- A tree of one's own. -/
def tr : Nat → C → HP
  | 0, _ => 1
  | d + 1, c => nrow c * (kbuf c * (vbuf c * (cbuf c * trs (tr d) c.cs)))
/-- A tree that is only read. -/
def TrB (B : Frag) : Nat → C → Prop
  | 0, _ => False
  | d + 1, c => (∃ fz, B c.b = some (.cells (ncells c).toArray 70 fz)) ∧ RoE B c.Ak c.ks.length (c.ks.map str) ∧ RoE B c.Av c.vs.length (c.vs.map str) ∧ RoE B c.Ac c.cs.length (c.cs.map pt) ∧ ∀ p ∈ c.cs, TrB B d p
theorem TrB.mono {B B' : Frag} (hB : B.le B') : ∀ {d : Nat} {c : C}, TrB B d c → TrB B' d c := by
  intro d
  induction d with
  | zero => intro c h; exact h.elim
  | succ d ih =>
    rintro c ⟨⟨fz, h1⟩, h2, h3, h4, h5⟩
    exact ⟨⟨fz, hB _ _ h1⟩, h2.mono hB, h3.mono hB, h4.mono hB, fun p hp => ih (h5 p hp)⟩
/-- at most so high -/
def Fit : Nat → C → Prop
  | 0, _ => False
  | d + 1, c => ∀ p ∈ c.cs, Fit d p
theorem ap_left {k a c B : Frag} (h : k.apart B) (e : k = Frag.un a c) : a.apart B := fun b o hb => h b o (by rw [e]; simp [Frag.un, hb])
theorem ap_right {k a c B : Frag} (h : k.apart B) (e : k = Frag.un a c) (hd : Frag.disj a c) : c.apart B := fun b o hb => h b o (by
  rw [e]
  rcases hd b with z | z
  · simp [Frag.un, z, hb]
  · rw [z] at hb; cases hb)
theorem un_le {k a c B : Frag} (e : k = Frag.un a c) (hd : Frag.disj a c) : (Frag.un B a).le (Frag.un B k) ∧ (Frag.un B c).le (Frag.un B k) := by
  subst e
  constructor
  · intro b o h
    simp only [Frag.un] at h ⊢
    cases hB : B b with
    | some u => rw [hB] at h; simpa using h
    | none => rw [hB] at h; simp at h; simp [h]
  · intro b o h
    simp only [Frag.un] at h ⊢
    cases hB : B b with
    | some u => rw [hB] at h; simpa using h
    | none =>
      rw [hB] at h
      rcases hd b with z | z
      · simp [z] at h ⊢; exact h
      · rw [z] at h; simp at h
theorem row_ro {B k : Frag} {b : Nat} {et : TypeId} {cs : List Value} (h : row b et cs k) (ha : k.apart B) : Frag.un B k b = some (.cells cs.toArray et (0, 0)) := by
  have e : k = Frag.one b (.cells cs.toArray et (0, 0)) := h
  subst e
  exact Frag.un_right ha (by simp [Frag.one])
theorem trs_ro {B : Frag} {d : Nat} (ih : ∀ (c : C) (k : Frag), tr d c k → k.apart B → Fit d c → TrB (Frag.un B k) d c) : ∀ (cs : List C) (k : Frag), trs (tr d) cs k → k.apart B → (∀ p ∈ cs, Fit d p) → ∀ p ∈ cs, TrB (Frag.un B k) d p := by
  intro cs
  induction cs with
  | nil => intro k _ _ _ p hp; cases hp
  | cons c cs ihs =>
    rintro k ⟨k1, k2, hd, e, h1, h2⟩ ha hf p hp
    have hl := un_le (B := B) e hd
    rcases List.mem_cons.1 hp with rfl | hp
    · exact (ih p k1 h1 (ap_left ha e) (hf p (by simp))).mono hl.1
    · exact (ihs k2 h2 (ap_right ha e hd) (fun q hq => hf q (by simp [hq])) p hp).mono hl.2
theorem roe_of {B : Frag} {A : Option Addr} {n : Nat} {xs : List Value} (h : RoS B 1 A n xs) : RoE B A n xs := RoS.roe h
/-- A tree lent. -/
theorem tr_ro {B : Frag} : ∀ (d : Nat) (c : C) (k : Frag), tr d c k → k.apart B → Fit d c → TrB (Frag.un B k) d c := by
  intro d
  induction d with
  | zero => intro c k _ _ h; exact h.elim
  | succ d ih =>
    rintro c k ⟨k1, m1, d1, e1, h1, k2, m2, d2, e2, h2, k3, m3, d3, e3, h3, k4, m4, d4, e4, h4, h5⟩ ha hf
    have a1 := ap_right ha e1 d1
    have a2 := ap_right a1 e2 d2
    have a3 := ap_right a2 e3 d3
    have l1 := un_le (B := B) e1 d1
    have l2 := un_le (B := B) e2 d2
    have l3 := un_le (B := B) e3 d3
    have l4 := un_le (B := B) e4 d4
    refine ⟨⟨(0, 0), l1.1 _ _ (row_ro h1 (ap_left ha e1))⟩, ?_, ?_, ?_, fun p hp => ?_⟩
    · exact (roe_of (sbuf_ro h2 (ap_left a1 e2)).1).mono (Frag.le_trans l2.1 l1.2)
    · exact (roe_of (sbuf_ro h3 (ap_left a2 e3)).1).mono (Frag.le_trans l3.1 (Frag.le_trans l2.2 l1.2))
    · exact (roe_of (sbuf_ro h4 (ap_left a3 e4)).1).mono (Frag.le_trans l4.1 (Frag.le_trans l3.2 (Frag.le_trans l2.2 l1.2)))
    · exact (trs_ro (fun c k h1 h2 h3 => ih c k h1 h2 h3) c.cs m4 h5 (ap_right a3 e4 d4) hf p hp).mono (Frag.le_trans l4.2 (Frag.le_trans l3.2 (Frag.le_trans l2.2 l1.2)))
/-! ### one of the kids -/
theorem trs_at (f : C → HP) : ∀ (cs : List C) (i : Nat) (h : i < cs.length), trs f cs = f cs[i] * (trs f (cs.take i) * trs f (cs.drop (i + 1))) := by
  intro cs
  induction cs with
  | nil => intro i h; simp at h
  | cons c cs ih =>
    intro i h
    cases i with
    | zero => show f c * trs f cs = f c * (1 * trs f cs); rw [one_star]
    | succ i =>
      have h' : i < cs.length := by simpa using h
      show f c * trs f cs = f cs[i] * ((f c * trs f (cs.take i)) * trs f (cs.drop (i + 1)))
      rw [ih i h']
      ac_rfl
theorem trs_app (f : C → HP) : ∀ (a b : List C), trs f (a ++ b) = trs f a * trs f b := by
  intro a
  induction a with
  | nil => intro b; show trs f b = 1 * trs f b; rw [one_star]
  | cons c a ih => intro b; show f c * trs f (a ++ b) = (f c * trs f a) * trs f b; rw [ih, star_assoc]
/-! ### what it has -/
def ioL (f : C → List (Str8 × Str8)) : List Str8 → List Str8 → List C → List (Str8 × Str8)
  | k :: ks, v :: vs, c :: cs => f c ++ (k, v) :: ioL f ks vs cs
  | k :: ks, v :: vs, [] => (k, v) :: ioL f ks vs []
  | _, _, c :: _ => f c
  | _, _, [] => []
def io : Nat → C → List (Str8 × Str8)
  | 0, _ => []
  | d + 1, c => ioL (io d) c.ks c.vs c.cs
/-- a tree's shape: no node has more than seven keys -/
def Ok1 : Nat → C → Prop
  | 0, _ => False
  | d + 1, c => c.vs.length = c.ks.length ∧ c.ks.length ≤ 7 ∧ (c.cs = [] ∨ c.cs.length = c.ks.length + 1) ∧ ∀ p ∈ c.cs, Ok1 d p
/-- the same, the root having at most N (a key that is put again may bring a full root one more) -/
def Ok (N : Nat) : Nat → C → Prop
  | 0, _ => False
  | d + 1, c => c.vs.length = c.ks.length ∧ c.ks.length ≤ N ∧ (c.cs = [] ∨ c.cs.length = c.ks.length + 1) ∧ ∀ p ∈ c.cs, Ok1 d p
theorem Ok.fit {N : Nat} : ∀ {d : Nat} {c : C}, Ok N d c → Fit d c := by
  have h1 : ∀ {d : Nat} {c : C}, Ok1 d c → Fit d c := by
    intro d
    induction d with
    | zero => intro c h; exact h
    | succ d ih => intro c h p hp; exact ih (h.2.2.2 p hp)
  intro d c h
  cases d with
  | zero => exact h
  | succ d => exact fun p hp => h1 (h.2.2.2 p hp)
theorem Ok.of1 : ∀ {d : Nat} {c : C}, Ok1 d c → Ok 7 d c := by
  intro d c h
  cases d with
  | zero => exact h
  | succ d => exact h
theorem Ok.to1 : ∀ {d : Nat} {c : C}, Ok 7 d c → Ok1 d c := by
  intro d c h
  cases d with
  | zero => exact h
  | succ d => exact h
theorem Ok.le {N M : Nat} (hN : N ≤ M) : ∀ {d : Nat} {c : C}, Ok N d c → Ok M d c := by
  intro d c h
  cases d with
  | zero => exact h
  | succ d => exact ⟨h.1, Nat.le_trans h.2.1 hN, h.2.2⟩
/-- in order by key -/
def Ord (l : List (Str8 × Str8)) : Prop := l.Pairwise (fun a b => bless a.1 b.1 = true)
/-- one more, or another value -/
def insP (k v : Str8) : List (Str8 × Str8) → List (Str8 × Str8)
  | [] => [(k, v)]
  | p :: l => if bless p.1 k = true then p :: insP k v l else if p.1 = k then (k, v) :: l else (k, v) :: p :: l
theorem insP_lt {k v : Str8} {p : Str8 × Str8} {l : List (Str8 × Str8)} (h : bless p.1 k = true) : insP k v (p :: l) = p :: insP k v l := by
  conv => lhs; unfold insP
  rw [if_pos h]
theorem insP_below {k v : Str8} : ∀ {a l : List (Str8 × Str8)}, (∀ p ∈ a, bless p.1 k = true) → insP k v (a ++ l) = a ++ insP k v l := by
  intro a
  induction a with
  | nil => intro l _; rfl
  | cons p a ih =>
    intro l h
    show insP k v (p :: (a ++ l)) = p :: (a ++ insP k v l)
    rw [insP_lt (h p (by simp)), ih fun q hq => h q (by simp [hq])]
theorem insP_above {k v : Str8} {l : List (Str8 × Str8)} : ∀ {a : List (Str8 × Str8)}, (∀ p ∈ l, bless k p.1 = true) → insP k v (a ++ l) = insP k v a ++ l := by
  intro a
  induction a with
  | nil =>
    intro h
    cases l with
    | nil => rfl
    | cons p l =>
      have h1 := h p (by simp)
      show insP k v (p :: l) = (k, v) :: p :: l
      unfold insP
      rw [if_neg (by rw [bless_asymm h1]; decide), if_neg (fun e => by rw [e, bless_irrefl] at h1; cases h1)]
  | cons p a ih =>
    intro h
    show insP k v (p :: (a ++ l)) = _
    unfold insP
    by_cases h1 : bless p.1 k = true
    · rw [if_pos h1, if_pos h1, ih h]; rfl
    · rw [if_neg h1, if_neg h1]
      by_cases h2 : p.1 = k
      · rw [if_pos h2, if_pos h2]; rfl
      · rw [if_neg h2, if_neg h2]; rfl
theorem insP_at {k v w : Str8} {l : List (Str8 × Str8)} : insP k v ((k, w) :: l) = (k, v) :: l := by
  unfold insP
  rw [if_neg (by rw [bless_irrefl]; decide), if_pos rfl]
theorem insP_mem {k v : Str8} : ∀ {l : List (Str8 × Str8)} {p : Str8 × Str8}, p ∈ insP k v l → p = (k, v) ∨ p ∈ l := by
  intro l
  induction l with
  | nil => intro p h; simpa [insP] using h
  | cons q l ih =>
    intro p h
    unfold insP at h
    split at h
    · rcases List.mem_cons.1 h with rfl | h
      · exact .inr (by simp)
      · rcases ih h with z | z
        · exact .inl z
        · exact .inr (by simp [z])
    · split at h
      · rcases List.mem_cons.1 h with rfl | h
        · exact .inl rfl
        · exact .inr (by simp [h])
      · rcases List.mem_cons.1 h with rfl | h
        · exact .inl rfl
        · exact .inr h
theorem insP_ord {k v : Str8} : ∀ {l : List (Str8 × Str8)}, Ord l → Ord (insP k v l) := by
  intro l
  induction l with
  | nil => intro _; exact List.pairwise_singleton _ _
  | cons q l ih =>
    intro h
    obtain ⟨h1, h2⟩ := List.pairwise_cons.1 h
    unfold insP
    split
    · rename_i hb
      refine List.pairwise_cons.2 ⟨fun p hp => ?_, ih h2⟩
      rcases insP_mem hp with rfl | hp
      · exact hb
      · exact h1 p hp
    · rename_i hb
      split
      · rename_i he
        refine List.pairwise_cons.2 ⟨fun p hp => ?_, h2⟩
        have := h1 p hp
        rw [he] at this; exact this
      · rename_i he
        have hlt : bless k q.1 = true := by
          cases hc : bless k q.1 with
          | true => rfl
          | false => exact absurd (bless_total (by simpa using hb) hc) he
        refine List.pairwise_cons.2 ⟨fun p hp => ?_, h⟩
        rcases List.mem_cons.1 hp with rfl | hp
        · exact hlt
        · exact bless_trans hlt (h1 p hp)
end BtC
end Go.Proofs.Ytcoiejmlpinpbaa
