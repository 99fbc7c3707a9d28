/-
  A change is counted, or the power fails ahead of it; sectors that are touched.
-/
import Derived.Test.YtgcebieihmlaoaaProg
import Derived.Test.YtgcebieihmlaoaaSlj
import Derived.Test.YtgcebieihmlaoaaDkE
namespace Go.Proofs.Ytgcebieihmlaoaa
open Go.SL Go.RowKit
set_option linter.unusedVariables false
set_option linter.unusedSimpArgs false
set_option maxRecDepth 100000
open DkA DkB DkC DkD DkE
namespace DkF
theorem sz3 : (Try.prog.info? 3).map (·.size) = some 1 := by kernel_rfl
theorem sz5 : (Try.prog.info? 5).map (·.size) = some 1 := by kernel_rfl
theorem sz25 : (Try.prog.info? 25).map (·.size) = some 3 := by kernel_rfl
theorem sz54 : (Try.prog.info? 54).map (·.size) = some 1 := by kernel_rfl
theorem ti3 : TI Try.prog 3 [.int .i64 0] 1 8 := TI.of (by kernel_rfl) rfl rfl
theorem ti5 : TI Try.prog 5 [.int .u8 0] 1 1 := TI.of (by kernel_rfl) rfl rfl
theorem ti25 : TI Try.prog 25 [.int .i64 0, .int .u64 0, .int .i64 0] 3 24 := TI.of (by kernel_rfl) rfl rfl
theorem fo25_0 : FO Try.prog 25 0 0 1 false := FO.of Try.underlying25 rfl rfl (by kernel_rfl) Try.underlying3 rfl rfl
theorem fo25_1 : FO Try.prog 25 1 1 1 false := FO.of Try.underlying25 rfl rfl (by kernel_rfl) Try.underlying23 rfl rfl
theorem fo25_2 : FO Try.prog 25 2 2 1 false := FO.of Try.underlying25 rfl rfl (by kernel_rfl) Try.underlying3 rfl rfl
theorem fo97_2 : FO Try.prog 97 2 2 1 false := FO.of Try.underlying97 rfl rfl (by kernel_rfl) Try.underlying4 rfl rfl
theorem fo97_3 : FO Try.prog 97 3 3 1 false := FO.of Try.underlying97 rfl rfl (by kernel_rfl) Try.underlying54 rfl rfl
theorem fo97_4 : FO Try.prog 97 4 4 1 false := FO.of Try.underlying97 rfl rfl (by kernel_rfl) Try.underlying3 rfl rfl

theorem flatG_at {α : Type} {enc : α → List Value} {size : Nat} (he : ∀ x, (enc x).length = size) : ∀ (k : Nat) (l : List α) (h : k < l.length), ((l.flatMap enc).drop (k * size)).take size = enc l[k] := by
  intro k
  induction k with
  | zero =>
    intro l h
    cases l with
    | nil => simp at h
    | cons x l =>
      rw [Nat.zero_mul, List.drop_zero, List.flatMap_cons, List.take_append_of_le_length (by rw [he]; exact Nat.le_refl _), List.take_of_length_le (by rw [he]; exact Nat.le_refl _)]; rfl
  | succ k ih =>
    intro l h
    cases l with
    | nil => simp at h
    | cons x l =>
      have h' : k < l.length := by simpa using h
      rw [List.flatMap_cons, List.drop_append, he, List.drop_of_length_le (by rw [he, Nat.succ_mul]; omega), List.nil_append, show (k + 1) * size - size = k * size by rw [Nat.succ_mul]; omega]
      exact ih l h'
theorem flatG_len {α : Type} {enc : α → List Value} {size : Nat} (he : ∀ x, (enc x).length = size) (l : List α) : (l.flatMap enc).length = l.length * size := by
  induction l with
  | nil => simp
  | cons x l ih => rw [List.flatMap_cons, List.length_append, ih, he, List.length_cons, Nat.succ_mul]; omega
theorem flat_at {α : Type} {enc : α → List Value} {size : Nat} {B : Frag} {A : Option Addr} {l : List α} {k : Nat} (he : ∀ x, (enc x).length = size) (h : RoS B size A l.length (l.flatMap enc)) (hk : k < l.length) :
    ∃ b o cs et fz, A = some ⟨b, o, none⟩ ∧ B b = some (.cells (List.toArray cs) et fz) ∧ (cs.drop (o + k * size)).take size = enc l[k] := by
  obtain ⟨b, o, cs, et, fz, h1, h2, h3⟩ := h.at (k := k) hk
  exact ⟨b, o, cs, et, fz, h1, h2, by rw [h3, flatG_at he]⟩
/-- the first place where p holds; -1: there is none -/
def ixF {α : Type} (p : α → Bool) (l : List α) : Int := if l.any p = true then ((l.findIdx p : Nat) : Int) else -1
theorem ixF_at {α : Type} {p : α → Bool} {l : List α} {i : Nat} (h : i < l.length) (hp : p l[i] = true) (hall : ∀ k (hk : k < i), p (l[k]'(by omega)) = false) : ixF p l = i := by
  unfold ixF
  rw [if_pos (List.any_eq_true.2 ⟨l[i], List.getElem_mem h, hp⟩)]
  congr 1
  exact (List.findIdx_eq h).2 ⟨hp, hall⟩
theorem ixF_no {α : Type} {p : α → Bool} {l : List α} (hall : ∀ k (hk : k < l.length), p l[k] = false) : ixF p l = -1 := by
  unfold ixF
  rw [if_neg]
  intro h
  obtain ⟨x, hx, hp⟩ := List.any_eq_true.1 h
  obtain ⟨k, hk, rfl⟩ := List.getElem_of_mem hx
  rw [hall k hk] at hp; cases hp
theorem ixF_ge {α : Type} (p : α → Bool) (l : List α) : decide (0 ≤ ixF p l) = l.any p := by
  unfold ixF
  by_cases h : l.any p = true
  · rw [if_pos h, h]; exact decide_eq_true (by omega)
  · rw [if_neg h, Bool.eq_false_iff.2 h]; exact decide_eq_false (by omega)

set_option maxHeartbeats 1000000 in
theorem IFs_ct (l : List Sk) (p : Sk → Bool) (A : Option Addr) (c : Nat) (fi : FuncId) (caps : List Value) (own : HP) (B : Frag) (hR : RoS B 3 A l.length (l.flatMap scs)) (hn : l.length ≤ 1000000) (hf : ∀ x ∈ l, CtC Try.prog fi (.agg (scs x).toArray :: caps) B own (.bool (p x)) own) : CtC Try.prog 75 [.slice A l.length c, .func (.func fi) #[] caps.toArray] B own (i64 (ixF p l)) own := by
  refine Ct.of_body Try.func75 rfl (nt := 19) rfl (by kernel_rfl) rfl ?_
  intro N0 w0 R
  refine Cx.seq (fun K1 k1 => ?_)
  refine Cx.region ?_
  refine Lx.y (asg rfl) rfl ?_
  refine Lx.nil ?_
  refine Xx.tn (k1 _ _ _ _ ?_)
  refine Cx.seq (fun K2 k2 => ?_)
  refine Cx.seq (fun K3 k3 => ?_)
  refine Cx.region ?_
  refine Lx.y (mv rfl) rfl ?_
  refine Lx.y (lenV (ty' := 0) Try.underlying54 rfl) rfl ?_
  refine Lx.y (mv rfl) rfl ?_
  refine Lx.nil ?_
  refine Xx.tn (k3 _ _ _ _ ?_)
  refine Cx.block ?_
  refine Cx.loopK (Sub.cons (s := 0) rfl (Sub.cons (s := 1) rfl (Sub.cons (s := 6) rfl (Sub.cons (s := 7) rfl (Sub.nil _))))) (fun m ρ' B' H' => ∃ (i : Nat), (i ≤ l.length ∧ ∀ k (hk : k < l.length), k < i → p l[k] = false) ∧ m = l.length - i ∧ ρ' = [(8, i64 i)] ∧ B = B' ∧ own * R = H') ⟨0, ⟨Nat.zero_le _, fun k _ h => absurd h (by omega)⟩, rfl, rfl, rfl, rfl⟩ (Sub.cons (s := 8) rfl (Sub.cons (s := 0) rfl (Sub.cons (s := 1) rfl (Sub.cons (s := 6) rfl (Sub.cons (s := 7) rfl (Sub.nil _)))))) ?_
  rintro m ρ' B' H' ⟨i, ⟨hi, hall⟩, rfl, rfl, rfl, rfl⟩
  refine Cx.seq (fun K4 k4 => ?_)
  refine Cx.region ?_
  refine Lx.y (lss rfl rfl) rfl ?_
  refine Lx.nil ?_
  refine Xx.tn (k4 _ _ _ _ ?_)
  refine Cx.seq (fun K5 k5 => ?_)
  refine Cx.condD rfl (fun h6 => ?_) (fun h6 => ?_)
  · skip
    have hlt := h6
    have hlt : i < l.length := by omega
    obtain ⟨b0, o0, cs0, et0, fz0, rfl, hB0, hc0⟩ := flat_at (fun x => (show (scs x).length = 3 from rfl)) hR hlt
    refine Cx.skip ?_
    refine Xx.tn (k5 _ _ _ _ ?_)
    refine Cx.seq (fun K7 k7 => ?_)
    refine Cx.block ?_
    refine Cx.seq (fun K8 k8 => ?_)
    refine Cx.region ?_
    refine Lx.y (mv rfl) rfl ?_
    refine Lx.y (asg rfl) rfl ?_
    refine Lx.nil ?_
    refine Xx.tn (k8 _ _ _ _ ?_)
    refine Cx.seq (fun K9 k9 => ?_)
    refine Cx.region ?_
    refine Lx.y (mv rfl) rfl ?_
    refine Lx.y (mv rfl) rfl ?_
    refine Lx.y (mv rfl) rfl ?_
    refine Lx.y (ia Try.underlying54 sz25 rfl rfl (by first | exact Int.toNat_natCast _ | rfl) (by omega) (by omega)) rfl ?_
    refine Lx.y (ldA Try.underlying25 rfl sz25 rfl (Cells.base (n := 3) hB0 hc0) rfl) rfl ?_
    refine Lx.co rfl rfl rfl (hf _ (List.getElem_mem hlt)) (rfl) rfl ?_
    refine Lx.nil ?_
    refine Xx.tn (k9 _ _ _ _ ?_)
    refine Cx.condB rfl (fun h10 => ?_) (fun h10 => ?_)
    · skip
      have hp := h10
      refine Cx.seq (fun K11 k11 => ?_)
      refine Cx.region ?_
      refine Lx.y (mv rfl) rfl ?_
      refine Lx.y (asg rfl) rfl ?_
      refine Lx.nil ?_
      refine Xx.tn (k11 _ _ _ _ ?_)
      refine Cx.ret ?_
      refine Xx.br ?_
      refine Xx.tr ?_
      refine Xx.tr ?_
      refine Xx.br ?_
      refine Xx.tr ?_
      exact Xx.ret1 rfl rfl ⟨by rw [ixF_at hlt hp (fun k hk => hall k (by omega) hk)], rfl, rfl⟩ (Frag.le_refl _) rfl
    · skip
      have hp := h10
      refine Cx.skip ?_
      refine Xx.bn ?_
      refine Xx.tn (k7 _ _ _ _ ?_)
      refine Cx.region ?_
      refine Lx.y (Yx.val (add rfl rfl (by first | exact wrap64 (by omega) (by omega) | rfl)) (show _ = i64 ((i + 1 : Nat) : Int) from rfl)) rfl ?_
      refine Lx.y (mv rfl) rfl ?_
      refine Lx.nil ?_
      exact Xx.againK ⟨i + 1, ⟨by omega, fun k hk hki => by
  by_cases e : k = i
  · subst e; exact hp
  · exact hall k hk (by omega)⟩, rfl, rfl, rfl, rfl⟩ (by omega) (Sub.cons (s := 8) rfl (Sub.cons (s := 0) rfl (Sub.cons (s := 1) rfl (Sub.cons (s := 6) rfl (Sub.cons (s := 7) rfl (Sub.nil _))))))
  · skip
    have hge := h6
    refine Cx.exit ?_
    refine Xx.te ?_
    refine Xx.te ?_
    refine Xx.bh ?_
    refine Xx.tn (k2 _ _ _ _ ?_)
    refine Cx.seq (fun K12 k12 => ?_)
    refine Cx.region ?_
    refine Lx.y (asg rfl) rfl ?_
    refine Lx.nil ?_
    refine Xx.tn (k12 _ _ _ _ ?_)
    refine Cx.ret ?_
    exact Xx.ret1 rfl rfl ⟨by rw [ixF_no (fun k hk => hall k hk (by omega))], rfl, rfl⟩ (Frag.le_refl _) rfl

theorem IFs_own (l : List Sk) (p : Sk → Bool) (A : Option Addr) (c : Nat) (fi : FuncId) (caps : List Value) (own : HP) (B : Frag) (hn : l.length ≤ 1000000) (hf : ∀ (B : Frag) x, x ∈ l → CtC Try.prog fi (.agg (scs x).toArray :: caps) B own (.bool (p x)) own) : CtC Try.prog 75 [.slice A l.length c, .func (.func fi) #[] caps.toArray] B (sbuf 25 3 A l.length c (l.flatMap scs) * own) (i64 (ixF p l)) (sbuf 25 3 A l.length c (l.flatMap scs) * own) := by
  have h := Ct.lend (p := sbuf 25 3 A l.length c (l.flatMap scs)) (q := own) (B := B) (args := [.slice A l.length c, .func (.func fi) #[] caps.toArray]) (Φ := fun v H0 => v = i64 (ixF p l) ∧ H0 = own) (Go.SL.enters_of Try.func75 rfl (by kernel_rfl)) (fun k hk ha => Ct.mono (IFs_ct l p A c fi caps own _ (sbuf_ro hk ha).1 hn (fun x hx => hf _ x hx)) fun v B' H' ⟨e1, e2, e3⟩ => ⟨e2, e1, e3⟩)
  refine Ct.mono h ?_
  rintro v B' H' ⟨e1, H0, ⟨e2, e3⟩, e4⟩
  exact ⟨e2, e1, by rw [e4, e3]⟩

set_option maxHeartbeats 1000000 in
theorem strk_ct (x : Sk) (b1 db : Nat) (cs : List Value) (ch : Nat) (B : Frag) (hc : cs[4]? = some (i64 ((ch : Nat) : Int))) : CtC Try.prog 76 [.agg (scs x).toArray, .pointer (some ⟨b1, 0, none⟩)] B (row b1 26 [.pointer (some ⟨db, 0, none⟩)] * row db 97 cs) (.bool (decide (x.at_ = (ch : Int)))) (row b1 26 [.pointer (some ⟨db, 0, none⟩)] * row db 97 cs) := by
  refine Ct.of_body Try.func76 rfl (nt := 11) rfl (by kernel_rfl) rfl ?_
  intro N0 w0 R
  simp only [star_assoc]
  refine Cx.seq (fun K1 k1 => ?_)
  refine Cx.region ?_
  refine Lx.new (boxA rfl) rfl (fun b2 => ?_)
  refine Lx.y (asg rfl) rfl ?_
  refine Lx.nil ?_
  refine Xx.tn (k1 _ _ _ _ ?_)
  refine Cx.seq (fun K2 k2 => ?_)
  refine Cx.drawn (by kernel_rfl) ?_
  refine Dx.p (i := 0) rfl (by kernel_rfl) (fa' fo25_0 rfl) rfl ?_
  refine Dx.r (i := 1) rfl (by kernel_rfl) (ld Try.underlying3 rfl rfl rfl) rfl ?_
  refine Dx.r (i := 2) rfl (by kernel_rfl) (ld Try.underlying26 rfl rfl rfl) rfl ?_
  refine Dx.p (i := 3) rfl (by kernel_rfl) (nilc rfl) rfl ?_
  refine Dx.p (i := 4) rfl (by kernel_rfl) (fa' fo97_4 rfl) rfl ?_
  refine Dx.r (i := 5) rfl (by kernel_rfl) (ld Try.underlying3 rfl rfl hc) rfl ?_
  refine Dx.p (i := 6) rfl (by kernel_rfl) (eqI rfl rfl) rfl ?_
  refine Dx.p (i := 7) rfl (by kernel_rfl) (asg rfl) rfl ?_
  refine Dx.done (by kernel_rfl) ?_
  refine Xx.tn (k2 _ _ _ _ ?_)
  refine Cx.ret ?_
  exact Xx.dropB b2 (Xx.ret1 rfl rfl ⟨rfl, rfl, rfl⟩ (Frag.le_refl _) (by ac_rfl))

def pAt (ch : Nat) (x : Sk) : Bool := decide (x.at_ = (ch : Int))
/-- A change: counted, or the power fails ahead of it. -/
def strikesD (D : Dm) : Dm × Bool := if D.dead = true then (D, true) else match D.plan[D.plan.findIdx (pAt D.ch)]? with
  | none => ({ D with ch := D.ch + 1 }, false)
  | some x => (crashD { D with plan := D.plan.eraseIdx (D.plan.findIdx (pAt D.ch)) } x.mask x.torn, true)
theorem ix_neg {α : Type} {p : α → Bool} {l : List α} (h : ixF p l < 0) : l[l.findIdx p]? = none := by
  unfold ixF at h
  by_cases ha : l.any p = true
  · rw [if_pos ha] at h; omega
  · rw [List.findIdx_eq_length.2 (fun x hx => by
      cases hp : p x with
      | false => rfl
      | true => exact absurd (List.any_eq_true.2 ⟨x, hx, hp⟩) ha)]
    simp
theorem ix_some {α : Type} {p : α → Bool} {l : List α} (h : ¬ ixF p l < 0) : ∃ i, ∃ h : i < l.length, ixF p l = (i : Nat) ∧ l.findIdx p = i := by
  unfold ixF at h ⊢
  by_cases ha : l.any p = true
  · rw [if_pos ha]
    obtain ⟨x, hx, hp⟩ := List.any_eq_true.1 ha
    exact ⟨_, List.findIdx_lt_length_of_exists ⟨x, hx, hp⟩, rfl, rfl⟩
  · rw [if_neg ha] at h; exact absurd h (by decide)
theorem flat_take {α : Type} {enc : α → List Value} {size : Nat} (he : ∀ x, (enc x).length = size) : ∀ (l : List α) (i : Nat), (l.take i).flatMap enc = (l.flatMap enc).take (i * size) := by
  intro l
  induction l with
  | nil => intro i; simp
  | cons x l ih =>
    intro i
    cases i with
    | zero => simp
    | succ i =>
      have h1 : (enc x).take ((i + 1) * size) = enc x := List.take_of_length_le (by rw [he, Nat.succ_mul]; omega)
      rw [List.take_succ_cons, List.flatMap_cons, List.flatMap_cons, ih, List.take_append, h1, he, show (i + 1) * size - size = i * size by rw [Nat.succ_mul]; omega]
theorem flat_drop {α : Type} {enc : α → List Value} {size : Nat} (he : ∀ x, (enc x).length = size) : ∀ (l : List α) (i : Nat), (l.drop i).flatMap enc = (l.flatMap enc).drop (i * size) := by
  intro l
  induction l with
  | nil => intro i; simp
  | cons x l ih =>
    intro i
    cases i with
    | zero => simp
    | succ i =>
      have h1 : (enc x).drop ((i + 1) * size) = [] := List.drop_of_length_le (by rw [he, Nat.succ_mul]; omega)
      rw [List.drop_succ_cons, List.flatMap_cons, ih, List.drop_append, h1, he, List.nil_append, show (i + 1) * size - size = i * size by rw [Nat.succ_mul]; omega]
theorem scs_len (x : Sk) : (scs x).length = 3 := rfl
theorem plan_del (l : List Sk) (i : Nat) : (l.flatMap scs).take (i * 3) ++ (l.flatMap scs).drop ((i + 1) * 3) = (l.eraseIdx i).flatMap scs := by
  rw [List.eraseIdx_eq_take_drop_succ, List.flatMap_append, flat_take scs_len, flat_drop scs_len]
theorem plan_all (l : List Sk) : (l.flatMap scs).all (·.oneCell') = true := by
  rw [List.all_eq_true]; intro v hv
  obtain ⟨x, _, hx⟩ := List.mem_flatMap.1 hv
  exact List.all_eq_true.1 (show (scs x).all (·.oneCell') = true from rfl) v hx
theorem fit_plan {D : Dm} (h : D.Fit) {l : List Sk} (hl : l.length ≤ D.plan.length) : Dm.Fit { D with plan := l } := ⟨h.nd, h.rise, h.lim, h.len, h.now, h.sure, h.room, h.ch, Nat.le_trans hl h.plan⟩

set_option maxHeartbeats 4000000 in
theorem strikes_ct (d : Dk) (db : Nat) (B : Frag) (hF : d.abs.Fit) : Ct Try.prog 48 [.pointer (some ⟨db, 0, none⟩)] B (dkH db d) (fun v B' H' => (v = .bool false ∧ strikesD d.abs = ({ d.abs with ch := d.ch + 1 }, false) ∧ H' = dkH db { d with ch := d.ch + 1 }) ∨ (v = .bool true ∧ (strikesD d.abs).2 = true ∧ ∃ d' : Dk, d'.abs = (strikesD d.abs).1 ∧ H' = dkH db d')) := by
  have hpl : d.plan.length ≤ 1000000 := hF.plan
  have hch : d.ch ≤ 1152921504606846976 := hF.ch
  refine Ct.of_body Try.func48 rfl (nt := 52) rfl (by kernel_rfl) rfl ?_
  intro N0 w0 R
  unfold dkH
  simp only [star_assoc]
  refine Cx.seq (fun K1 k1 => ?_)
  refine Cx.region ?_
  refine Lx.new (boxO rfl rfl) rfl (fun b1 => ?_)
  refine Lx.y (asg rfl) rfl ?_
  refine Lx.nil ?_
  refine Xx.tn (k1 _ _ _ _ ?_)
  refine Cx.seq (fun K2 k2 => ?_)
  refine Cx.seq (fun K3 k3 => ?_)
  refine Cx.region ?_
  refine Lx.y (ld Try.underlying26 rfl rfl rfl) rfl ?_
  refine Lx.y (Yx.ff (eqNilP Try.underlying26 rfl rfl) rfl) rfl ?_
  refine Lx.y (mv rfl) rfl ?_
  refine Lx.gT rfl rfl rfl ?_
  refine Lx.y (ld Try.underlying26 rfl rfl rfl) rfl ?_
  refine Lx.gT rfl rfl rfl ?_
  refine Lx.y (nilc rfl) rfl ?_
  refine Lx.gT rfl rfl rfl ?_
  refine Lx.y (fa' fo97_2 rfl) rfl ?_
  refine Lx.gT rfl rfl rfl ?_
  refine Lx.y (ld Try.underlying4 rfl rfl rfl) rfl ?_
  refine Lx.y (pickF rfl rfl) rfl ?_
  refine Lx.nil ?_
  refine Xx.tn (k3 _ _ _ _ ?_)
  refine Cx.condB rfl (fun h4 => ?_) (fun h4 => ?_)
  · skip
    have hd := h4
    refine Cx.seq (fun K5 k5 => ?_)
    refine Cx.region ?_
    refine Lx.y (asg rfl) rfl ?_
    refine Lx.nil ?_
    refine Xx.tn (k5 _ _ _ _ ?_)
    refine Cx.ret ?_
    refine Xx.tr ?_
    refine Xx.dropB b1 ?_
    exact Xx.ret1 rfl rfl (.inr ⟨rfl, by unfold strikesD; rw [if_pos (show d.abs.dead = true from hd)], d, by unfold strikesD; rw [if_pos (show d.abs.dead = true from hd)], rfl⟩) (Frag.le_refl _) (by ac_rfl)
  · skip
    have hd := h4
    have hdd : ¬ d.abs.dead = true := fun h => by rw [show d.abs.dead = d.dead from rfl, hd] at h; cases h
    refine Cx.skip ?_
    refine Xx.tn (k2 _ _ _ _ ?_)
    refine Cx.seq (fun K6 k6 => ?_)
    refine Cx.region ?_
    refine Lx.y (ld Try.underlying26 rfl rfl rfl) rfl ?_
    refine Lx.y (nilc rfl) rfl ?_
    refine Lx.y (fa' fo97_3 rfl) rfl ?_
    refine Lx.y (ld Try.underlying54 rfl rfl rfl) rfl ?_
    refine Lx.y (mkf rfl rfl) rfl ?_
    have hix := IFs_own d.plan (pAt d.ch) d.Ap d.cp 76 [.pointer (some ⟨b1, 0, none⟩)] (row b1 26 [.pointer (some ⟨db, 0, none⟩)] * row db 97 (dcs d)) B hpl (fun B x _ => strk_ct x b1 db (dcs d) d.ch B rfl)
    refine Lx.co rfl rfl rfl (hix) ((show _ = (sbuf 25 3 d.Ap d.plan.length d.cp (d.plan.flatMap scs) * (row b1 26 [.pointer (some ⟨db, 0, none⟩)] * row db 97 (dcs d))) * (imap d.mb (d.fs.map fkv) * (fisH d.fs * R)) by ac_rfl)) rfl ?_
    simp only [star_assoc]
    refine Lx.y (asg rfl) rfl ?_
    refine Lx.nil ?_
    refine Xx.tn (k6 _ _ _ _ ?_)
    refine Cx.seq (fun K7 k7 => ?_)
    refine Cx.seq (fun K8 k8 => ?_)
    refine Cx.region ?_
    refine Lx.y (mv rfl) rfl ?_
    refine Lx.y (lss rfl rfl) rfl ?_
    refine Lx.nil ?_
    refine Xx.tn (k8 _ _ _ _ ?_)
    refine Cx.condD rfl (fun h9 => ?_) (fun h9 => ?_)
    · skip
      have hno := ix_neg h9
      refine Cx.seq (fun K10 k10 => ?_)
      refine Cx.region ?_
      refine Lx.y (ld Try.underlying26 rfl rfl rfl) rfl ?_
      refine Lx.y (nilc rfl) rfl ?_
      refine Lx.y (fa' fo97_4 rfl) rfl ?_
      refine Lx.y (ld Try.underlying3 rfl rfl rfl) rfl ?_
      refine Lx.y (Yx.val (add rfl rfl (by first | exact wrap64 (by omega) (by omega) | rfl)) (show _ = i64 ((d.ch + 1 : Nat) : Int) from rfl)) rfl ?_
      refine Lx.y (nilc rfl) rfl ?_
      refine Lx.y (fa' fo97_4 rfl) rfl ?_
      refine Lx.st (stO Try.underlying3 sz3 rfl rfl rfl (by show 4 < 5; omega) rfl) ?_
      refine Lx.nil ?_
      refine Xx.tn (k10 _ _ _ _ ?_)
      refine Cx.seq (fun K11 k11 => ?_)
      refine Cx.region ?_
      refine Lx.y (asg rfl) rfl ?_
      refine Lx.nil ?_
      refine Xx.tn (k11 _ _ _ _ ?_)
      refine Cx.ret ?_
      refine Xx.tr ?_
      refine Xx.dropB b1 ?_
      exact Xx.ret1 rfl rfl (.inl ⟨rfl, by unfold strikesD; rw [if_neg hdd, show d.abs.plan[d.abs.plan.findIdx (pAt d.abs.ch)]? = none from hno]; rfl, rfl⟩) (Frag.le_refl _) (by unfold dcs; ac_rfl)
    · skip
      obtain ⟨i, hi, hie, hfi⟩ := ix_some h9
      refine Xx.addrT d.Ap (by omega) (fun bp hAp hpx hpc => ?_)
      refine Cx.skip ?_
      refine Xx.tn (k7 _ _ _ _ ?_)
      refine Cx.seq (fun K12 k12 => ?_)
      refine Cx.region ?_
      refine Lx.y (ld Try.underlying26 rfl rfl rfl) rfl ?_
      refine Lx.y (nilc rfl) rfl ?_
      refine Lx.y (fa' fo97_3 rfl) rfl ?_
      refine Lx.y (Yx.val (ld Try.underlying54 rfl rfl rfl) (show _ = Value.slice (some ⟨bp, 0, none⟩) d.plan.length d.cp from by rw [← hAp])) rfl ?_
      refine Lx.y (Yx.val (mv rfl) (show _ = i64 ((i : Nat) : Int) from by rw [hie])) rfl ?_
      refine Lx.y (ia Try.underlying54 sz25 rfl rfl (by first | exact Int.toNat_natCast _ | rfl) (by omega) (by omega)) rfl ?_
      rw [hAp]
      refine Lx.y (ldA Try.underlying25 rfl sz25 rfl (Cells.buf (b := bp) (m := 3) (show _ = scs d.plan[i] from by rw [Nat.zero_add]; exact flatG_at scs_len i d.plan hi) (by rw [flatG_len scs_len]; omega)) rfl) rfl ?_
      refine Lx.new (allocO ti25) rfl (fun bx => ?_)
      refine Lx.st (stA (d := .bool) sz25 rfl rfl rfl rfl (by show 0 + 3 ≤ 3; omega) rfl) ?_
      refine Lx.nil ?_
      refine Xx.tn (k12 _ _ _ _ ?_)
      refine Cx.seq (fun K13 k13 => ?_)
      rw [← hAp]
      refine Cx.drawn (by kernel_rfl) ?_
      refine Dx.r (i := 0) rfl (by kernel_rfl) (ld Try.underlying26 rfl rfl rfl) rfl ?_
      refine Dx.r (i := 1) rfl (by kernel_rfl) (ld Try.underlying26 rfl rfl rfl) rfl ?_
      refine Dx.p (i := 2) rfl (by kernel_rfl) (nilc rfl) rfl ?_
      refine Dx.p (i := 3) rfl (by kernel_rfl) (fa' fo97_3 rfl) rfl ?_
      refine Dx.r (i := 4) rfl (by kernel_rfl) (ld Try.underlying54 rfl rfl rfl) rfl ?_
      refine Dx.p (i := 5) rfl (by kernel_rfl) (Yx.val (mv rfl) (show _ = i64 ((i : Nat) : Int) from by rw [hie])) rfl ?_
      refine Dx.p (i := 6) rfl (by kernel_rfl) (Yx.val (mv rfl) (show _ = i64 ((i : Nat) : Int) from by rw [hie])) rfl ?_
      refine Dx.p (i := 7) rfl (by kernel_rfl) (Yx.val (add rfl rfl (by first | exact wrap64 (by omega) (by omega) | rfl)) (show _ = i64 ((i + 1 : Nat) : Int) from rfl)) rfl ?_
      refine Dx.one (i := 8) (by kernel_rfl) ?_
      refine Dstep.o (i := 8) rfl (Ox.call rfl rfl rfl (DelS_ct d.Ap i d.plan.length d.cp (d.plan.flatMap scs) _ hi (flatG_len scs_len _) (plan_all _) (by omega)) (pickS _)) rfl (fun v B' H' hΦ hB => ?_)
      obtain ⟨_, rfl, hΦ⟩ := hΦ
      obtain ⟨rfl, hBB, rfl⟩ := hΦ
      subst hBB
      rename Frag => B
      clear hB
      rw [plan_del]
      refine ⟨JOk.edge (JOk.yes (JOk.yes (JOk.top) (ld Try.underlying26 rfl rfl rfl)) (ld Try.underlying26 rfl rfl rfl)) (by kernel_rfl), ?_⟩
      refine Dx.p (i := 9) rfl (by kernel_rfl) (nilc rfl) rfl ?_
      refine Dx.p (i := 10) rfl (by kernel_rfl) (fa' fo97_3 rfl) rfl ?_
      refine Dx.one (i := 11) (by kernel_rfl) ?_
      refine Dstep.o0 (i := 11) rfl (stO Try.underlying54 sz54 rfl rfl rfl (by show 3 < 5; omega) rfl) (fun v B' H' hΦ hB => ?_)
      obtain ⟨rfl, rfl⟩ := hΦ; clear hB v
      refine ⟨JOk.edge (JOk.edge (JOk.edge (JOk.top) (by kernel_rfl)) (by kernel_rfl)) (by kernel_rfl), ?_⟩
      refine Dx.done (by kernel_rfl) ?_
      refine Xx.tn (k13 _ _ _ _ ?_)
      refine Cx.seq (fun K14 k14 => ?_)
      refine Cx.region ?_
      refine Lx.y (ld Try.underlying26 rfl rfl rfl) rfl ?_
      refine Lx.y (fa' fo25_1 rfl) rfl ?_
      refine Lx.y (ld Try.underlying23 rfl rfl rfl) rfl ?_
      refine Lx.y (fa' fo25_2 rfl) rfl ?_
      refine Lx.y (ld Try.underlying3 rfl rfl rfl) rfl ?_
      refine Lx.c rfl rfl rfl (Crash_ct { d with plan := d.plan.eraseIdx i } db d.plan[i].mask d.plan[i].torn _ (fit_plan hF (List.length_eraseIdx_le _ _))) ((show _ = dkH db { d with plan := d.plan.eraseIdx i } * (row bx 25 (scs d.plan[i]) * (row b1 26 [.pointer (some ⟨db, 0, none⟩)] * R)) by unfold dkH dcs; simp only [List.length_eraseIdx_of_lt hi]; ac_rfl)) rfl ?_
      rintro v2 B2 H2 ⟨rfl, d2, hd2, rfl⟩ hB2
      refine Lx.nil ?_
      refine Xx.tn (k14 _ _ _ _ ?_)
      refine Cx.seq (fun K15 k15 => ?_)
      refine Cx.region ?_
      refine Lx.y (asg rfl) rfl ?_
      refine Lx.nil ?_
      refine Xx.tn (k15 _ _ _ _ ?_)
      refine Cx.ret ?_
      refine Xx.dropB bx (Xx.dropB b1 ?_)
      have hst : strikesD d.abs = (crashD { d.abs with plan := d.plan.eraseIdx i } d.plan[i].mask d.plan[i].torn, true) := by
        unfold strikesD
        rw [if_neg hdd, show d.abs.plan[d.abs.plan.findIdx (pAt d.abs.ch)]? = some d.plan[i] from by show d.plan[d.plan.findIdx (pAt d.ch)]? = _; rw [hfi]; exact List.getElem?_eq_getElem hi, show d.abs.plan.findIdx (pAt d.abs.ch) = i from hfi]
        rfl
      exact Xx.ret1 rfl rfl (.inr ⟨rfl, by rw [hst], d2, by rw [hst]; exact hd2, rfl⟩) hB2 rfl
end DkF
end Go.Proofs.Ytgcebieihmlaoaa
