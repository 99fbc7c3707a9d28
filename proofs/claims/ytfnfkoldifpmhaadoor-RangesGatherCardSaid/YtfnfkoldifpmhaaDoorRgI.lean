/-
  slices.IndexFunc and its like; the closures of a set.
-/
import Derived.Test.YtfnfkoldifpmhaaDoorProg
import Derived.Test.YtfnfkoldifpmhaaDoorSlj
import Derived.Test.YtfnfkoldifpmhaaDoorRgG
namespace Go.Proofs.YtfnfkoldifpmhaaDoor
open Go.SL Go.RowKit
set_option linter.unusedVariables false
set_option linter.unusedSimpArgs false
set_option maxRecDepth 100000
open Ke1 Ke3 Ke4 Ke5 Ke6 Ke7 Ke8 Ke9 KeA KeB KeC KeD KeE KeF KeG KeI RgA RgB RgC RgD RgE RgG
namespace RgI
theorem sz26 : (Tryd.prog.info? 26).map (·.size) = some 6 := by kernel_rfl
theorem sz30 : (Tryd.prog.info? 30).map (·.size) = some 16 := by kernel_rfl
theorem sz34 : (Tryd.prog.info? 34).map (·.size) = some 2 := by kernel_rfl
theorem sz36 : (Tryd.prog.info? 36).map (·.size) = some 4 := by kernel_rfl
theorem ti30 : TI Tryd.prog 30 [str [], .bool false, .int .i64 0, .bool false, .int .i64 0, str [], .slice none 0 0, .slice none 0 0, .int .i64 0, .bool false, .int .i64 0, str [], .slice none 0 0, .slice none 0 0, .bool false, .bool false] 16 208 := TI.of (by kernel_rfl) rfl rfl
theorem ti36 : TI Tryd.prog 36 [str [], str [], str [], str []] 4 64 := TI.of (by kernel_rfl) rfl rfl
theorem fo36_0 : FO Tryd.prog 36 0 0 1 false := FO.of Tryd.underlying36 rfl rfl (by kernel_rfl) Tryd.underlying9 rfl rfl

theorem flatG_at {α : Type} {enc : α → List Value} {size : Nat} (he : ∀ x, (enc x).length = size) : ∀ (k : Nat) (l : List α) (h : k < l.length), ((l.flatMap enc).drop (k * size)).take size = enc l[k] := by
  intro k
  induction k with
  | zero =>
    intro l h
    cases l with
    | nil => simp at h
    | cons x l =>
      rw [Nat.zero_mul, List.drop_zero, List.flatMap_cons, List.take_append_of_le_length (by rw [he]; exact Nat.le_refl _), List.take_of_length_le (by rw [he]; exact Nat.le_refl _)]; rfl
  | succ k ih =>
    intro l h
    cases l with
    | nil => simp at h
    | cons x l =>
      have h' : k < l.length := by simpa using h
      rw [List.flatMap_cons, List.drop_append, he, List.drop_of_length_le (by rw [he, Nat.succ_mul]; omega), List.nil_append, show (k + 1) * size - size = k * size by rw [Nat.succ_mul]; omega]
      exact ih l h'
theorem flatG_len {α : Type} {enc : α → List Value} {size : Nat} (he : ∀ x, (enc x).length = size) (l : List α) : (l.flatMap enc).length = l.length * size := by
  induction l with
  | nil => simp
  | cons x l ih => rw [List.flatMap_cons, List.length_append, ih, he, List.length_cons, Nat.succ_mul]; omega
theorem flat_at {α : Type} {enc : α → List Value} {size : Nat} {B : Frag} {A : Option Addr} {l : List α} {k : Nat} (he : ∀ x, (enc x).length = size) (h : RoS B size A l.length (l.flatMap enc)) (hk : k < l.length) :
    ∃ b o cs et fz, A = some ⟨b, o, none⟩ ∧ B b = some (.cells (List.toArray cs) et fz) ∧ (cs.drop (o + k * size)).take size = enc l[k] := by
  obtain ⟨b, o, cs, et, fz, h1, h2, h3⟩ := h.at (k := k) hk
  exact ⟨b, o, cs, et, fz, h1, h2, by rw [h3, flatG_at he]⟩
/-- the first place where p holds; -1: there is none -/
def ixF {α : Type} (p : α → Bool) (l : List α) : Int := if l.any p = true then ((l.findIdx p : Nat) : Int) else -1
theorem ixF_at {α : Type} {p : α → Bool} {l : List α} {i : Nat} (h : i < l.length) (hp : p l[i] = true) (hall : ∀ k (hk : k < i), p (l[k]'(by omega)) = false) : ixF p l = i := by
  unfold ixF
  rw [if_pos (List.any_eq_true.2 ⟨l[i], List.getElem_mem h, hp⟩)]
  congr 1
  exact (List.findIdx_eq h).2 ⟨hp, hall⟩
theorem ixF_no {α : Type} {p : α → Bool} {l : List α} (hall : ∀ k (hk : k < l.length), p l[k] = false) : ixF p l = -1 := by
  unfold ixF
  rw [if_neg]
  intro h
  obtain ⟨x, hx, hp⟩ := List.any_eq_true.1 h
  obtain ⟨k, hk, rfl⟩ := List.getElem_of_mem hx
  rw [hall k hk] at hp; cases hp
theorem ixF_ge {α : Type} (p : α → Bool) (l : List α) : decide (0 ≤ ixF p l) = l.any p := by
  unfold ixF
  by_cases h : l.any p = true
  · rw [if_pos h, h]; exact decide_eq_true (by omega)
  · rw [if_neg h, Bool.eq_false_iff.2 h]; exact decide_eq_false (by omega)
/-- a touch, whole -/
structure Tc where
  tb : List UInt8
  sh : Bool
  was : Bool
  is : Bool
  vo : V
  vn : V
  A1 : Option Addr
  c1 : Nat
  N1 : Option Addr
  d1 : Nat
  A2 : Option Addr
  c2 : Nat
  N2 : Option Addr
  d2 : Nat
def tcc (t : Tc) : List Value := tcs t.tb t.sh (vcs t.vo t.A1 t.c1 t.N1 t.d1) (vcs t.vn t.A2 t.c2 t.N2 t.d2) t.was t.is

set_option maxHeartbeats 1000000 in
theorem IF_ct (l : List Rd) (p : Rd → Bool) (A : Option Addr) (c : Nat) (fi : FuncId) (caps : List Value) (own : HP) (B : Frag) (hR : RoS B 4 A l.length (l.flatMap rcs)) (hn : l.length ≤ 1000) (hf : ∀ x ∈ l, CtC Tryd.prog fi (.agg (rcs x).toArray :: caps) B own (.bool (p x)) own) : CtC Tryd.prog 47 [.slice A l.length c, .func (.func fi) #[] caps.toArray] B own (i64 (ixF p l)) own := by
  refine Ct.of_body Tryd.func47 rfl (nt := 19) rfl (by kernel_rfl) rfl ?_
  intro N0 w0 R
  refine Cx.seq (fun K1 k1 => ?_)
  refine Cx.region ?_
  refine Lx.y (asg rfl) rfl ?_
  refine Lx.nil ?_
  refine Xx.tn (k1 _ _ _ _ ?_)
  refine Cx.seq (fun K2 k2 => ?_)
  refine Cx.seq (fun K3 k3 => ?_)
  refine Cx.region ?_
  refine Lx.y (mv rfl) rfl ?_
  refine Lx.y (lenV (ty' := 0) Tryd.underlying42 rfl) rfl ?_
  refine Lx.y (mv rfl) rfl ?_
  refine Lx.nil ?_
  refine Xx.tn (k3 _ _ _ _ ?_)
  refine Cx.block ?_
  refine Cx.loopK (Sub.cons (s := 0) rfl (Sub.cons (s := 1) rfl (Sub.cons (s := 6) rfl (Sub.cons (s := 7) rfl (Sub.nil _))))) (fun m ρ' B' H' => ∃ (i : Nat), (i ≤ l.length ∧ ∀ k (hk : k < l.length), k < i → p l[k] = false) ∧ m = l.length - i ∧ ρ' = [(8, i64 i)] ∧ B = B' ∧ own * R = H') ⟨0, ⟨Nat.zero_le _, fun k _ h => absurd h (by omega)⟩, rfl, rfl, rfl, rfl⟩ (Sub.cons (s := 8) rfl (Sub.cons (s := 0) rfl (Sub.cons (s := 1) rfl (Sub.cons (s := 6) rfl (Sub.cons (s := 7) rfl (Sub.nil _)))))) ?_
  rintro m ρ' B' H' ⟨i, ⟨hi, hall⟩, rfl, rfl, rfl, rfl⟩
  refine Cx.seq (fun K4 k4 => ?_)
  refine Cx.region ?_
  refine Lx.y (lss rfl rfl) rfl ?_
  refine Lx.nil ?_
  refine Xx.tn (k4 _ _ _ _ ?_)
  refine Cx.seq (fun K5 k5 => ?_)
  refine Cx.condD rfl (fun h6 => ?_) (fun h6 => ?_)
  · skip
    have hlt := h6
    have hlt : i < l.length := by omega
    obtain ⟨b0, o0, cs0, et0, fz0, rfl, hB0, hc0⟩ := flat_at (fun x => (show (rcs x).length = 4 from rfl)) hR hlt
    refine Cx.skip ?_
    refine Xx.tn (k5 _ _ _ _ ?_)
    refine Cx.seq (fun K7 k7 => ?_)
    refine Cx.block ?_
    refine Cx.seq (fun K8 k8 => ?_)
    refine Cx.region ?_
    refine Lx.y (mv rfl) rfl ?_
    refine Lx.y (asg rfl) rfl ?_
    refine Lx.nil ?_
    refine Xx.tn (k8 _ _ _ _ ?_)
    refine Cx.seq (fun K9 k9 => ?_)
    refine Cx.region ?_
    refine Lx.y (mv rfl) rfl ?_
    refine Lx.y (mv rfl) rfl ?_
    refine Lx.y (mv rfl) rfl ?_
    refine Lx.y (ia Tryd.underlying42 sz36 rfl rfl (by first | exact Int.toNat_natCast _ | rfl) (by omega) (by omega)) rfl ?_
    refine Lx.y (ldA Tryd.underlying36 rfl sz36 rfl (Cells.base (n := 4) hB0 hc0) rfl) rfl ?_
    refine Lx.co rfl rfl rfl (hf _ (List.getElem_mem hlt)) (rfl) rfl ?_
    refine Lx.nil ?_
    refine Xx.tn (k9 _ _ _ _ ?_)
    refine Cx.condB rfl (fun h10 => ?_) (fun h10 => ?_)
    · skip
      have hp := h10
      refine Cx.seq (fun K11 k11 => ?_)
      refine Cx.region ?_
      refine Lx.y (mv rfl) rfl ?_
      refine Lx.y (asg rfl) rfl ?_
      refine Lx.nil ?_
      refine Xx.tn (k11 _ _ _ _ ?_)
      refine Cx.ret ?_
      refine Xx.br ?_
      refine Xx.tr ?_
      refine Xx.tr ?_
      refine Xx.br ?_
      refine Xx.tr ?_
      exact Xx.ret1 rfl rfl ⟨by rw [ixF_at hlt hp (fun k hk => hall k (by omega) hk)], rfl, rfl⟩ (Frag.le_refl _) rfl
    · skip
      have hp := h10
      refine Cx.skip ?_
      refine Xx.bn ?_
      refine Xx.tn (k7 _ _ _ _ ?_)
      refine Cx.region ?_
      refine Lx.y (Yx.val (add rfl rfl (by first | exact wrap64 (by omega) (by omega) | rfl)) (show _ = i64 ((i + 1 : Nat) : Int) from rfl)) rfl ?_
      refine Lx.y (mv rfl) rfl ?_
      refine Lx.nil ?_
      exact Xx.againK ⟨i + 1, ⟨by omega, fun k hk hki => by
  by_cases e : k = i
  · subst e; exact hp
  · exact hall k hk (by omega)⟩, rfl, rfl, rfl, rfl⟩ (by omega) (Sub.cons (s := 8) rfl (Sub.cons (s := 0) rfl (Sub.cons (s := 1) rfl (Sub.cons (s := 6) rfl (Sub.cons (s := 7) rfl (Sub.nil _))))))
  · skip
    have hge := h6
    refine Cx.exit ?_
    refine Xx.te ?_
    refine Xx.te ?_
    refine Xx.bh ?_
    refine Xx.tn (k2 _ _ _ _ ?_)
    refine Cx.seq (fun K12 k12 => ?_)
    refine Cx.region ?_
    refine Lx.y (asg rfl) rfl ?_
    refine Lx.nil ?_
    refine Xx.tn (k12 _ _ _ _ ?_)
    refine Cx.ret ?_
    exact Xx.ret1 rfl rfl ⟨by rw [ixF_no (fun k hk => hall k hk (by omega))], rfl, rfl⟩ (Frag.le_refl _) rfl

set_option maxHeartbeats 1000000 in
theorem CF_ct (l : List Rd) (p : Rd → Bool) (A : Option Addr) (c : Nat) (fi : FuncId) (caps : List Value) (own : HP) (B : Frag) (hR : RoS B 4 A l.length (l.flatMap rcs)) (hn : l.length ≤ 1000) (hf : ∀ x ∈ l, CtC Tryd.prog fi (.agg (rcs x).toArray :: caps) B own (.bool (p x)) own) : CtC Tryd.prog 30 [.slice A l.length c, .func (.func fi) #[] caps.toArray] B own (.bool (l.any p)) own := by
  have hi := IF_ct l p A c fi caps own B hR hn hf
  refine Ct.of_body Tryd.func30 rfl (nt := 9) rfl (by kernel_rfl) rfl ?_
  intro N0 w0 R
  refine Cx.seq (fun K1 k1 => ?_)
  refine Cx.region ?_
  refine Lx.y (asg rfl) rfl ?_
  refine Lx.nil ?_
  refine Xx.tn (k1 _ _ _ _ ?_)
  refine Cx.seq (fun K2 k2 => ?_)
  refine Cx.region ?_
  refine Lx.y (mv rfl) rfl ?_
  refine Lx.y (mv rfl) rfl ?_
  refine Lx.co rfl rfl rfl (hi) (rfl) rfl ?_
  refine Lx.y (Yx.val (geq rfl rfl) (congrArg Value.bool (ixF_ge p l))) rfl ?_
  refine Lx.y (asg rfl) rfl ?_
  refine Lx.nil ?_
  refine Xx.tn (k2 _ _ _ _ ?_)
  refine Cx.ret ?_
  exact Xx.ret1 rfl rfl ⟨rfl, rfl, rfl⟩ (Frag.le_refl _) rfl

set_option maxHeartbeats 1000000 in
theorem IFT_ct (l : List Tc) (p : Tc → Bool) (A : Option Addr) (c : Nat) (fi : FuncId) (caps : List Value) (own : HP) (B : Frag) (hR : RoS B 16 A l.length (l.flatMap tcc)) (hn : l.length ≤ 1000) (hf : ∀ x ∈ l, CtC Tryd.prog fi (.agg (tcc x).toArray :: caps) B own (.bool (p x)) own) : CtC Tryd.prog 48 [.slice A l.length c, .func (.func fi) #[] caps.toArray] B own (i64 (ixF p l)) own := by
  refine Ct.of_body Tryd.func48 rfl (nt := 19) rfl (by kernel_rfl) rfl ?_
  intro N0 w0 R
  refine Cx.seq (fun K1 k1 => ?_)
  refine Cx.region ?_
  refine Lx.y (asg rfl) rfl ?_
  refine Lx.nil ?_
  refine Xx.tn (k1 _ _ _ _ ?_)
  refine Cx.seq (fun K2 k2 => ?_)
  refine Cx.seq (fun K3 k3 => ?_)
  refine Cx.region ?_
  refine Lx.y (mv rfl) rfl ?_
  refine Lx.y (lenV (ty' := 0) Tryd.underlying45 rfl) rfl ?_
  refine Lx.y (mv rfl) rfl ?_
  refine Lx.nil ?_
  refine Xx.tn (k3 _ _ _ _ ?_)
  refine Cx.block ?_
  refine Cx.loopK (Sub.cons (s := 0) rfl (Sub.cons (s := 1) rfl (Sub.cons (s := 6) rfl (Sub.cons (s := 7) rfl (Sub.nil _))))) (fun m ρ' B' H' => ∃ (i : Nat), (i ≤ l.length ∧ ∀ k (hk : k < l.length), k < i → p l[k] = false) ∧ m = l.length - i ∧ ρ' = [(8, i64 i)] ∧ B = B' ∧ own * R = H') ⟨0, ⟨Nat.zero_le _, fun k _ h => absurd h (by omega)⟩, rfl, rfl, rfl, rfl⟩ (Sub.cons (s := 8) rfl (Sub.cons (s := 0) rfl (Sub.cons (s := 1) rfl (Sub.cons (s := 6) rfl (Sub.cons (s := 7) rfl (Sub.nil _)))))) ?_
  rintro m ρ' B' H' ⟨i, ⟨hi, hall⟩, rfl, rfl, rfl, rfl⟩
  refine Cx.seq (fun K4 k4 => ?_)
  refine Cx.region ?_
  refine Lx.y (lss rfl rfl) rfl ?_
  refine Lx.nil ?_
  refine Xx.tn (k4 _ _ _ _ ?_)
  refine Cx.seq (fun K5 k5 => ?_)
  refine Cx.condD rfl (fun h6 => ?_) (fun h6 => ?_)
  · skip
    have hlt := h6
    have hlt : i < l.length := by omega
    obtain ⟨b0, o0, cs0, et0, fz0, rfl, hB0, hc0⟩ := flat_at (fun x => (show (tcc x).length = 16 from rfl)) hR hlt
    refine Cx.skip ?_
    refine Xx.tn (k5 _ _ _ _ ?_)
    refine Cx.seq (fun K7 k7 => ?_)
    refine Cx.block ?_
    refine Cx.seq (fun K8 k8 => ?_)
    refine Cx.region ?_
    refine Lx.y (mv rfl) rfl ?_
    refine Lx.y (asg rfl) rfl ?_
    refine Lx.nil ?_
    refine Xx.tn (k8 _ _ _ _ ?_)
    refine Cx.seq (fun K9 k9 => ?_)
    refine Cx.region ?_
    refine Lx.y (mv rfl) rfl ?_
    refine Lx.y (mv rfl) rfl ?_
    refine Lx.y (mv rfl) rfl ?_
    refine Lx.y (ia Tryd.underlying45 sz30 rfl rfl (by first | exact Int.toNat_natCast _ | rfl) (by omega) (by omega)) rfl ?_
    refine Lx.y (ldA Tryd.underlying30 rfl sz30 rfl (Cells.base (n := 16) hB0 hc0) rfl) rfl ?_
    refine Lx.co rfl rfl rfl (hf _ (List.getElem_mem hlt)) (rfl) rfl ?_
    refine Lx.nil ?_
    refine Xx.tn (k9 _ _ _ _ ?_)
    refine Cx.condB rfl (fun h10 => ?_) (fun h10 => ?_)
    · skip
      have hp := h10
      refine Cx.seq (fun K11 k11 => ?_)
      refine Cx.region ?_
      refine Lx.y (mv rfl) rfl ?_
      refine Lx.y (asg rfl) rfl ?_
      refine Lx.nil ?_
      refine Xx.tn (k11 _ _ _ _ ?_)
      refine Cx.ret ?_
      refine Xx.br ?_
      refine Xx.tr ?_
      refine Xx.tr ?_
      refine Xx.br ?_
      refine Xx.tr ?_
      exact Xx.ret1 rfl rfl ⟨by rw [ixF_at hlt hp (fun k hk => hall k (by omega) hk)], rfl, rfl⟩ (Frag.le_refl _) rfl
    · skip
      have hp := h10
      refine Cx.skip ?_
      refine Xx.bn ?_
      refine Xx.tn (k7 _ _ _ _ ?_)
      refine Cx.region ?_
      refine Lx.y (Yx.val (add rfl rfl (by first | exact wrap64 (by omega) (by omega) | rfl)) (show _ = i64 ((i + 1 : Nat) : Int) from rfl)) rfl ?_
      refine Lx.y (mv rfl) rfl ?_
      refine Lx.nil ?_
      exact Xx.againK ⟨i + 1, ⟨by omega, fun k hk hki => by
  by_cases e : k = i
  · subst e; exact hp
  · exact hall k hk (by omega)⟩, rfl, rfl, rfl, rfl⟩ (by omega) (Sub.cons (s := 8) rfl (Sub.cons (s := 0) rfl (Sub.cons (s := 1) rfl (Sub.cons (s := 6) rfl (Sub.cons (s := 7) rfl (Sub.nil _))))))
  · skip
    have hge := h6
    refine Cx.exit ?_
    refine Xx.te ?_
    refine Xx.te ?_
    refine Xx.bh ?_
    refine Xx.tn (k2 _ _ _ _ ?_)
    refine Cx.seq (fun K12 k12 => ?_)
    refine Cx.region ?_
    refine Lx.y (asg rfl) rfl ?_
    refine Lx.nil ?_
    refine Xx.tn (k12 _ _ _ _ ?_)
    refine Cx.ret ?_
    exact Xx.ret1 rfl rfl ⟨by rw [ixF_no (fun k hk => hall k hk (by omega))], rfl, rfl⟩ (Frag.le_refl _) rfl

set_option maxHeartbeats 1000000 in
theorem CFT_ct (l : List Tc) (p : Tc → Bool) (A : Option Addr) (c : Nat) (fi : FuncId) (caps : List Value) (own : HP) (B : Frag) (hR : RoS B 16 A l.length (l.flatMap tcc)) (hn : l.length ≤ 1000) (hf : ∀ x ∈ l, CtC Tryd.prog fi (.agg (tcc x).toArray :: caps) B own (.bool (p x)) own) : CtC Tryd.prog 35 [.slice A l.length c, .func (.func fi) #[] caps.toArray] B own (.bool (l.any p)) own := by
  have hi := IFT_ct l p A c fi caps own B hR hn hf
  refine Ct.of_body Tryd.func35 rfl (nt := 9) rfl (by kernel_rfl) rfl ?_
  intro N0 w0 R
  refine Cx.seq (fun K1 k1 => ?_)
  refine Cx.region ?_
  refine Lx.y (asg rfl) rfl ?_
  refine Lx.nil ?_
  refine Xx.tn (k1 _ _ _ _ ?_)
  refine Cx.seq (fun K2 k2 => ?_)
  refine Cx.region ?_
  refine Lx.y (mv rfl) rfl ?_
  refine Lx.y (mv rfl) rfl ?_
  refine Lx.co rfl rfl rfl (hi) (rfl) rfl ?_
  refine Lx.y (Yx.val (geq rfl rfl) (congrArg Value.bool (ixF_ge p l))) rfl ?_
  refine Lx.y (asg rfl) rfl ?_
  refine Lx.nil ?_
  refine Xx.tn (k2 _ _ _ _ ?_)
  refine Cx.ret ?_
  exact Xx.ret1 rfl rfl ⟨rfl, rfl, rfl⟩ (Frag.le_refl _) rfl

def knownB (r x : Rd) : Bool := eqRd x r || eqRd x ⟨r.t, [], [], []⟩

set_option maxHeartbeats 1000000 in
theorem Known_ct (r x : Rd) (b : Nat) (B : Frag) : CtC Tryd.prog 29 [.agg (rcs x).toArray, .pointer (some ⟨b, 0, none⟩)] B (row b 36 (rcs r)) (.bool (knownB r x)) (row b 36 (rcs r)) := by
  refine Ct.of_body Tryd.func29 rfl (nt := 14) rfl (by kernel_rfl) rfl ?_
  intro N0 w0 R
  refine Cx.seq (fun K1 k1 => ?_)
  refine Cx.region ?_
  refine Lx.new (boxA rfl) rfl (fun b2 => ?_)
  refine Lx.y (asg rfl) rfl ?_
  refine Lx.nil ?_
  refine Xx.tn (k1 _ _ _ _ ?_)
  refine Cx.seq (fun K2 k2 => ?_)
  refine Cx.drawn (by kernel_rfl) ?_
  refine Dx.r (i := 0) rfl (by kernel_rfl) (ldA Tryd.underlying36 rfl sz36 rfl (Cells.own (n := 4) PickB.eq rfl) rfl) rfl ?_
  refine Dx.r (i := 1) rfl (by kernel_rfl) (ldA Tryd.underlying36 rfl sz36 rfl (Cells.own (n := 4) PickB.eq rfl) rfl) rfl ?_
  refine Dx.p (i := 2) rfl (by kernel_rfl) (eqR x r Tryd.underlying36 Tryd.underlying9 Tryd.underlying9 Tryd.underlying34 Tryd.underlying9 Tryd.underlying9 (by decide) (by decide) (by decide) (by decide) (by decide) rfl rfl rfl rfl rfl sz34 (by kernel_rfl) (by kernel_rfl) (by kernel_rfl) rfl rfl) rfl ?_
  refine Dx.p (i := 3) rfl (by kernel_rfl) (mv rfl) rfl ?_
  refine Xx.ifB (t := 7) rfl (fun h3 => ?_) (fun h3 => ?_)
  · skip
    have g1 := h3
    refine Dx.pF (i := 4) rfl (fun _ h => by cases h) rfl rfl rfl (by kernel_rfl) rfl ?_
    refine Dx.pF (i := 5) rfl (fun _ h => by cases h) rfl rfl rfl (by kernel_rfl) rfl ?_
    refine Dx.pF (i := 6) rfl (fun _ h => by cases h) rfl rfl rfl (by kernel_rfl) rfl ?_
    refine Dx.pF (i := 7) rfl (fun _ h => by cases h) rfl rfl rfl (by kernel_rfl) rfl ?_
    refine Dx.pF (i := 8) rfl (fun _ h => by cases h) rfl rfl rfl (by kernel_rfl) rfl ?_
    refine Dx.p (i := 9) rfl (by kernel_rfl) (pickT rfl rfl) rfl ?_
    refine Dx.p (i := 10) rfl (by kernel_rfl) (asg rfl) rfl ?_
    refine Dx.done (by kernel_rfl) ?_
    refine Xx.tn (k2 _ _ _ _ ?_)
    refine Cx.ret ?_
    exact Xx.dropB b2 (Xx.ret1 rfl rfl ⟨congrArg Value.bool (by unfold knownB; rw [g1]; rfl), rfl, rfl⟩ (Frag.le_refl _) rfl)
  · skip
    have g1 := h3
    refine Dx.rT (i := 4) rfl rfl rfl rfl (by kernel_rfl) (ldA Tryd.underlying36 rfl sz36 rfl (Cells.own (n := 4) PickB.eq rfl) rfl) rfl ?_
    refine Dx.pT (i := 5) rfl rfl rfl rfl (by kernel_rfl) (fa' fo36_0 rfl) rfl ?_
    refine Dx.rT (i := 6) rfl rfl rfl rfl (by kernel_rfl) (ld Tryd.underlying9 rfl rfl rfl) rfl ?_
    refine Dx.one (i := 7) (by kernel_rfl) ?_
    refine Dstep.oT (i := 7) rfl rfl rfl rfl (Ox.cb rfl rfl rfl (Whole_ct _ _)) rfl (fun v B' H' hΦ hB => ?_)
    obtain ⟨rfl, rfl, rfl⟩ := hΦ; clear hB
    refine ⟨JOk.edge (JOk.yes (JOk.yes (JOk.yes (JOk.top) (ldA Tryd.underlying36 rfl sz36 rfl (Cells.own (n := 4) PickB.eq rfl) rfl)) (ldA Tryd.underlying36 rfl sz36 rfl (Cells.own (n := 4) PickB.eq rfl) rfl)) (ldA Tryd.underlying36 rfl sz36 rfl (Cells.own (n := 4) PickB.eq rfl) rfl)) (by kernel_rfl), ?_⟩
    refine Dx.pT (i := 8) rfl rfl rfl rfl (by kernel_rfl) (eqR x ⟨r.t, [], [], []⟩ Tryd.underlying36 Tryd.underlying9 Tryd.underlying9 Tryd.underlying34 Tryd.underlying9 Tryd.underlying9 (by decide) (by decide) (by decide) (by decide) (by decide) rfl rfl rfl rfl rfl sz34 (by kernel_rfl) (by kernel_rfl) (by kernel_rfl) rfl rfl) rfl ?_
    refine Dx.p (i := 9) rfl (by kernel_rfl) (pickF rfl rfl) rfl ?_
    refine Dx.p (i := 10) rfl (by kernel_rfl) (asg rfl) rfl ?_
    refine Dx.done (by kernel_rfl) ?_
    refine Xx.tn (k2 _ _ _ _ ?_)
    refine Cx.ret ?_
    exact Xx.dropB b2 (Xx.ret1 rfl rfl ⟨congrArg Value.bool (by unfold knownB; rw [g1]; rfl), rfl, rfl⟩ (Frag.le_refl _) rfl)

set_option maxHeartbeats 1000000 in
theorem SameT_ct (r x : Rd) (b : Nat) (B : Frag) : CtC Tryd.prog 32 [.agg (rcs x).toArray, .pointer (some ⟨b, 0, none⟩)] B (row b 36 (rcs r)) (.bool (decide (x.t = r.t))) (row b 36 (rcs r)) := by
  refine Ct.of_body Tryd.func32 rfl (nt := 9) rfl (by kernel_rfl) rfl ?_
  intro N0 w0 R
  refine Cx.seq (fun K1 k1 => ?_)
  refine Cx.region ?_
  refine Lx.new (boxA rfl) rfl (fun b2 => ?_)
  refine Lx.y (asg rfl) rfl ?_
  refine Lx.nil ?_
  refine Xx.tn (k1 _ _ _ _ ?_)
  refine Cx.seq (fun K2 k2 => ?_)
  refine Cx.region ?_
  refine Lx.y (fa' fo36_0 rfl) rfl ?_
  refine Lx.y (ld Tryd.underlying9 rfl rfl rfl) rfl ?_
  refine Lx.y (fa' fo36_0 rfl) rfl ?_
  refine Lx.y (ld Tryd.underlying9 rfl rfl rfl) rfl ?_
  refine Lx.y (eqS rfl rfl) rfl ?_
  refine Lx.y (asg rfl) rfl ?_
  refine Lx.nil ?_
  refine Xx.tn (k2 _ _ _ _ ?_)
  refine Cx.ret ?_
  exact Xx.dropB b2 (Xx.ret1 rfl rfl ⟨rfl, rfl, rfl⟩ (Frag.le_refl _) rfl)
end RgI
end Go.Proofs.YtfnfkoldifpmhaaDoor
