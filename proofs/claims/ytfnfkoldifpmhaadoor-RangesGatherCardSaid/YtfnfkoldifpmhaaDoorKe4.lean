/-
  Texts in keys: the program and the reference.
-/
import Derived.Test.YtfnfkoldifpmhaaDoorProg
import Derived.Test.YtfnfkoldifpmhaaDoorSlj
import Derived.Test.YtfnfkoldifpmhaaDoorKe3
import Derived.Test.YtfnfkoldifpmhaaDoorShelf
namespace Go.Proofs.YtfnfkoldifpmhaaDoor
open Go.SL Go.RowKit
set_option linter.unusedVariables false
set_option linter.unusedSimpArgs false
set_option maxRecDepth 100000
open Ke1 Ke3
namespace Ke4


def rep (l : List UInt8) : List UInt8 := l.flatMap fun b => if b = 0 then [0, 255] else [b]
theorem rep_id {l : List UInt8} (h : (0 : UInt8) ∉ l) : rep l = l := by
  induction l with
  | nil => rfl
  | cons x l ih =>
    have h1 : x ≠ 0 := fun e => h (by simp [e])
    have h2 := ih (fun m => h (by simp [m]))
    unfold rep at *
    rw [List.flatMap_cons, h2, if_neg h1]; rfl
theorem rep_app (a b : List UInt8) : rep (a ++ b) = rep a ++ rep b := by simp [rep]
theorem idx0 (s : List UInt8) : (Lib.index s [0] = -1 ∧ (0 : UInt8) ∉ s) ∨ ∃ p q, s = p ++ 0 :: q ∧ (0 : UInt8) ∉ p ∧ Lib.index s [0] = (p.length : Int) := by
  induction s with
  | nil => exact .inl ⟨rfl, by simp⟩
  | cons b l ih =>
    by_cases hb : b = 0
    · subst hb
      exact .inr ⟨[], l, rfl, by simp, by simp [Lib.index]⟩
    · have hb' : (List.isPrefixOf [0] (b :: l)) = false := by simp [List.isPrefixOf]; exact fun e => hb e.symm
      rcases ih with ⟨h1, h2⟩ | ⟨p, q, h1, h2, h3⟩
      · refine .inl ⟨by unfold Lib.index; rw [hb', h1]; rfl, ?_⟩
        intro hm
        rcases List.mem_cons.1 hm with e | e
        · exact hb e.symm
        · exact h2 e
      · refine .inr ⟨b :: p, q, by rw [h1]; rfl, ?_, ?_⟩
        · intro hm
          rcases List.mem_cons.1 hm with e | e
          · exact hb e.symm
          · exact h2 e
        · unfold Lib.index
          rw [hb', h3, if_neg (by simp), if_neg (by simp)]
          simp
theorem count0 : ∀ (fuel : Nat) (s : List UInt8), s.length < fuel → Lib.countFrom [0] fuel s = s.count 0 := by
  intro fuel
  induction fuel with
  | zero => intro s h; omega
  | succ n ih =>
    intro s h
    unfold Lib.countFrom
    rcases idx0 s with ⟨h1, h2⟩ | ⟨p, q, h1, h2, h3⟩
    · rw [h1, if_pos (by decide)]
      exact (List.count_eq_zero.2 h2).symm
    · rw [h3, if_neg (by simp)]
      have e : s.drop (((p.length : Int)).toNat + [(0 : UInt8)].length) = q := by rw [h1]; simp
      rw [e, ih q (by rw [h1] at h; simp at h; omega), h1, List.count_append, List.count_eq_zero.2 h2]
      simp; omega
theorem rep0 : ∀ (k : Nat) (s : List UInt8), s.count 0 ≤ k → Lib.replaceK [0] [0, 255] k s = rep s := by
  intro k
  induction k with
  | zero =>
    intro s h
    unfold Lib.replaceK
    exact (rep_id (List.count_eq_zero.1 (by omega))).symm
  | succ n ih =>
    intro s h
    unfold Lib.replaceK
    rcases idx0 s with ⟨h1, h2⟩ | ⟨p, q, h1, h2, h3⟩
    · rw [h1, if_pos (by decide)]
      exact (rep_id h2).symm
    · rw [h3, if_neg (by simp)]
      have e : s.drop (((p.length : Int)).toNat + [(0 : UInt8)].length) = q := by rw [h1]; simp
      have e2 : s.take ((p.length : Int)).toNat = p := by rw [h1]; simp
      rw [e, e2, ih q (by rw [h1] at h; simp at h; omega), h1, rep_app, rep_id h2]
      have : rep (0 :: q) = [0, 255] ++ rep q := by simp [rep]
      rw [this, List.append_assoc]
theorem replaceAll0 (s : List UInt8) : Lib.replaceAll s [0] [0, 255] = rep s := by
  unfold Lib.replaceAll Lib.replace
  rw [if_neg (by decide)]
  apply rep0
  unfold Lib.replaceNum
  rw [if_pos (.inl (by decide))]
  unfold Lib.count
  rw [count0 _ _ (by omega)]
  omega
/-- the library's own variable holds a number -/
def MaxLenIn (B : Frag) : Prop := ∃ cs et fz m, B 0 = some (.cells (List.toArray cs) et fz) ∧ cs[0]? = some (.int .i64 m)
theorem MaxLenIn.mono {B B' : Frag} (h : MaxLenIn B) (hB : B.le B') : MaxLenIn B' := let ⟨cs, et, fz, m, h1, h2⟩ := h; ⟨cs, et, fz, m, hB _ _ h1, h2⟩
theorem ReplaceAll_ct (s : List UInt8) (B : Frag) (hB : MaxLenIn B) (hs : s.length ≤ 1048576) : CtP Tryd.prog 58 [str s, str [0], str [0, 255]] B (str (rep s)) := by
  obtain ⟨c, hcb⟩ : ∃ c, Tryd.f58.body = some c := ⟨_, rfl⟩
  refine CtP.of_calls (Go.SL.enters_of Tryd.func58 hcb (by kernel_rfl)) fun w hw => ?_
  obtain ⟨cs, et, fz, m, h1, h2⟩ := hB
  have hc : w.cell? ⟨0, 0, none⟩ = some (.int .i64 m) := cell_of_heap (hw _ _ h1) h2
  have hcount := Lib.countB_mul_le ⟨#[0]⟩ (by decide) s.length ⟨s.toArray⟩ (Nat.le_refl _)
  have := Shelf.strings_ReplaceAll ⟨s.toArray⟩ ⟨#[0]⟩ ⟨#[0, 255]⟩ m w (by show s.length < _; omega) hc (by decide) (by
    have e1 : (⟨#[0]⟩ : ByteArray).size = 1 := rfl
    have e2 : (⟨#[0, 255]⟩ : ByteArray).size = 2 := rfl
    have e3 : (⟨s.toArray⟩ : ByteArray).size = s.length := rfl
    rw [e1, e3] at hcount
    rw [e2, e3]
    omega)
  have e : Lib.replaceAll (⟨s.toArray⟩ : ByteArray).data.toList (⟨#[0]⟩ : ByteArray).data.toList (⟨#[0, 255]⟩ : ByteArray).data.toList = rep s := replaceAll0 s
  rw [e] at this
  exact this
def textL (s : List UInt8) : List UInt8 := rep s ++ [0, 1]
theorem rep_len (s : List UInt8) : (rep s).length ≤ 2 * s.length := by
  unfold rep
  induction s with
  | nil => simp
  | cons x s ih =>
    rw [List.flatMap_cons, List.length_append, List.length_cons]
    split
    · simp only [List.length_cons, List.length_nil]; omega
    · simp only [List.length_cons, List.length_nil]; omega
theorem rep_take {s : List UInt8} {i : Nat} (h : i < s.length) : rep (s.take (i + 1)) = rep (s.take i) ++ if s.getD i 0 = 0 then [0, 255] else [s.getD i 0] := by
  have e : s.getD i 0 = s[i] := by simp [List.getD, h]
  rw [List.take_succ_eq_append_getElem h, rep_app, e]
  simp [rep]
theorem one_at {s : List UInt8} {i : Nat} (h : i < s.length) : (s.take (i + 1)).drop i = [s.getD i 0] := by
  have e : s.getD i 0 = s[i] := by simp [List.getD, h]
  rw [List.take_succ_eq_append_getElem h, List.drop_append_of_le_length (by simp; omega), List.drop_eq_nil_of_le (by simp; omega), e]
  rfl
theorem rep_take_len (s : List UInt8) (i : Nat) : (rep (s.take i)).length ≤ 2 * s.length := by
  have h1 := rep_len (s.take i)
  have h2 := List.length_take_le i s
  have h3 : (s.take i).length ≤ s.length := by simp; omega
  omega

set_option maxHeartbeats 1000000 in
theorem text_ct (s : List UInt8) (B : Frag) (hB : MaxLenIn B) (hs : s.length ≤ 1048576) : CtP Tryd.prog 46 [str s] B (str (textL s)) := by
  have hr := rep_len s
  refine CtB.of_body Tryd.func46 rfl (nt := 6) rfl (by kernel_rfl) rfl ?_
  intro N0 w0 R
  refine Cx.seq (fun K1 k1 => ?_)
  refine Cx.region ?_
  refine Lx.y (asg rfl) rfl ?_
  refine Lx.nil ?_
  refine Xx.tn (k1 _ _ _ _ ?_)
  refine Cx.seq (fun K2 k2 => ?_)
  refine Cx.region ?_
  refine Lx.y (mv rfl) rfl ?_
  refine Lx.cp rfl rfl rfl (ReplaceAll_ct _ _ hB hs) rfl ?_
  refine Lx.y (catS rfl rfl (by first | omega | (simp <;> omega))) rfl ?_
  refine Lx.y (asg rfl) rfl ?_
  refine Lx.nil ?_
  refine Xx.tn (k2 _ _ _ _ ?_)
  refine Cx.ret ?_
  exact Xx.rB1 rfl rfl ⟨rfl, rfl⟩ (Frag.le_refl _) rfl

set_option maxHeartbeats 1000000 in
theorem RefText_ct (s : List UInt8) (B : Frag) (hs : s.length ≤ 1048576) : CtP Tryd.prog 66 [str s] B (str (textL s)) := by
  refine CtB.of_body Tryd.func66 rfl (nt := 26) rfl (by kernel_rfl) rfl ?_
  intro N0 w0 R
  refine Cx.seq (fun K1 k1 => ?_)
  refine Cx.region ?_
  refine Lx.y (asg rfl) rfl ?_
  refine Lx.nil ?_
  refine Xx.tn (k1 _ _ _ _ ?_)
  refine Cx.seq (fun K2 k2 => ?_)
  refine Cx.region ?_
  refine Lx.y (asg rfl) rfl ?_
  refine Lx.nil ?_
  refine Xx.tn (k2 _ _ _ _ ?_)
  refine Cx.seq (fun K3 k3 => ?_)
  refine Cx.seq (fun K4 k4 => ?_)
  refine Cx.region ?_
  refine Lx.y (asg rfl) rfl ?_
  refine Lx.nil ?_
  refine Xx.tn (k4 _ _ _ _ ?_)
  refine Cx.block ?_
  refine Cx.loopK (Sub.cons (s := 0) rfl (Sub.cons (s := 2) rfl (Sub.nil _))) (fun m ρ' B' H' => ∃ (i : Nat), (i ≤ s.length) ∧ m = s.length - i ∧ ρ' = [(3, str (rep (s.take i))), (4, i64 i)] ∧ B = B' ∧ R = H') ⟨0, Nat.zero_le _, rfl, rfl, rfl, rfl⟩ (Sub.cons (s := 3) rfl (Sub.cons (s := 4) rfl (Sub.cons (s := 0) rfl (Sub.cons (s := 2) rfl (Sub.nil _))))) ?_
  rintro m ρ' B' H' ⟨i, hi, rfl, rfl, rfl, rfl⟩
  have hrl := rep_take_len s i
  refine Cx.seq (fun K5 k5 => ?_)
  refine Cx.seq (fun K6 k6 => ?_)
  refine Cx.region ?_
  refine Lx.y (mv rfl) rfl ?_
  refine Lx.y (mv rfl) rfl ?_
  refine Lx.y (lenS Tryd.underlying9 rfl) rfl ?_
  refine Lx.y (lss rfl rfl) rfl ?_
  refine Lx.nil ?_
  refine Xx.tn (k6 _ _ _ _ ?_)
  refine Cx.condD rfl (fun h7 => ?_) (fun h7 => ?_)
  · skip
    refine Cx.skip ?_
    refine Xx.tn (k5 _ _ _ _ ?_)
    refine Cx.seq (fun K8 k8 => ?_)
    refine Cx.block ?_
    refine Cx.seq (fun K9 k9 => ?_)
    have hil : i < s.length := by omega
    refine Cx.region ?_
    refine Lx.y (mv rfl) rfl ?_
    refine Lx.y (mv rfl) rfl ?_
    refine Lx.y (mv rfl) rfl ?_
    refine Lx.y (mv rfl) rfl ?_
    refine Lx.y (add rfl rfl (by first | exact wrap64 (by omega) (by omega) | rfl)) rfl ?_
    refine Lx.y (sl3S Tryd.underlying9 rfl rfl rfl (by first | exact Int.toNat_natCast _ | rfl) (by first | exact Int.toNat_natCast _ | rfl) (by omega) (by omega) (by omega)) rfl ?_
    refine Lx.y (catS rfl rfl (by first | omega | (simp <;> omega))) rfl ?_
    refine Lx.y (asg rfl) rfl ?_
    refine Lx.nil ?_
    refine Xx.tn (k9 _ _ _ _ ?_)
    refine Cx.seq (fun K10 k10 => ?_)
    refine Cx.region ?_
    refine Lx.y (mv rfl) rfl ?_
    refine Lx.y (mv rfl) rfl ?_
    refine Lx.y (ixS Tryd.underlying9 rfl rfl (by first | exact Int.toNat_natCast _ | rfl) (by omega) (by omega)) rfl ?_
    refine Lx.y (eqI rfl rfl) rfl ?_
    refine Lx.nil ?_
    refine Xx.tn (k10 _ _ _ _ ?_)
    refine Cx.condD rfl (fun h11 => ?_) (fun h11 => ?_)
    · skip
      have hz : s.getD i 0 = 0 := UInt8.toNat_inj.1 (by have := h11; simp at *; omega)
      refine Cx.region ?_
      refine Lx.y (mv rfl) rfl ?_
      refine Lx.y (catS rfl rfl (by first | omega | (simp <;> omega))) rfl ?_
      refine Lx.y (asg rfl) rfl ?_
      refine Lx.nil ?_
      refine Xx.bn ?_
      refine Xx.tn (k8 _ _ _ _ ?_)
      refine Cx.region ?_
      refine Lx.y (mv rfl) rfl ?_
      refine Lx.y (add rfl rfl (by first | exact wrap64 (by omega) (by omega) | rfl)) rfl ?_
      refine Lx.y (asg rfl) rfl ?_
      refine Lx.nil ?_
      exact Xx.againK ⟨i + 1, by omega, rfl, rfl, rfl, rfl⟩ (by omega) (Sub.consE (s := 3) rfl (by rw [rep_take hil, if_pos hz, one_at hil, hz]; simp) (Sub.cons (s := 4) rfl (Sub.cons (s := 0) rfl (Sub.cons (s := 2) rfl (Sub.nil _)))))
    · skip
      have hz : ¬ s.getD i 0 = 0 := fun e => h11 (by rw [e]; rfl)
      refine Cx.skip ?_
      refine Xx.bn ?_
      refine Xx.tn (k8 _ _ _ _ ?_)
      refine Cx.region ?_
      refine Lx.y (mv rfl) rfl ?_
      refine Lx.y (add rfl rfl (by first | exact wrap64 (by omega) (by omega) | rfl)) rfl ?_
      refine Lx.y (asg rfl) rfl ?_
      refine Lx.nil ?_
      exact Xx.againK ⟨i + 1, by omega, rfl, rfl, rfl, rfl⟩ (by omega) (Sub.consE (s := 3) rfl (by rw [rep_take hil, if_neg hz, one_at hil]) (Sub.cons (s := 4) rfl (Sub.cons (s := 0) rfl (Sub.cons (s := 2) rfl (Sub.nil _)))))
  · skip
    obtain rfl : i = s.length := by omega
    rw [List.take_length]
    have hrs := rep_len s
    refine Cx.exit ?_
    refine Xx.te ?_
    refine Xx.te ?_
    refine Xx.bh ?_
    refine Xx.tn (k3 _ _ _ _ ?_)
    refine Cx.seq (fun K12 k12 => ?_)
    refine Cx.region ?_
    refine Lx.y (mv rfl) rfl ?_
    refine Lx.y (catS rfl rfl (by first | omega | (simp <;> omega))) rfl ?_
    refine Lx.y (asg rfl) rfl ?_
    refine Lx.nil ?_
    refine Xx.tn (k12 _ _ _ _ ?_)
    refine Cx.ret ?_
    exact Xx.rB1 rfl rfl ⟨rfl, rfl⟩ (Frag.le_refl _) rfl
end Ke4
end Go.Proofs.YtfnfkoldifpmhaaDoor
