/-
  slices.Delete of one string; a key dropped from a leaf.
-/
import Derived.Test.YtcoiejmlpinpbaaProg
import Derived.Test.YtcoiejmlpinpbaaSlj
import Derived.Test.YtcoiejmlpinpbaaBtM
namespace Go.Proofs.Ytcoiejmlpinpbaa
open Go.SL Go.RowKit
set_option linter.unusedVariables false
set_option linter.unusedSimpArgs false
set_option maxRecDepth 100000
open BtA BtB BtC BtD BtE BtG BtH BtI BtF BtJ BtK BtL BtM
namespace BtN
theorem sz9 : (Try.prog.info? 9).map (·.size) = some 1 := by kernel_rfl
theorem ti9 : TI Try.prog 9 [str []] 1 16 := TI.of (by kernel_rfl) rfl rfl

set_option maxHeartbeats 4000000 in
theorem Del_row (b i n c : Nat) (xs sp : List Value) (B : Frag) (hi : i < n) (hxl : xs.length = n) (hnc : n ≤ c) (hcl : (xs ++ sp).length = c) (hx1 : xs.all (·.oneCell') = true) (hbd : n ≤ 4611686018427387904) : Ct Try.prog 71 [.slice (some ⟨b, 0, none⟩) n c, i64 (i : Nat), i64 (i + 1 : Nat)] B (row b 9 (xs ++ sp)) (fun v B' H' => v = .slice (some ⟨b, 0, none⟩) (n - 1) c ∧ B' = B ∧ ∃ sp', H' = row b 9 ((xs.take i ++ xs.drop (i + 1)) ++ sp') ∧ ((xs.take i ++ xs.drop (i + 1)) ++ sp').length = c) := by
  have hcl2 := hcl
  rw [List.length_append] at hcl2
  have hT : (xs.take i).length = i := by rw [List.length_take]; omega
  have hD : (xs.drop (i + 1)).length = n - (i + 1) := by rw [List.length_drop]; omega
  have hD1 : (xs.drop (i + 1)).all (·.oneCell') = true := by rw [List.all_eq_true] at hx1 ⊢; exact fun v hv => hx1 v (List.mem_of_mem_drop hv)
  refine Ct.of_body Try.func71 rfl (nt := 33) rfl (by kernel_rfl) rfl ?_
  intro N0 w0 R
  refine Cx.seq (fun K1 k1 => ?_)
  refine Cx.region ?_
  refine Lx.y (asg rfl) rfl ?_
  refine Lx.nil ?_
  refine Xx.tn (k1 _ _ _ _ ?_)
  refine Cx.seq (fun K2 k2 => ?_)
  refine Cx.region ?_
  refine Lx.y (mv rfl) rfl ?_
  refine Lx.y (mv rfl) rfl ?_
  refine Lx.y (mv rfl) rfl ?_
  refine Lx.y (mv rfl) rfl ?_
  refine Lx.y (lenV (ty' := 0) Try.underlying22 rfl) rfl ?_
  refine Lx.y (sl4V Try.underlying22 sz9 rfl rfl rfl rfl (by omega) (by omega) (by omega) (by omega)) rfl ?_
  refine Lx.nil ?_
  refine Xx.tn (k2 _ _ _ _ ?_)
  refine Cx.seq (fun K3 k3 => ?_)
  refine Cx.seq (fun K4 k4 => ?_)
  refine Cx.region ?_
  refine Lx.y (mv rfl) rfl ?_
  refine Lx.y (mv rfl) rfl ?_
  refine Lx.y (eqI rfl rfl) rfl ?_
  refine Lx.nil ?_
  refine Xx.tn (k4 _ _ _ _ ?_)
  refine Cx.condD rfl (fun h5 => ?_) (fun h5 => ?_)
  · skip
    exact absurd h5 (by omega)
  · skip
    refine Cx.skip ?_
    refine Xx.tn (k3 _ _ _ _ ?_)
    refine Cx.seq (fun K6 k6 => ?_)
    refine Cx.region ?_
    refine Lx.y (mv rfl) rfl ?_
    refine Lx.y (lenV (ty' := 0) Try.underlying22 rfl) rfl ?_
    refine Lx.y (asg rfl) rfl ?_
    refine Lx.nil ?_
    refine Xx.tn (k6 _ _ _ _ ?_)
    refine Cx.seq (fun K7 k7 => ?_)
    refine Cx.drawn (by kernel_rfl) ?_
    refine Dx.p (i := 0) rfl (by kernel_rfl) (mv rfl) rfl ?_
    refine Dx.p (i := 1) rfl (by kernel_rfl) (mv rfl) rfl ?_
    refine Dx.p (i := 2) rfl (by kernel_rfl) (sl2V Try.underlying22 sz9 rfl rfl (Int.toNat_natCast _) (by omega) (by omega)) rfl ?_
    refine Dx.p (i := 3) rfl (by kernel_rfl) (mv rfl) rfl ?_
    refine Dx.p (i := 4) rfl (by kernel_rfl) (mv rfl) rfl ?_
    refine Dx.p (i := 5) rfl (by kernel_rfl) (sl1V Try.underlying22 sz9 rfl rfl (Int.toNat_natCast _) (by omega) (by omega)) rfl ?_
    refine Dx.one (i := 6) (by kernel_rfl) ?_
    refine Dstep.o (i := 6) rfl (apR (cs' := (xs.take i ++ xs.drop (i + 1)) ++ (xs ++ sp).drop (i + (n - (i + 1)))) Try.underlying22 Try.underlying22 ti9 rfl rfl (by have := SrcH.sub (N0 := N0) (B := B) (H := row b 9 (xs ++ sp) * R) (c := c) (j := i + 1) (size := 1) (b := b) (by omega : xs.length = n * 1) (by omega) hnc; rw [Nat.mul_one] at this; exact this) (by omega) hD1 (by omega) (by rw [hD, List.length_append]; omega) (by rw [hD, List.take_append_of_le_length (by omega), Nat.zero_add, Nat.mul_one])) rfl (fun v B' H' hΦ hB => ?_)
    obtain ⟨rfl, hBB, rfl⟩ := hΦ
    subst hBB
    rename Frag => B
    clear hB
    rw [show i + (n - (i + 1)) = n - 1 by omega]
    refine ⟨JOk.top, ?_⟩
    refine Dx.p (i := 7) rfl (by kernel_rfl) (asg rfl) rfl ?_
    refine Dx.done (by kernel_rfl) ?_
    refine Xx.tn (k7 _ _ _ _ ?_)
    refine Cx.seq (fun K8 k8 => ?_)
    refine Cx.region ?_
    refine Lx.y (mv rfl) rfl ?_
    refine Lx.y (mv rfl) rfl ?_
    refine Lx.y (lenV (ty' := 0) Try.underlying22 rfl) rfl ?_
    refine Lx.y (mv rfl) rfl ?_
    refine Lx.y (sl3A (n - 1) n Try.underlying22 sz9 rfl rfl rfl rfl rfl (by omega) (by omega) (by omega)) rfl ?_
    refine Lx.o0 (clO Try.underlying22 ti9 rfl (by omega) rfl (by simp only [List.length_append, List.length_drop, hT]; omega)) (fun v B' H' hΦ hB => ?_)
    obtain ⟨rfl, hBB, zz, hzl, rfl⟩ := hΦ
    subst hBB
    rename Frag => B
    clear hB
    refine Lx.nil ?_
    refine Xx.tn (k8 _ _ _ _ ?_)
    refine Cx.seq (fun K9 k9 => ?_)
    refine Cx.region ?_
    refine Lx.y (mv rfl) rfl ?_
    refine Lx.y (asg rfl) rfl ?_
    refine Lx.nil ?_
    refine Xx.tn (k9 _ _ _ _ ?_)
    refine Cx.ret ?_
    have e1 : ((xs.take i ++ xs.drop (i + 1)) ++ (xs ++ sp).drop (n - 1)).take (0 + (n - 1) * 1) = (xs.take i ++ xs.drop (i + 1)) := by rw [List.take_append_of_le_length (by rw [List.length_append, hT, hD]; omega), List.take_of_length_le (by rw [List.length_append, hT, hD]; omega)]
    rw [e1, List.append_assoc]
    exact Xx.ret1 rfl rfl ⟨rfl, rfl, _, rfl, by simp only [List.length_append, List.length_drop, hT, hD, hzl]; omega⟩ (Frag.le_refl _) rfl

theorem Del_ct (A : Option Addr) (i n c : Nat) (xs : List Value) (B : Frag) (hi : i < n) (hxl : xs.length = n) (hx1 : xs.all (·.oneCell') = true) (hbd : n ≤ 4611686018427387904) : Ct Try.prog 71 [.slice A n c, i64 (i : Nat), i64 (i + 1 : Nat)] B (sbuf 9 1 A n c xs) (fun v B' H' => v = .slice A (n - 1) c ∧ B' = B ∧ H' = sbuf 9 1 A (n - 1) c (xs.take i ++ xs.drop (i + 1))) := by
  have h0 := Ct.of_sbuf (P := Try.prog) (f := 71) (args := [.slice A n c, i64 (i : Nat), i64 (i + 1 : Nat)]) (B := B) (et := 9) (size := 1) (n := n) (c := c) (A := A) (xs := xs) (q := 1) (Φ := fun v B' H' => v = .slice A (n - 1) c ∧ B' = B ∧ H' = sbuf 9 1 A (n - 1) c (xs.take i ++ xs.drop (i + 1))) (by omega) ?_ (Go.SL.enters_of Try.func71 rfl (by kernel_rfl))
  · rw [star_one] at h0; exact h0
  · intro b sp hA hx hnc hcl
    subst hA
    rw [one_star]
    have hm := Del_row b i n c xs sp B hi hxl hnc (by omega) hx1 hbd
    refine ⟨hm.1, fun N0 w R s => (hm.2 N0 w R s).mono ?_⟩
    rintro x w' ⟨v, B', _, hx', ⟨rfl, rfl, sp', rfl, hl⟩, hBB, hb, s'⟩
    refine ⟨_, _, _, hx', ⟨rfl, rfl, rfl⟩, hBB, hb, row_sbuf ?_ (by omega) (by omega) s'⟩
    simp only [List.length_append, List.length_take, List.length_drop, hxl]; omega
end BtN
end Go.Proofs.Ytcoiejmlpinpbaa
