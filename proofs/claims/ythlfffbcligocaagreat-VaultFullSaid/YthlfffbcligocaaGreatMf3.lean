/-
  Texts of this seat, one behind the other: VhC, VhD, VhE, VhF.
-/
import Derived.Test.YthlfffbcligocaaGreatProg
import Derived.Test.YthlfffbcligocaaGreatMf2
set_option linter.unusedSimpArgs false
set_option linter.unusedVariables false
namespace Go.Proofs.YthlfffbcligocaaGreat
open Go.SL Go.RowKit
set_option maxRecDepth 100000
open VhA VhB
namespace VhC
theorem sz9 : (Tryz.prog.info? 9).map (·.size) = some 1 := by kernel_rfl
theorem sz104 : (Tryz.prog.info? 104).map (·.size) = some 1 := by kernel_rfl
theorem sz190 : (Tryz.prog.info? 190).map (·.size) = some 8 := by kernel_rfl
theorem sz211 : (Tryz.prog.info? 211).map (·.size) = some 64 := by kernel_rfl
theorem ti190 : TI Tryz.prog 190 [.int .u32 0, .int .u32 0, .int .u32 0, .int .u32 0, .int .u32 0, .int .u32 0, .int .u32 0, .int .u32 0] 8 32 := TI.of (by kernel_rfl) rfl rfl
theorem ti211 : TI Tryz.prog 211 [.int .u32 0, .int .u32 0, .int .u32 0, .int .u32 0, .int .u32 0, .int .u32 0, .int .u32 0, .int .u32 0, .int .u32 0, .int .u32 0, .int .u32 0, .int .u32 0, .int .u32 0, .int .u32 0, .int .u32 0, .int .u32 0, .int .u32 0, .int .u32 0, .int .u32 0, .int .u32 0, .int .u32 0, .int .u32 0, .int .u32 0, .int .u32 0, .int .u32 0, .int .u32 0, .int .u32 0, .int .u32 0, .int .u32 0, .int .u32 0, .int .u32 0, .int .u32 0, .int .u32 0, .int .u32 0, .int .u32 0, .int .u32 0, .int .u32 0, .int .u32 0, .int .u32 0, .int .u32 0, .int .u32 0, .int .u32 0, .int .u32 0, .int .u32 0, .int .u32 0, .int .u32 0, .int .u32 0, .int .u32 0, .int .u32 0, .int .u32 0, .int .u32 0, .int .u32 0, .int .u32 0, .int .u32 0, .int .u32 0, .int .u32 0, .int .u32 0, .int .u32 0, .int .u32 0, .int .u32 0, .int .u32 0, .int .u32 0, .int .u32 0, .int .u32 0] 64 256 := TI.of (by kernel_rfl) rfl rfl
def tW (x w : List (BitVec 32)) (i : Nat) : BitVec 32 := x.getD 7 0 + (rotF (x.getD 4 0) (-6) ^^^ rotF (x.getD 4 0) (-11) ^^^ rotF (x.getD 4 0) (-25)) + ((x.getD 4 0 &&& x.getD 5 0) ^^^ (~~~(x.getD 4 0) &&& x.getD 6 0)) + keysL.getD i 0 + w.getD i 0
def uW (x : List (BitVec 32)) : BitVec 32 := (rotF (x.getD 0 0) (-2) ^^^ rotF (x.getD 0 0) (-13) ^^^ rotF (x.getD 0 0) (-22)) + ((x.getD 0 0 &&& x.getD 1 0) ^^^ (x.getD 0 0 &&& x.getD 2 0) ^^^ (x.getD 1 0 &&& x.getD 2 0))
def shW (x : List (BitVec 32)) : List (BitVec 32) := x.take 1 ++ x.take 7
def mxS (w x : List (BitVec 32)) (i : Nat) : List (BitVec 32) := ((shW x).set 4 ((shW x).getD 4 0 + tW x w i)).set 0 (tW x w i + uW x)
def mxR (w h : List (BitVec 32)) : Nat → List (BitVec 32)
  | 0 => h
  | i + 1 => mxS w (mxR w h i) i
def adR (h x : List (BitVec 32)) : Nat → List (BitVec 32)
  | 0 => x
  | i + 1 => (adR h x i).set i ((adR h x i).getD i 0 + h.getD i 0)
theorem shW_len {x : List (BitVec 32)} (h : x.length = 8) : (shW x).length = 8 := by unfold shW; simp [h]
theorem mxR_len {w h : List (BitVec 32)} (hh : h.length = 8) (i : Nat) : (mxR w h i).length = 8 := by
  induction i with
  | zero => exact hh
  | succ i ih => unfold mxR mxS; rw [List.length_set, List.length_set, shW_len ih]
theorem adR_len {h x : List (BitVec 32)} (hx : x.length = 8) (i : Nat) : (adR h x i).length = 8 := by
  induction i with
  | zero => exact hx
  | succ i ih => unfold adR; rw [List.length_set, ih]
def mixF (h : List (BitVec 32)) (s : List UInt8) : List (BitVec 32) := adR h (mxR (spB s 48) h 64) 8
theorem mixF_len {h : List (BitVec 32)} (hh : h.length = 8) (s : List UInt8) : (mixF h s).length = 8 := adR_len (mxR_len hh 64) 8
theorem w32_app (a b : List (BitVec 32)) : w32s a ++ w32s b = w32s (a ++ b) := by unfold w32s; simp
theorem w32_take (a : List (BitVec 32)) (n : Nat) : (w32s a).take n = w32s (a.take n) := by unfold w32s; simp [List.map_take]
theorem w32_drop (a : List (BitVec 32)) (n : Nat) : (w32s a).drop n = w32s (a.drop n) := by unfold w32s; simp [List.map_drop]
theorem sh_copy {x : List (BitVec 32)} (h : x.length = 8) : (w32s x).take (0 + 1 * 1) ++ w32s (x.take 7) ++ (w32s x).drop (0 + 1 * 1 + (w32s (x.take 7)).length) = w32s (shW x) := by
  rw [w32_len, w32_take, w32_app, w32_drop, w32_app]
  unfold shW
  rw [List.length_take, h, List.drop_of_length_le (i := 0 + 1 * 1 + min 7 8) (by rw [h]; decide), List.append_nil]
set_option maxHeartbeats 4000000 in
theorem Mix_ct (h : List (BitVec 32)) (s : List UInt8) (B : Frag) (hs : s.length = 64) (hh : h.length = 8) : CtP Tryz.prog 122 [.agg (w32s h).toArray, str s] B (.agg (w32s (mixF h s)).toArray) := by
 have hdh : ((w32s h).drop 0).take 8 = w32s h := by rw [List.drop_zero, List.take_of_length_le (by rw [w32_len, hh]; exact Nat.le_refl _)]
 have hlh : (w32s h).length = 8 := by rw [w32_len, hh]
 obtain ⟨w, hw⟩ : ∃ w, w = spB s 48 := ⟨_, rfl⟩
 have hwl : w.length = 64 := by rw [hw]; exact spB_len s 48
 have hkl : keysL.length = 64 := rfl
 have hspr := fun B => spread_ct s B hs
 rw [← hw] at hspr
 have hlw : (w32s w).length = 64 := by rw [w32_len, hwl]
 have hlk : (w32s keysL).length = 64 := by rw [w32_len, hkl]
 have hmx : mixF h s = adR h (mxR w h 64) 8 := by rw [hw]; rfl
 rw [hmx]
 refine CtB.of_body Tryz.func122 rfl (nt := 109) rfl (by kernel_rfl) rfl ?_
 intro N0 w0 R
 refine Cq (fun K1 k1 => ?_)
 refine Cr ?_
 refine Lx.new (boxA rfl) rfl (fun b2 => ?_)
 refine Lx.new (allocO ti190) rfl (fun b4 => ?_)
 refine Lx.nil ?_
 refine Xx.tn (k1 _ _ _ _ ?_)
 refine Cq (fun K2 k2 => ?_)
 refine Cq (fun K3 k3 => ?_)
 refine Cr <| Lx.y (mv rfl) rfl <| Lx.y (lenS U9 rfl) rfl <| Lx.y (Yx.ff (neI rfl rfl) (by rw [hs]; rfl)) rfl <| Lx.nil <| ?_
 refine Xx.tn (k3 _ _ _ _ ?_)
 refine Cx.condF rfl <| Cx.skip <| ?_
 refine Xx.tn (k2 _ _ _ _ ?_)
 refine Cx.cutK (ds' := []) (Sc 0 rfl (Sc 1 rfl (Sc 2 rfl (Sc 4 rfl (Sc 14 rfl (Sc 15 rfl (Sc 16 rfl (Sub.nil _)))))))) (fun ρ' B' H' => ∃ b5 b6 b7, ρ' = [(5, .pointer (some ⟨b5, 0, none⟩)), (6, .pointer (some ⟨b6, 0, none⟩)), (7, .pointer (some ⟨b7, 0, none⟩))] ∧ B = B' ∧ row b7 190 (w32s h) * (row b5 211 (w32s w) * (row b6 211 (w32s keysL) * (row b2 190 (w32s h) * (row b4 190 (w32s (List.replicate 8 0)) * R)))) = H') ?_ ?_
 ·
  refine Cx.drawn (by kernel_rfl) ?_
  refine Dx.p (i := 0) rfl (by kernel_rfl) (mv rfl) rfl ?_
  refine Dx.r (i := 3) rfl (by kernel_rfl) (ldA U190 rfl sz190 rfl (Co (n := 8) Pe hdh) hlh) rfl ?_
  refine Dx.four (i := 1) (j := 4) (l := 5) (m := 6) (by kernel_rfl) ?_ ?_ ?_ ?_
  ·
   refine Dstep.o (i := 1) rfl (Ox.cb rfl rfl rfl (hspr _)) rfl (fun v B' H' hΦ hB => ?_)
   obtain ⟨rfl, rfl, Y⟩ := hΦ; have E := Y.symm; subst E; clear hB
   refine ⟨Jy (Jt) (ldA U190 rfl sz190 rfl (Co (n := 8) Pe hdh) hlh), ?_⟩
   refine Dx.four (i := 2) (j := 4) (l := 5) (m := 6) (by kernel_rfl) ?_ ?_ ?_ ?_
   ·
    refine Dstep.o (i := 2) rfl (Ox.cb rfl rfl rfl (keys_ct _)) rfl (fun v B' H' hΦ hB => ?_)
    obtain ⟨rfl, rfl, Y⟩ := hΦ; have E := Y.symm; subst E; clear hB
    refine ⟨Jy (Jt) (ldA U190 rfl sz190 rfl (Co (n := 8) Pe hdh) hlh), ?_⟩
    refine Dx.three (i := 4) (j := 5) (l := 6) (by kernel_rfl) ?_ ?_ ?_
    ·
     refine Dstep.o (i := 4) rfl (allocO ti211) rfl (fun v B' H' hΦ hB => ?_)
     obtain ⟨b5, rfl, Y, rfl⟩ := hΦ; have E := Y.symm; subst E; clear hB
     refine ⟨Jy (Jt) (ldA U190 rfl sz190 rfl (Co (n := 8) Pe hdh) hlh), ?_⟩
     refine Dx.two (i := 5) (j := 6) (by kernel_rfl) ?_ ?_
     ·
      refine Dstep.o (i := 5) rfl (allocO ti211) rfl (fun v B' H' hΦ hB => ?_)
      obtain ⟨b6, rfl, Y, rfl⟩ := hΦ; have E := Y.symm; subst E; clear hB
      refine ⟨Jy (Jt) (ldA U190 rfl sz190 rfl (Co (n := 8) Pe hdh) hlh), ?_⟩
      refine Dx.one (i := 6) (by kernel_rfl) ?_
      refine Dstep.o (i := 6) rfl (allocO ti190) rfl (fun v B' H' hΦ hB => ?_)
      obtain ⟨b7, rfl, Y, rfl⟩ := hΦ; have E := Y.symm; subst E; clear hB
      refine ⟨Jy (Jt) (ldA U190 rfl sz190 rfl (Co (n := 8) Pe hdh) hlh), ?_⟩
      refine Dx.one (i := 7) (by kernel_rfl) ?_
      refine Dstep.o0 (i := 7) rfl (stA (d := .bool) (cs' := w32s w) sz211 rfl rfl hlw (w32_all w) (by rw [w32_len, hwl]; decide) (st_full (by rw [hlw]; rfl))) (fun v B' H' hΦ hB => ?_)
      obtain ⟨Y, rfl⟩ := hΦ; have E := Y.symm; subst E; clear hB v
      refine ⟨Jy (Jt) (ldA U190 rfl sz190 rfl (Co (n := 8) Pe hdh) hlh), ?_⟩
      refine Dx.one (i := 8) (by kernel_rfl) ?_
      refine Dstep.o0 (i := 8) rfl (stA (d := .bool) (cs' := w32s keysL) sz211 rfl rfl hlk (w32_all keysL) (by rw [w32_len, hkl]; decide) (st_full (by rw [hlk]; rfl))) (fun v B' H' hΦ hB => ?_)
      obtain ⟨Y, rfl⟩ := hΦ; have E := Y.symm; subst E; clear hB v
      refine ⟨Jy (Jt) (ldA U190 rfl sz190 rfl (Co (n := 8) Pe hdh) hlh), ?_⟩
      refine Dx.one (i := 9) (by kernel_rfl) ?_
      refine Dstep.o0 (i := 9) rfl (stA (d := .bool) (cs' := w32s h) sz190 rfl rfl hlh (w32_all h) (by rw [w32_len, hh]; decide) (st_full (by rw [hlh]; rfl))) (fun v B' H' hΦ hB => ?_)
      obtain ⟨Y, rfl⟩ := hΦ; have E := Y.symm; subst E; clear hB v
      refine ⟨Je (Jt) (by kernel_rfl), ?_⟩
      refine Dx.done (by kernel_rfl) ?_
      exact Xx.mkK (⟨_, _, _, rfl, rfl, by ac_rfl⟩) (Sc 5 rfl (Sc 6 rfl (Sc 7 rfl (Sc 0 rfl (Sc 1 rfl (Sc 2 rfl (Sc 4 rfl (Sc 14 rfl (Sc 15 rfl (Sc 16 rfl (Sub.nil _)))))))))))
     refine Dstep.o (i := 6) rfl (allocO ti190) rfl (fun v B' H' hΦ hB => ?_)
     obtain ⟨b7, rfl, Y, rfl⟩ := hΦ; have E := Y.symm; subst E; clear hB
     refine ⟨Jy (Jt) (ldA U190 rfl sz190 rfl (Co (n := 8) Pe hdh) hlh), ?_⟩
     refine Dx.one (i := 5) (by kernel_rfl) ?_
     refine Dstep.o (i := 5) rfl (allocO ti211) rfl (fun v B' H' hΦ hB => ?_)
     obtain ⟨b6, rfl, Y, rfl⟩ := hΦ; have E := Y.symm; subst E; clear hB
     refine ⟨Jy (Jt) (ldA U190 rfl sz190 rfl (Co (n := 8) Pe hdh) hlh), ?_⟩
     refine Dx.one (i := 7) (by kernel_rfl) ?_
     refine Dstep.o0 (i := 7) rfl (stA (d := .bool) (cs' := w32s w) sz211 rfl rfl hlw (w32_all w) (by rw [w32_len, hwl]; decide) (st_full (by rw [hlw]; rfl))) (fun v B' H' hΦ hB => ?_)
     obtain ⟨Y, rfl⟩ := hΦ; have E := Y.symm; subst E; clear hB v
     refine ⟨Jy (Jt) (ldA U190 rfl sz190 rfl (Co (n := 8) Pe hdh) hlh), ?_⟩
     refine Dx.one (i := 8) (by kernel_rfl) ?_
     refine Dstep.o0 (i := 8) rfl (stA (d := .bool) (cs' := w32s keysL) sz211 rfl rfl hlk (w32_all keysL) (by rw [w32_len, hkl]; decide) (st_full (by rw [hlk]; rfl))) (fun v B' H' hΦ hB => ?_)
     obtain ⟨Y, rfl⟩ := hΦ; have E := Y.symm; subst E; clear hB v
     refine ⟨Jy (Jt) (ldA U190 rfl sz190 rfl (Co (n := 8) Pe hdh) hlh), ?_⟩
     refine Dx.one (i := 9) (by kernel_rfl) ?_
     refine Dstep.o0 (i := 9) rfl (stA (d := .bool) (cs' := w32s h) sz190 rfl rfl hlh (w32_all h) (by rw [w32_len, hh]; decide) (st_full (by rw [hlh]; rfl))) (fun v B' H' hΦ hB => ?_)
     obtain ⟨Y, rfl⟩ := hΦ; have E := Y.symm; subst E; clear hB v
     refine ⟨Je (Jt) (by kernel_rfl), ?_⟩
     refine Dx.done (by kernel_rfl) ?_
     exact Xx.mkK (⟨_, _, _, rfl, rfl, by ac_rfl⟩) (Sc 5 rfl (Sc 6 rfl (Sc 7 rfl (Sc 0 rfl (Sc 1 rfl (Sc 2 rfl (Sc 4 rfl (Sc 14 rfl (Sc 15 rfl (Sc 16 rfl (Sub.nil _)))))))))))
    ·
     refine Dstep.o (i := 5) rfl (allocO ti211) rfl (fun v B' H' hΦ hB => ?_)
     obtain ⟨b6, rfl, Y, rfl⟩ := hΦ; have E := Y.symm; subst E; clear hB
     refine ⟨Jy (Jt) (ldA U190 rfl sz190 rfl (Co (n := 8) Pe hdh) hlh), ?_⟩
     refine Dx.two (i := 4) (j := 6) (by kernel_rfl) ?_ ?_
     ·
      refine Dstep.o (i := 4) rfl (allocO ti211) rfl (fun v B' H' hΦ hB => ?_)
      obtain ⟨b5, rfl, Y, rfl⟩ := hΦ; have E := Y.symm; subst E; clear hB
      refine ⟨Jy (Jt) (ldA U190 rfl sz190 rfl (Co (n := 8) Pe hdh) hlh), ?_⟩
      refine Dx.one (i := 6) (by kernel_rfl) ?_
      refine Dstep.o (i := 6) rfl (allocO ti190) rfl (fun v B' H' hΦ hB => ?_)
      obtain ⟨b7, rfl, Y, rfl⟩ := hΦ; have E := Y.symm; subst E; clear hB
      refine ⟨Jy (Jt) (ldA U190 rfl sz190 rfl (Co (n := 8) Pe hdh) hlh), ?_⟩
      refine Dx.one (i := 7) (by kernel_rfl) ?_
      refine Dstep.o0 (i := 7) rfl (stA (d := .bool) (cs' := w32s w) sz211 rfl rfl hlw (w32_all w) (by rw [w32_len, hwl]; decide) (st_full (by rw [hlw]; rfl))) (fun v B' H' hΦ hB => ?_)
      obtain ⟨Y, rfl⟩ := hΦ; have E := Y.symm; subst E; clear hB v
      refine ⟨Jy (Jt) (ldA U190 rfl sz190 rfl (Co (n := 8) Pe hdh) hlh), ?_⟩
      refine Dx.one (i := 8) (by kernel_rfl) ?_
      refine Dstep.o0 (i := 8) rfl (stA (d := .bool) (cs' := w32s keysL) sz211 rfl rfl hlk (w32_all keysL) (by rw [w32_len, hkl]; decide) (st_full (by rw [hlk]; rfl))) (fun v B' H' hΦ hB => ?_)
      obtain ⟨Y, rfl⟩ := hΦ; have E := Y.symm; subst E; clear hB v
      refine ⟨Jy (Jt) (ldA U190 rfl sz190 rfl (Co (n := 8) Pe hdh) hlh), ?_⟩
      refine Dx.one (i := 9) (by kernel_rfl) ?_
      refine Dstep.o0 (i := 9) rfl (stA (d := .bool) (cs' := w32s h) sz190 rfl rfl hlh (w32_all h) (by rw [w32_len, hh]; decide) (st_full (by rw [hlh]; rfl))) (fun v B' H' hΦ hB => ?_)
      obtain ⟨Y, rfl⟩ := hΦ; have E := Y.symm; subst E; clear hB v
      refine ⟨Je (Jt) (by kernel_rfl), ?_⟩
      refine Dx.done (by kernel_rfl) ?_
      exact Xx.mkK (⟨_, _, _, rfl, rfl, by ac_rfl⟩) (Sc 5 rfl (Sc 6 rfl (Sc 7 rfl (Sc 0 rfl (Sc 1 rfl (Sc 2 rfl (Sc 4 rfl (Sc 14 rfl (Sc 15 rfl (Sc 16 rfl (Sub.nil _)))))))))))
     refine Dstep.o (i := 6) rfl (allocO ti190) rfl (fun v B' H' hΦ hB => ?_)
     obtain ⟨b7, rfl, Y, rfl⟩ := hΦ; have E := Y.symm; subst E; clear hB
     refine ⟨Jy (Jt) (ldA U190 rfl sz190 rfl (Co (n := 8) Pe hdh) hlh), ?_⟩
     refine Dx.one (i := 4) (by kernel_rfl) ?_
     refine Dstep.o (i := 4) rfl (allocO ti211) rfl (fun v B' H' hΦ hB => ?_)
     obtain ⟨b5, rfl, Y, rfl⟩ := hΦ; have E := Y.symm; subst E; clear hB
     refine ⟨Jy (Jt) (ldA U190 rfl sz190 rfl (Co (n := 8) Pe hdh) hlh), ?_⟩
     refine Dx.one (i := 7) (by kernel_rfl) ?_
     refine Dstep.o0 (i := 7) rfl (stA (d := .bool) (cs' := w32s w) sz211 rfl rfl hlw (w32_all w) (by rw [w32_len, hwl]; decide) (st_full (by rw [hlw]; rfl))) (fun v B' H' hΦ hB => ?_)
     obtain ⟨Y, rfl⟩ := hΦ; have E := Y.symm; subst E; clear hB v
     refine ⟨Jy (Jt) (ldA U190 rfl sz190 rfl (Co (n := 8) Pe hdh) hlh), ?_⟩
     refine Dx.one (i := 8) (by kernel_rfl) ?_
     refine Dstep.o0 (i := 8) rfl (stA (d := .bool) (cs' := w32s keysL) sz211 rfl rfl hlk (w32_all keysL) (by rw [w32_len, hkl]; decide) (st_full (by rw [hlk]; rfl))) (fun v B' H' hΦ hB => ?_)
     obtain ⟨Y, rfl⟩ := hΦ; have E := Y.symm; subst E; clear hB v
     refine ⟨Jy (Jt) (ldA U190 rfl sz190 rfl (Co (n := 8) Pe hdh) hlh), ?_⟩
     refine Dx.one (i := 9) (by kernel_rfl) ?_
     refine Dstep.o0 (i := 9) rfl (stA (d := .bool) (cs' := w32s h) sz190 rfl rfl hlh (w32_all h) (by rw [w32_len, hh]; decide) (st_full (by rw [hlh]; rfl))) (fun v B' H' hΦ hB => ?_)
     obtain ⟨Y, rfl⟩ := hΦ; have E := Y.symm; subst E; clear hB v
     refine ⟨Je (Jt) (by kernel_rfl), ?_⟩
     refine Dx.done (by kernel_rfl) ?_
     exact Xx.mkK (⟨_, _, _, rfl, rfl, by ac_rfl⟩) (Sc 5 rfl (Sc 6 rfl (Sc 7 rfl (Sc 0 rfl (Sc 1 rfl (Sc 2 rfl (Sc 4 rfl (Sc 14 rfl (Sc 15 rfl (Sc 16 rfl (Sub.nil _)))))))))))
    refine Dstep.o (i := 6) rfl (allocO ti190) rfl (fun v B' H' hΦ hB => ?_)
    obtain ⟨b7, rfl, Y, rfl⟩ := hΦ; have E := Y.symm; subst E; clear hB
    refine ⟨Jy (Jt) (ldA U190 rfl sz190 rfl (Co (n := 8) Pe hdh) hlh), ?_⟩
    refine Dx.two (i := 4) (j := 5) (by kernel_rfl) ?_ ?_
    ·
     refine Dstep.o (i := 4) rfl (allocO ti211) rfl (fun v B' H' hΦ hB => ?_)
     obtain ⟨b5, rfl, Y, rfl⟩ := hΦ; have E := Y.symm; subst E; clear hB
     refine ⟨Jy (Jt) (ldA U190 rfl sz190 rfl (Co (n := 8) Pe hdh) hlh), ?_⟩
     refine Dx.one (i := 5) (by kernel_rfl) ?_
     refine Dstep.o (i := 5) rfl (allocO ti211) rfl (fun v B' H' hΦ hB => ?_)
     obtain ⟨b6, rfl, Y, rfl⟩ := hΦ; have E := Y.symm; subst E; clear hB
     refine ⟨Jy (Jt) (ldA U190 rfl sz190 rfl (Co (n := 8) Pe hdh) hlh), ?_⟩
     refine Dx.one (i := 7) (by kernel_rfl) ?_
     refine Dstep.o0 (i := 7) rfl (stA (d := .bool) (cs' := w32s w) sz211 rfl rfl hlw (w32_all w) (by rw [w32_len, hwl]; decide) (st_full (by rw [hlw]; rfl))) (fun v B' H' hΦ hB => ?_)
     obtain ⟨Y, rfl⟩ := hΦ; have E := Y.symm; subst E; clear hB v
     refine ⟨Jy (Jt) (ldA U190 rfl sz190 rfl (Co (n := 8) Pe hdh) hlh), ?_⟩
     refine Dx.one (i := 8) (by kernel_rfl) ?_
     refine Dstep.o0 (i := 8) rfl (stA (d := .bool) (cs' := w32s keysL) sz211 rfl rfl hlk (w32_all keysL) (by rw [w32_len, hkl]; decide) (st_full (by rw [hlk]; rfl))) (fun v B' H' hΦ hB => ?_)
     obtain ⟨Y, rfl⟩ := hΦ; have E := Y.symm; subst E; clear hB v
     refine ⟨Jy (Jt) (ldA U190 rfl sz190 rfl (Co (n := 8) Pe hdh) hlh), ?_⟩
     refine Dx.one (i := 9) (by kernel_rfl) ?_
     refine Dstep.o0 (i := 9) rfl (stA (d := .bool) (cs' := w32s h) sz190 rfl rfl hlh (w32_all h) (by rw [w32_len, hh]; decide) (st_full (by rw [hlh]; rfl))) (fun v B' H' hΦ hB => ?_)
     obtain ⟨Y, rfl⟩ := hΦ; have E := Y.symm; subst E; clear hB v
     refine ⟨Je (Jt) (by kernel_rfl), ?_⟩
     refine Dx.done (by kernel_rfl) ?_
     exact Xx.mkK (⟨_, _, _, rfl, rfl, by ac_rfl⟩) (Sc 5 rfl (Sc 6 rfl (Sc 7 rfl (Sc 0 rfl (Sc 1 rfl (Sc 2 rfl (Sc 4 rfl (Sc 14 rfl (Sc 15 rfl (Sc 16 rfl (Sub.nil _)))))))))))
    refine Dstep.o (i := 5) rfl (allocO ti211) rfl (fun v B' H' hΦ hB => ?_)
    obtain ⟨b6, rfl, Y, rfl⟩ := hΦ; have E := Y.symm; subst E; clear hB
    refine ⟨Jy (Jt) (ldA U190 rfl sz190 rfl (Co (n := 8) Pe hdh) hlh), ?_⟩
    refine Dx.one (i := 4) (by kernel_rfl) ?_
    refine Dstep.o (i := 4) rfl (allocO ti211) rfl (fun v B' H' hΦ hB => ?_)
    obtain ⟨b5, rfl, Y, rfl⟩ := hΦ; have E := Y.symm; subst E; clear hB
    refine ⟨Jy (Jt) (ldA U190 rfl sz190 rfl (Co (n := 8) Pe hdh) hlh), ?_⟩
    refine Dx.one (i := 7) (by kernel_rfl) ?_
    refine Dstep.o0 (i := 7) rfl (stA (d := .bool) (cs' := w32s w) sz211 rfl rfl hlw (w32_all w) (by rw [w32_len, hwl]; decide) (st_full (by rw [hlw]; rfl))) (fun v B' H' hΦ hB => ?_)
    obtain ⟨Y, rfl⟩ := hΦ; have E := Y.symm; subst E; clear hB v
    refine ⟨Jy (Jt) (ldA U190 rfl sz190 rfl (Co (n := 8) Pe hdh) hlh), ?_⟩
    refine Dx.one (i := 8) (by kernel_rfl) ?_
    refine Dstep.o0 (i := 8) rfl (stA (d := .bool) (cs' := w32s keysL) sz211 rfl rfl hlk (w32_all keysL) (by rw [w32_len, hkl]; decide) (st_full (by rw [hlk]; rfl))) (fun v B' H' hΦ hB => ?_)
    obtain ⟨Y, rfl⟩ := hΦ; have E := Y.symm; subst E; clear hB v
    refine ⟨Jy (Jt) (ldA U190 rfl sz190 rfl (Co (n := 8) Pe hdh) hlh), ?_⟩
    refine Dx.one (i := 9) (by kernel_rfl) ?_
    refine Dstep.o0 (i := 9) rfl (stA (d := .bool) (cs' := w32s h) sz190 rfl rfl hlh (w32_all h) (by rw [w32_len, hh]; decide) (st_full (by rw [hlh]; rfl))) (fun v B' H' hΦ hB => ?_)
    obtain ⟨Y, rfl⟩ := hΦ; have E := Y.symm; subst E; clear hB v
    refine ⟨Je (Jt) (by kernel_rfl), ?_⟩
    refine Dx.done (by kernel_rfl) ?_
    exact Xx.mkK (⟨_, _, _, rfl, rfl, by ac_rfl⟩) (Sc 5 rfl (Sc 6 rfl (Sc 7 rfl (Sc 0 rfl (Sc 1 rfl (Sc 2 rfl (Sc 4 rfl (Sc 14 rfl (Sc 15 rfl (Sc 16 rfl (Sub.nil _)))))))))))
   ·
    refine Dstep.o (i := 4) rfl (allocO ti211) rfl (fun v B' H' hΦ hB => ?_)
    obtain ⟨b5, rfl, Y, rfl⟩ := hΦ; have E := Y.symm; subst E; clear hB
    refine ⟨Jy (Jt) (ldA U190 rfl sz190 rfl (Co (n := 8) Pe hdh) hlh), ?_⟩
    refine Dx.three (i := 2) (j := 5) (l := 6) (by kernel_rfl) ?_ ?_ ?_
    ·
     refine Dstep.o (i := 2) rfl (Ox.cb rfl rfl rfl (keys_ct _)) rfl (fun v B' H' hΦ hB => ?_)
     obtain ⟨rfl, rfl, Y⟩ := hΦ; have E := Y.symm; subst E; clear hB
     refine ⟨Jy (Jt) (ldA U190 rfl sz190 rfl (Co (n := 8) Pe hdh) hlh), ?_⟩
     refine Dx.two (i := 5) (j := 6) (by kernel_rfl) ?_ ?_
     ·
      refine Dstep.o (i := 5) rfl (allocO ti211) rfl (fun v B' H' hΦ hB => ?_)
      obtain ⟨b6, rfl, Y, rfl⟩ := hΦ; have E := Y.symm; subst E; clear hB
      refine ⟨Jy (Jt) (ldA U190 rfl sz190 rfl (Co (n := 8) Pe hdh) hlh), ?_⟩
      refine Dx.one (i := 6) (by kernel_rfl) ?_
      refine Dstep.o (i := 6) rfl (allocO ti190) rfl (fun v B' H' hΦ hB => ?_)
      obtain ⟨b7, rfl, Y, rfl⟩ := hΦ; have E := Y.symm; subst E; clear hB
      refine ⟨Jy (Jt) (ldA U190 rfl sz190 rfl (Co (n := 8) Pe hdh) hlh), ?_⟩
      refine Dx.one (i := 7) (by kernel_rfl) ?_
      refine Dstep.o0 (i := 7) rfl (stA (d := .bool) (cs' := w32s w) sz211 rfl rfl hlw (w32_all w) (by rw [w32_len, hwl]; decide) (st_full (by rw [hlw]; rfl))) (fun v B' H' hΦ hB => ?_)
      obtain ⟨Y, rfl⟩ := hΦ; have E := Y.symm; subst E; clear hB v
      refine ⟨Jy (Jt) (ldA U190 rfl sz190 rfl (Co (n := 8) Pe hdh) hlh), ?_⟩
      refine Dx.one (i := 8) (by kernel_rfl) ?_
      refine Dstep.o0 (i := 8) rfl (stA (d := .bool) (cs' := w32s keysL) sz211 rfl rfl hlk (w32_all keysL) (by rw [w32_len, hkl]; decide) (st_full (by rw [hlk]; rfl))) (fun v B' H' hΦ hB => ?_)
      obtain ⟨Y, rfl⟩ := hΦ; have E := Y.symm; subst E; clear hB v
      refine ⟨Jy (Jt) (ldA U190 rfl sz190 rfl (Co (n := 8) Pe hdh) hlh), ?_⟩
      refine Dx.one (i := 9) (by kernel_rfl) ?_
      refine Dstep.o0 (i := 9) rfl (stA (d := .bool) (cs' := w32s h) sz190 rfl rfl hlh (w32_all h) (by rw [w32_len, hh]; decide) (st_full (by rw [hlh]; rfl))) (fun v B' H' hΦ hB => ?_)
      obtain ⟨Y, rfl⟩ := hΦ; have E := Y.symm; subst E; clear hB v
      refine ⟨Je (Jt) (by kernel_rfl), ?_⟩
      refine Dx.done (by kernel_rfl) ?_
      exact Xx.mkK (⟨_, _, _, rfl, rfl, by ac_rfl⟩) (Sc 5 rfl (Sc 6 rfl (Sc 7 rfl (Sc 0 rfl (Sc 1 rfl (Sc 2 rfl (Sc 4 rfl (Sc 14 rfl (Sc 15 rfl (Sc 16 rfl (Sub.nil _)))))))))))
     refine Dstep.o (i := 6) rfl (allocO ti190) rfl (fun v B' H' hΦ hB => ?_)
     obtain ⟨b7, rfl, Y, rfl⟩ := hΦ; have E := Y.symm; subst E; clear hB
     refine ⟨Jy (Jt) (ldA U190 rfl sz190 rfl (Co (n := 8) Pe hdh) hlh), ?_⟩
     refine Dx.one (i := 5) (by kernel_rfl) ?_
     refine Dstep.o (i := 5) rfl (allocO ti211) rfl (fun v B' H' hΦ hB => ?_)
     obtain ⟨b6, rfl, Y, rfl⟩ := hΦ; have E := Y.symm; subst E; clear hB
     refine ⟨Jy (Jt) (ldA U190 rfl sz190 rfl (Co (n := 8) Pe hdh) hlh), ?_⟩
     refine Dx.one (i := 7) (by kernel_rfl) ?_
     refine Dstep.o0 (i := 7) rfl (stA (d := .bool) (cs' := w32s w) sz211 rfl rfl hlw (w32_all w) (by rw [w32_len, hwl]; decide) (st_full (by rw [hlw]; rfl))) (fun v B' H' hΦ hB => ?_)
     obtain ⟨Y, rfl⟩ := hΦ; have E := Y.symm; subst E; clear hB v
     refine ⟨Jy (Jt) (ldA U190 rfl sz190 rfl (Co (n := 8) Pe hdh) hlh), ?_⟩
     refine Dx.one (i := 8) (by kernel_rfl) ?_
     refine Dstep.o0 (i := 8) rfl (stA (d := .bool) (cs' := w32s keysL) sz211 rfl rfl hlk (w32_all keysL) (by rw [w32_len, hkl]; decide) (st_full (by rw [hlk]; rfl))) (fun v B' H' hΦ hB => ?_)
     obtain ⟨Y, rfl⟩ := hΦ; have E := Y.symm; subst E; clear hB v
     refine ⟨Jy (Jt) (ldA U190 rfl sz190 rfl (Co (n := 8) Pe hdh) hlh), ?_⟩
     refine Dx.one (i := 9) (by kernel_rfl) ?_
     refine Dstep.o0 (i := 9) rfl (stA (d := .bool) (cs' := w32s h) sz190 rfl rfl hlh (w32_all h) (by rw [w32_len, hh]; decide) (st_full (by rw [hlh]; rfl))) (fun v B' H' hΦ hB => ?_)
     obtain ⟨Y, rfl⟩ := hΦ; have E := Y.symm; subst E; clear hB v
     refine ⟨Je (Jt) (by kernel_rfl), ?_⟩
     refine Dx.done (by kernel_rfl) ?_
     exact Xx.mkK (⟨_, _, _, rfl, rfl, by ac_rfl⟩) (Sc 5 rfl (Sc 6 rfl (Sc 7 rfl (Sc 0 rfl (Sc 1 rfl (Sc 2 rfl (Sc 4 rfl (Sc 14 rfl (Sc 15 rfl (Sc 16 rfl (Sub.nil _)))))))))))
    ·
     refine Dstep.o (i := 5) rfl (allocO ti211) rfl (fun v B' H' hΦ hB => ?_)
     obtain ⟨b6, rfl, Y, rfl⟩ := hΦ; have E := Y.symm; subst E; clear hB
     refine ⟨Jy (Jt) (ldA U190 rfl sz190 rfl (Co (n := 8) Pe hdh) hlh), ?_⟩
     refine Dx.two (i := 2) (j := 6) (by kernel_rfl) ?_ ?_
     ·
      refine Dstep.o (i := 2) rfl (Ox.cb rfl rfl rfl (keys_ct _)) rfl (fun v B' H' hΦ hB => ?_)
      obtain ⟨rfl, rfl, Y⟩ := hΦ; have E := Y.symm; subst E; clear hB
      refine ⟨Jy (Jt) (ldA U190 rfl sz190 rfl (Co (n := 8) Pe hdh) hlh), ?_⟩
      refine Dx.one (i := 6) (by kernel_rfl) ?_
      refine Dstep.o (i := 6) rfl (allocO ti190) rfl (fun v B' H' hΦ hB => ?_)
      obtain ⟨b7, rfl, Y, rfl⟩ := hΦ; have E := Y.symm; subst E; clear hB
      refine ⟨Jy (Jt) (ldA U190 rfl sz190 rfl (Co (n := 8) Pe hdh) hlh), ?_⟩
      refine Dx.one (i := 7) (by kernel_rfl) ?_
      refine Dstep.o0 (i := 7) rfl (stA (d := .bool) (cs' := w32s w) sz211 rfl rfl hlw (w32_all w) (by rw [w32_len, hwl]; decide) (st_full (by rw [hlw]; rfl))) (fun v B' H' hΦ hB => ?_)
      obtain ⟨Y, rfl⟩ := hΦ; have E := Y.symm; subst E; clear hB v
      refine ⟨Jy (Jt) (ldA U190 rfl sz190 rfl (Co (n := 8) Pe hdh) hlh), ?_⟩
      refine Dx.one (i := 8) (by kernel_rfl) ?_
      refine Dstep.o0 (i := 8) rfl (stA (d := .bool) (cs' := w32s keysL) sz211 rfl rfl hlk (w32_all keysL) (by rw [w32_len, hkl]; decide) (st_full (by rw [hlk]; rfl))) (fun v B' H' hΦ hB => ?_)
      obtain ⟨Y, rfl⟩ := hΦ; have E := Y.symm; subst E; clear hB v
      refine ⟨Jy (Jt) (ldA U190 rfl sz190 rfl (Co (n := 8) Pe hdh) hlh), ?_⟩
      refine Dx.one (i := 9) (by kernel_rfl) ?_
      refine Dstep.o0 (i := 9) rfl (stA (d := .bool) (cs' := w32s h) sz190 rfl rfl hlh (w32_all h) (by rw [w32_len, hh]; decide) (st_full (by rw [hlh]; rfl))) (fun v B' H' hΦ hB => ?_)
      obtain ⟨Y, rfl⟩ := hΦ; have E := Y.symm; subst E; clear hB v
      refine ⟨Je (Jt) (by kernel_rfl), ?_⟩
      refine Dx.done (by kernel_rfl) ?_
      exact Xx.mkK (⟨_, _, _, rfl, rfl, by ac_rfl⟩) (Sc 5 rfl (Sc 6 rfl (Sc 7 rfl (Sc 0 rfl (Sc 1 rfl (Sc 2 rfl (Sc 4 rfl (Sc 14 rfl (Sc 15 rfl (Sc 16 rfl (Sub.nil _)))))))))))
     refine Dstep.o (i := 6) rfl (allocO ti190) rfl (fun v B' H' hΦ hB => ?_)
     obtain ⟨b7, rfl, Y, rfl⟩ := hΦ; have E := Y.symm; subst E; clear hB
     refine ⟨Jy (Jt) (ldA U190 rfl sz190 rfl (Co (n := 8) Pe hdh) hlh), ?_⟩
     refine Dx.one (i := 2) (by kernel_rfl) ?_
     refine Dstep.o (i := 2) rfl (Ox.cb rfl rfl rfl (keys_ct _)) rfl (fun v B' H' hΦ hB => ?_)
     obtain ⟨rfl, rfl, Y⟩ := hΦ; have E := Y.symm; subst E; clear hB
     refine ⟨Jy (Jt) (ldA U190 rfl sz190 rfl (Co (n := 8) Pe hdh) hlh), ?_⟩
     refine Dx.one (i := 7) (by kernel_rfl) ?_
     refine Dstep.o0 (i := 7) rfl (stA (d := .bool) (cs' := w32s w) sz211 rfl rfl hlw (w32_all w) (by rw [w32_len, hwl]; decide) (st_full (by rw [hlw]; rfl))) (fun v B' H' hΦ hB => ?_)
     obtain ⟨Y, rfl⟩ := hΦ; have E := Y.symm; subst E; clear hB v
     refine ⟨Jy (Jt) (ldA U190 rfl sz190 rfl (Co (n := 8) Pe hdh) hlh), ?_⟩
     refine Dx.one (i := 8) (by kernel_rfl) ?_
     refine Dstep.o0 (i := 8) rfl (stA (d := .bool) (cs' := w32s keysL) sz211 rfl rfl hlk (w32_all keysL) (by rw [w32_len, hkl]; decide) (st_full (by rw [hlk]; rfl))) (fun v B' H' hΦ hB => ?_)
     obtain ⟨Y, rfl⟩ := hΦ; have E := Y.symm; subst E; clear hB v
     refine ⟨Jy (Jt) (ldA U190 rfl sz190 rfl (Co (n := 8) Pe hdh) hlh), ?_⟩
     refine Dx.one (i := 9) (by kernel_rfl) ?_
     refine Dstep.o0 (i := 9) rfl (stA (d := .bool) (cs' := w32s h) sz190 rfl rfl hlh (w32_all h) (by rw [w32_len, hh]; decide) (st_full (by rw [hlh]; rfl))) (fun v B' H' hΦ hB => ?_)
     obtain ⟨Y, rfl⟩ := hΦ; have E := Y.symm; subst E; clear hB v
     refine ⟨Je (Jt) (by kernel_rfl), ?_⟩
     refine Dx.done (by kernel_rfl) ?_
     exact Xx.mkK (⟨_, _, _, rfl, rfl, by ac_rfl⟩) (Sc 5 rfl (Sc 6 rfl (Sc 7 rfl (Sc 0 rfl (Sc 1 rfl (Sc 2 rfl (Sc 4 rfl (Sc 14 rfl (Sc 15 rfl (Sc 16 rfl (Sub.nil _)))))))))))
    refine Dstep.o (i := 6) rfl (allocO ti190) rfl (fun v B' H' hΦ hB => ?_)
    obtain ⟨b7, rfl, Y, rfl⟩ := hΦ; have E := Y.symm; subst E; clear hB
    refine ⟨Jy (Jt) (ldA U190 rfl sz190 rfl (Co (n := 8) Pe hdh) hlh), ?_⟩
    refine Dx.two (i := 2) (j := 5) (by kernel_rfl) ?_ ?_
    ·
     refine Dstep.o (i := 2) rfl (Ox.cb rfl rfl rfl (keys_ct _)) rfl (fun v B' H' hΦ hB => ?_)
     obtain ⟨rfl, rfl, Y⟩ := hΦ; have E := Y.symm; subst E; clear hB
     refine ⟨Jy (Jt) (ldA U190 rfl sz190 rfl (Co (n := 8) Pe hdh) hlh), ?_⟩
     refine Dx.one (i := 5) (by kernel_rfl) ?_
     refine Dstep.o (i := 5) rfl (allocO ti211) rfl (fun v B' H' hΦ hB => ?_)
     obtain ⟨b6, rfl, Y, rfl⟩ := hΦ; have E := Y.symm; subst E; clear hB
     refine ⟨Jy (Jt) (ldA U190 rfl sz190 rfl (Co (n := 8) Pe hdh) hlh), ?_⟩
     refine Dx.one (i := 7) (by kernel_rfl) ?_
     refine Dstep.o0 (i := 7) rfl (stA (d := .bool) (cs' := w32s w) sz211 rfl rfl hlw (w32_all w) (by rw [w32_len, hwl]; decide) (st_full (by rw [hlw]; rfl))) (fun v B' H' hΦ hB => ?_)
     obtain ⟨Y, rfl⟩ := hΦ; have E := Y.symm; subst E; clear hB v
     refine ⟨Jy (Jt) (ldA U190 rfl sz190 rfl (Co (n := 8) Pe hdh) hlh), ?_⟩
     refine Dx.one (i := 8) (by kernel_rfl) ?_
     refine Dstep.o0 (i := 8) rfl (stA (d := .bool) (cs' := w32s keysL) sz211 rfl rfl hlk (w32_all keysL) (by rw [w32_len, hkl]; decide) (st_full (by rw [hlk]; rfl))) (fun v B' H' hΦ hB => ?_)
     obtain ⟨Y, rfl⟩ := hΦ; have E := Y.symm; subst E; clear hB v
     refine ⟨Jy (Jt) (ldA U190 rfl sz190 rfl (Co (n := 8) Pe hdh) hlh), ?_⟩
     refine Dx.one (i := 9) (by kernel_rfl) ?_
     refine Dstep.o0 (i := 9) rfl (stA (d := .bool) (cs' := w32s h) sz190 rfl rfl hlh (w32_all h) (by rw [w32_len, hh]; decide) (st_full (by rw [hlh]; rfl))) (fun v B' H' hΦ hB => ?_)
     obtain ⟨Y, rfl⟩ := hΦ; have E := Y.symm; subst E; clear hB v
     refine ⟨Je (Jt) (by kernel_rfl), ?_⟩
     refine Dx.done (by kernel_rfl) ?_
     exact Xx.mkK (⟨_, _, _, rfl, rfl, by ac_rfl⟩) (Sc 5 rfl (Sc 6 rfl (Sc 7 rfl (Sc 0 rfl (Sc 1 rfl (Sc 2 rfl (Sc 4 rfl (Sc 14 rfl (Sc 15 rfl (Sc 16 rfl (Sub.nil _)))))))))))
    refine Dstep.o (i := 5) rfl (allocO ti211) rfl (fun v B' H' hΦ hB => ?_)
    obtain ⟨b6, rfl, Y, rfl⟩ := hΦ; have E := Y.symm; subst E; clear hB
    refine ⟨Jy (Jt) (ldA U190 rfl sz190 rfl (Co (n := 8) Pe hdh) hlh), ?_⟩
    refine Dx.one (i := 2) (by kernel_rfl) ?_
    refine Dstep.o (i := 2) rfl (Ox.cb rfl rfl rfl (keys_ct _)) rfl (fun v B' H' hΦ hB => ?_)
    obtain ⟨rfl, rfl, Y⟩ := hΦ; have E := Y.symm; subst E; clear hB
    refine ⟨Jy (Jt) (ldA U190 rfl sz190 rfl (Co (n := 8) Pe hdh) hlh), ?_⟩
    refine Dx.one (i := 7) (by kernel_rfl) ?_
    refine Dstep.o0 (i := 7) rfl (stA (d := .bool) (cs' := w32s w) sz211 rfl rfl hlw (w32_all w) (by rw [w32_len, hwl]; decide) (st_full (by rw [hlw]; rfl))) (fun v B' H' hΦ hB => ?_)
    obtain ⟨Y, rfl⟩ := hΦ; have E := Y.symm; subst E; clear hB v
    refine ⟨Jy (Jt) (ldA U190 rfl sz190 rfl (Co (n := 8) Pe hdh) hlh), ?_⟩
    refine Dx.one (i := 8) (by kernel_rfl) ?_
    refine Dstep.o0 (i := 8) rfl (stA (d := .bool) (cs' := w32s keysL) sz211 rfl rfl hlk (w32_all keysL) (by rw [w32_len, hkl]; decide) (st_full (by rw [hlk]; rfl))) (fun v B' H' hΦ hB => ?_)
    obtain ⟨Y, rfl⟩ := hΦ; have E := Y.symm; subst E; clear hB v
    refine ⟨Jy (Jt) (ldA U190 rfl sz190 rfl (Co (n := 8) Pe hdh) hlh), ?_⟩
    refine Dx.one (i := 9) (by kernel_rfl) ?_
    refine Dstep.o0 (i := 9) rfl (stA (d := .bool) (cs' := w32s h) sz190 rfl rfl hlh (w32_all h) (by rw [w32_len, hh]; decide) (st_full (by rw [hlh]; rfl))) (fun v B' H' hΦ hB => ?_)
    obtain ⟨Y, rfl⟩ := hΦ; have E := Y.symm; subst E; clear hB v
    refine ⟨Je (Jt) (by kernel_rfl), ?_⟩
    refine Dx.done (by kernel_rfl) ?_
    exact Xx.mkK (⟨_, _, _, rfl, rfl, by ac_rfl⟩) (Sc 5 rfl (Sc 6 rfl (Sc 7 rfl (Sc 0 rfl (Sc 1 rfl (Sc 2 rfl (Sc 4 rfl (Sc 14 rfl (Sc 15 rfl (Sc 16 rfl (Sub.nil _)))))))))))
   ·
    refine Dstep.o (i := 5) rfl (allocO ti211) rfl (fun v B' H' hΦ hB => ?_)
    obtain ⟨b6, rfl, Y, rfl⟩ := hΦ; have E := Y.symm; subst E; clear hB
    refine ⟨Jy (Jt) (ldA U190 rfl sz190 rfl (Co (n := 8) Pe hdh) hlh), ?_⟩
    refine Dx.three (i := 2) (j := 4) (l := 6) (by kernel_rfl) ?_ ?_ ?_
    ·
     refine Dstep.o (i := 2) rfl (Ox.cb rfl rfl rfl (keys_ct _)) rfl (fun v B' H' hΦ hB => ?_)
     obtain ⟨rfl, rfl, Y⟩ := hΦ; have E := Y.symm; subst E; clear hB
     refine ⟨Jy (Jt) (ldA U190 rfl sz190 rfl (Co (n := 8) Pe hdh) hlh), ?_⟩
     refine Dx.two (i := 4) (j := 6) (by kernel_rfl) ?_ ?_
     ·
      refine Dstep.o (i := 4) rfl (allocO ti211) rfl (fun v B' H' hΦ hB => ?_)
      obtain ⟨b5, rfl, Y, rfl⟩ := hΦ; have E := Y.symm; subst E; clear hB
      refine ⟨Jy (Jt) (ldA U190 rfl sz190 rfl (Co (n := 8) Pe hdh) hlh), ?_⟩
      refine Dx.one (i := 6) (by kernel_rfl) ?_
      refine Dstep.o (i := 6) rfl (allocO ti190) rfl (fun v B' H' hΦ hB => ?_)
      obtain ⟨b7, rfl, Y, rfl⟩ := hΦ; have E := Y.symm; subst E; clear hB
      refine ⟨Jy (Jt) (ldA U190 rfl sz190 rfl (Co (n := 8) Pe hdh) hlh), ?_⟩
      refine Dx.one (i := 7) (by kernel_rfl) ?_
      refine Dstep.o0 (i := 7) rfl (stA (d := .bool) (cs' := w32s w) sz211 rfl rfl hlw (w32_all w) (by rw [w32_len, hwl]; decide) (st_full (by rw [hlw]; rfl))) (fun v B' H' hΦ hB => ?_)
      obtain ⟨Y, rfl⟩ := hΦ; have E := Y.symm; subst E; clear hB v
      refine ⟨Jy (Jt) (ldA U190 rfl sz190 rfl (Co (n := 8) Pe hdh) hlh), ?_⟩
      refine Dx.one (i := 8) (by kernel_rfl) ?_
      refine Dstep.o0 (i := 8) rfl (stA (d := .bool) (cs' := w32s keysL) sz211 rfl rfl hlk (w32_all keysL) (by rw [w32_len, hkl]; decide) (st_full (by rw [hlk]; rfl))) (fun v B' H' hΦ hB => ?_)
      obtain ⟨Y, rfl⟩ := hΦ; have E := Y.symm; subst E; clear hB v
      refine ⟨Jy (Jt) (ldA U190 rfl sz190 rfl (Co (n := 8) Pe hdh) hlh), ?_⟩
      refine Dx.one (i := 9) (by kernel_rfl) ?_
      refine Dstep.o0 (i := 9) rfl (stA (d := .bool) (cs' := w32s h) sz190 rfl rfl hlh (w32_all h) (by rw [w32_len, hh]; decide) (st_full (by rw [hlh]; rfl))) (fun v B' H' hΦ hB => ?_)
      obtain ⟨Y, rfl⟩ := hΦ; have E := Y.symm; subst E; clear hB v
      refine ⟨Je (Jt) (by kernel_rfl), ?_⟩
      refine Dx.done (by kernel_rfl) ?_
      exact Xx.mkK (⟨_, _, _, rfl, rfl, by ac_rfl⟩) (Sc 5 rfl (Sc 6 rfl (Sc 7 rfl (Sc 0 rfl (Sc 1 rfl (Sc 2 rfl (Sc 4 rfl (Sc 14 rfl (Sc 15 rfl (Sc 16 rfl (Sub.nil _)))))))))))
     refine Dstep.o (i := 6) rfl (allocO ti190) rfl (fun v B' H' hΦ hB => ?_)
     obtain ⟨b7, rfl, Y, rfl⟩ := hΦ; have E := Y.symm; subst E; clear hB
     refine ⟨Jy (Jt) (ldA U190 rfl sz190 rfl (Co (n := 8) Pe hdh) hlh), ?_⟩
     refine Dx.one (i := 4) (by kernel_rfl) ?_
     refine Dstep.o (i := 4) rfl (allocO ti211) rfl (fun v B' H' hΦ hB => ?_)
     obtain ⟨b5, rfl, Y, rfl⟩ := hΦ; have E := Y.symm; subst E; clear hB
     refine ⟨Jy (Jt) (ldA U190 rfl sz190 rfl (Co (n := 8) Pe hdh) hlh), ?_⟩
     refine Dx.one (i := 7) (by kernel_rfl) ?_
     refine Dstep.o0 (i := 7) rfl (stA (d := .bool) (cs' := w32s w) sz211 rfl rfl hlw (w32_all w) (by rw [w32_len, hwl]; decide) (st_full (by rw [hlw]; rfl))) (fun v B' H' hΦ hB => ?_)
     obtain ⟨Y, rfl⟩ := hΦ; have E := Y.symm; subst E; clear hB v
     refine ⟨Jy (Jt) (ldA U190 rfl sz190 rfl (Co (n := 8) Pe hdh) hlh), ?_⟩
     refine Dx.one (i := 8) (by kernel_rfl) ?_
     refine Dstep.o0 (i := 8) rfl (stA (d := .bool) (cs' := w32s keysL) sz211 rfl rfl hlk (w32_all keysL) (by rw [w32_len, hkl]; decide) (st_full (by rw [hlk]; rfl))) (fun v B' H' hΦ hB => ?_)
     obtain ⟨Y, rfl⟩ := hΦ; have E := Y.symm; subst E; clear hB v
     refine ⟨Jy (Jt) (ldA U190 rfl sz190 rfl (Co (n := 8) Pe hdh) hlh), ?_⟩
     refine Dx.one (i := 9) (by kernel_rfl) ?_
     refine Dstep.o0 (i := 9) rfl (stA (d := .bool) (cs' := w32s h) sz190 rfl rfl hlh (w32_all h) (by rw [w32_len, hh]; decide) (st_full (by rw [hlh]; rfl))) (fun v B' H' hΦ hB => ?_)
     obtain ⟨Y, rfl⟩ := hΦ; have E := Y.symm; subst E; clear hB v
     refine ⟨Je (Jt) (by kernel_rfl), ?_⟩
     refine Dx.done (by kernel_rfl) ?_
     exact Xx.mkK (⟨_, _, _, rfl, rfl, by ac_rfl⟩) (Sc 5 rfl (Sc 6 rfl (Sc 7 rfl (Sc 0 rfl (Sc 1 rfl (Sc 2 rfl (Sc 4 rfl (Sc 14 rfl (Sc 15 rfl (Sc 16 rfl (Sub.nil _)))))))))))
    ·
     refine Dstep.o (i := 4) rfl (allocO ti211) rfl (fun v B' H' hΦ hB => ?_)
     obtain ⟨b5, rfl, Y, rfl⟩ := hΦ; have E := Y.symm; subst E; clear hB
     refine ⟨Jy (Jt) (ldA U190 rfl sz190 rfl (Co (n := 8) Pe hdh) hlh), ?_⟩
     refine Dx.two (i := 2) (j := 6) (by kernel_rfl) ?_ ?_
     ·
      refine Dstep.o (i := 2) rfl (Ox.cb rfl rfl rfl (keys_ct _)) rfl (fun v B' H' hΦ hB => ?_)
      obtain ⟨rfl, rfl, Y⟩ := hΦ; have E := Y.symm; subst E; clear hB
      refine ⟨Jy (Jt) (ldA U190 rfl sz190 rfl (Co (n := 8) Pe hdh) hlh), ?_⟩
      refine Dx.one (i := 6) (by kernel_rfl) ?_
      refine Dstep.o (i := 6) rfl (allocO ti190) rfl (fun v B' H' hΦ hB => ?_)
      obtain ⟨b7, rfl, Y, rfl⟩ := hΦ; have E := Y.symm; subst E; clear hB
      refine ⟨Jy (Jt) (ldA U190 rfl sz190 rfl (Co (n := 8) Pe hdh) hlh), ?_⟩
      refine Dx.one (i := 7) (by kernel_rfl) ?_
      refine Dstep.o0 (i := 7) rfl (stA (d := .bool) (cs' := w32s w) sz211 rfl rfl hlw (w32_all w) (by rw [w32_len, hwl]; decide) (st_full (by rw [hlw]; rfl))) (fun v B' H' hΦ hB => ?_)
      obtain ⟨Y, rfl⟩ := hΦ; have E := Y.symm; subst E; clear hB v
      refine ⟨Jy (Jt) (ldA U190 rfl sz190 rfl (Co (n := 8) Pe hdh) hlh), ?_⟩
      refine Dx.one (i := 8) (by kernel_rfl) ?_
      refine Dstep.o0 (i := 8) rfl (stA (d := .bool) (cs' := w32s keysL) sz211 rfl rfl hlk (w32_all keysL) (by rw [w32_len, hkl]; decide) (st_full (by rw [hlk]; rfl))) (fun v B' H' hΦ hB => ?_)
      obtain ⟨Y, rfl⟩ := hΦ; have E := Y.symm; subst E; clear hB v
      refine ⟨Jy (Jt) (ldA U190 rfl sz190 rfl (Co (n := 8) Pe hdh) hlh), ?_⟩
      refine Dx.one (i := 9) (by kernel_rfl) ?_
      refine Dstep.o0 (i := 9) rfl (stA (d := .bool) (cs' := w32s h) sz190 rfl rfl hlh (w32_all h) (by rw [w32_len, hh]; decide) (st_full (by rw [hlh]; rfl))) (fun v B' H' hΦ hB => ?_)
      obtain ⟨Y, rfl⟩ := hΦ; have E := Y.symm; subst E; clear hB v
      refine ⟨Je (Jt) (by kernel_rfl), ?_⟩
      refine Dx.done (by kernel_rfl) ?_
      exact Xx.mkK (⟨_, _, _, rfl, rfl, by ac_rfl⟩) (Sc 5 rfl (Sc 6 rfl (Sc 7 rfl (Sc 0 rfl (Sc 1 rfl (Sc 2 rfl (Sc 4 rfl (Sc 14 rfl (Sc 15 rfl (Sc 16 rfl (Sub.nil _)))))))))))
     refine Dstep.o (i := 6) rfl (allocO ti190) rfl (fun v B' H' hΦ hB => ?_)
     obtain ⟨b7, rfl, Y, rfl⟩ := hΦ; have E := Y.symm; subst E; clear hB
     refine ⟨Jy (Jt) (ldA U190 rfl sz190 rfl (Co (n := 8) Pe hdh) hlh), ?_⟩
     refine Dx.one (i := 2) (by kernel_rfl) ?_
     refine Dstep.o (i := 2) rfl (Ox.cb rfl rfl rfl (keys_ct _)) rfl (fun v B' H' hΦ hB => ?_)
     obtain ⟨rfl, rfl, Y⟩ := hΦ; have E := Y.symm; subst E; clear hB
     refine ⟨Jy (Jt) (ldA U190 rfl sz190 rfl (Co (n := 8) Pe hdh) hlh), ?_⟩
     refine Dx.one (i := 7) (by kernel_rfl) ?_
     refine Dstep.o0 (i := 7) rfl (stA (d := .bool) (cs' := w32s w) sz211 rfl rfl hlw (w32_all w) (by rw [w32_len, hwl]; decide) (st_full (by rw [hlw]; rfl))) (fun v B' H' hΦ hB => ?_)
     obtain ⟨Y, rfl⟩ := hΦ; have E := Y.symm; subst E; clear hB v
     refine ⟨Jy (Jt) (ldA U190 rfl sz190 rfl (Co (n := 8) Pe hdh) hlh), ?_⟩
     refine Dx.one (i := 8) (by kernel_rfl) ?_
     refine Dstep.o0 (i := 8) rfl (stA (d := .bool) (cs' := w32s keysL) sz211 rfl rfl hlk (w32_all keysL) (by rw [w32_len, hkl]; decide) (st_full (by rw [hlk]; rfl))) (fun v B' H' hΦ hB => ?_)
     obtain ⟨Y, rfl⟩ := hΦ; have E := Y.symm; subst E; clear hB v
     refine ⟨Jy (Jt) (ldA U190 rfl sz190 rfl (Co (n := 8) Pe hdh) hlh), ?_⟩
     refine Dx.one (i := 9) (by kernel_rfl) ?_
     refine Dstep.o0 (i := 9) rfl (stA (d := .bool) (cs' := w32s h) sz190 rfl rfl hlh (w32_all h) (by rw [w32_len, hh]; decide) (st_full (by rw [hlh]; rfl))) (fun v B' H' hΦ hB => ?_)
     obtain ⟨Y, rfl⟩ := hΦ; have E := Y.symm; subst E; clear hB v
     refine ⟨Je (Jt) (by kernel_rfl), ?_⟩
     refine Dx.done (by kernel_rfl) ?_
     exact Xx.mkK (⟨_, _, _, rfl, rfl, by ac_rfl⟩) (Sc 5 rfl (Sc 6 rfl (Sc 7 rfl (Sc 0 rfl (Sc 1 rfl (Sc 2 rfl (Sc 4 rfl (Sc 14 rfl (Sc 15 rfl (Sc 16 rfl (Sub.nil _)))))))))))
    refine Dstep.o (i := 6) rfl (allocO ti190) rfl (fun v B' H' hΦ hB => ?_)
    obtain ⟨b7, rfl, Y, rfl⟩ := hΦ; have E := Y.symm; subst E; clear hB
    refine ⟨Jy (Jt) (ldA U190 rfl sz190 rfl (Co (n := 8) Pe hdh) hlh), ?_⟩
    refine Dx.two (i := 2) (j := 4) (by kernel_rfl) ?_ ?_
    ·
     refine Dstep.o (i := 2) rfl (Ox.cb rfl rfl rfl (keys_ct _)) rfl (fun v B' H' hΦ hB => ?_)
     obtain ⟨rfl, rfl, Y⟩ := hΦ; have E := Y.symm; subst E; clear hB
     refine ⟨Jy (Jt) (ldA U190 rfl sz190 rfl (Co (n := 8) Pe hdh) hlh), ?_⟩
     refine Dx.one (i := 4) (by kernel_rfl) ?_
     refine Dstep.o (i := 4) rfl (allocO ti211) rfl (fun v B' H' hΦ hB => ?_)
     obtain ⟨b5, rfl, Y, rfl⟩ := hΦ; have E := Y.symm; subst E; clear hB
     refine ⟨Jy (Jt) (ldA U190 rfl sz190 rfl (Co (n := 8) Pe hdh) hlh), ?_⟩
     refine Dx.one (i := 7) (by kernel_rfl) ?_
     refine Dstep.o0 (i := 7) rfl (stA (d := .bool) (cs' := w32s w) sz211 rfl rfl hlw (w32_all w) (by rw [w32_len, hwl]; decide) (st_full (by rw [hlw]; rfl))) (fun v B' H' hΦ hB => ?_)
     obtain ⟨Y, rfl⟩ := hΦ; have E := Y.symm; subst E; clear hB v
     refine ⟨Jy (Jt) (ldA U190 rfl sz190 rfl (Co (n := 8) Pe hdh) hlh), ?_⟩
     refine Dx.one (i := 8) (by kernel_rfl) ?_
     refine Dstep.o0 (i := 8) rfl (stA (d := .bool) (cs' := w32s keysL) sz211 rfl rfl hlk (w32_all keysL) (by rw [w32_len, hkl]; decide) (st_full (by rw [hlk]; rfl))) (fun v B' H' hΦ hB => ?_)
     obtain ⟨Y, rfl⟩ := hΦ; have E := Y.symm; subst E; clear hB v
     refine ⟨Jy (Jt) (ldA U190 rfl sz190 rfl (Co (n := 8) Pe hdh) hlh), ?_⟩
     refine Dx.one (i := 9) (by kernel_rfl) ?_
     refine Dstep.o0 (i := 9) rfl (stA (d := .bool) (cs' := w32s h) sz190 rfl rfl hlh (w32_all h) (by rw [w32_len, hh]; decide) (st_full (by rw [hlh]; rfl))) (fun v B' H' hΦ hB => ?_)
     obtain ⟨Y, rfl⟩ := hΦ; have E := Y.symm; subst E; clear hB v
     refine ⟨Je (Jt) (by kernel_rfl), ?_⟩
     refine Dx.done (by kernel_rfl) ?_
     exact Xx.mkK (⟨_, _, _, rfl, rfl, by ac_rfl⟩) (Sc 5 rfl (Sc 6 rfl (Sc 7 rfl (Sc 0 rfl (Sc 1 rfl (Sc 2 rfl (Sc 4 rfl (Sc 14 rfl (Sc 15 rfl (Sc 16 rfl (Sub.nil _)))))))))))
    refine Dstep.o (i := 4) rfl (allocO ti211) rfl (fun v B' H' hΦ hB => ?_)
    obtain ⟨b5, rfl, Y, rfl⟩ := hΦ; have E := Y.symm; subst E; clear hB
    refine ⟨Jy (Jt) (ldA U190 rfl sz190 rfl (Co (n := 8) Pe hdh) hlh), ?_⟩
    refine Dx.one (i := 2) (by kernel_rfl) ?_
    refine Dstep.o (i := 2) rfl (Ox.cb rfl rfl rfl (keys_ct _)) rfl (fun v B' H' hΦ hB => ?_)
    obtain ⟨rfl, rfl, Y⟩ := hΦ; have E := Y.symm; subst E; clear hB
    refine ⟨Jy (Jt) (ldA U190 rfl sz190 rfl (Co (n := 8) Pe hdh) hlh), ?_⟩
    refine Dx.one (i := 7) (by kernel_rfl) ?_
    refine Dstep.o0 (i := 7) rfl (stA (d := .bool) (cs' := w32s w) sz211 rfl rfl hlw (w32_all w) (by rw [w32_len, hwl]; decide) (st_full (by rw [hlw]; rfl))) (fun v B' H' hΦ hB => ?_)
    obtain ⟨Y, rfl⟩ := hΦ; have E := Y.symm; subst E; clear hB v
    refine ⟨Jy (Jt) (ldA U190 rfl sz190 rfl (Co (n := 8) Pe hdh) hlh), ?_⟩
    refine Dx.one (i := 8) (by kernel_rfl) ?_
    refine Dstep.o0 (i := 8) rfl (stA (d := .bool) (cs' := w32s keysL) sz211 rfl rfl hlk (w32_all keysL) (by rw [w32_len, hkl]; decide) (st_full (by rw [hlk]; rfl))) (fun v B' H' hΦ hB => ?_)
    obtain ⟨Y, rfl⟩ := hΦ; have E := Y.symm; subst E; clear hB v
    refine ⟨Jy (Jt) (ldA U190 rfl sz190 rfl (Co (n := 8) Pe hdh) hlh), ?_⟩
    refine Dx.one (i := 9) (by kernel_rfl) ?_
    refine Dstep.o0 (i := 9) rfl (stA (d := .bool) (cs' := w32s h) sz190 rfl rfl hlh (w32_all h) (by rw [w32_len, hh]; decide) (st_full (by rw [hlh]; rfl))) (fun v B' H' hΦ hB => ?_)
    obtain ⟨Y, rfl⟩ := hΦ; have E := Y.symm; subst E; clear hB v
    refine ⟨Je (Jt) (by kernel_rfl), ?_⟩
    refine Dx.done (by kernel_rfl) ?_
    exact Xx.mkK (⟨_, _, _, rfl, rfl, by ac_rfl⟩) (Sc 5 rfl (Sc 6 rfl (Sc 7 rfl (Sc 0 rfl (Sc 1 rfl (Sc 2 rfl (Sc 4 rfl (Sc 14 rfl (Sc 15 rfl (Sc 16 rfl (Sub.nil _)))))))))))
   refine Dstep.o (i := 6) rfl (allocO ti190) rfl (fun v B' H' hΦ hB => ?_)
   obtain ⟨b7, rfl, Y, rfl⟩ := hΦ; have E := Y.symm; subst E; clear hB
   refine ⟨Jy (Jt) (ldA U190 rfl sz190 rfl (Co (n := 8) Pe hdh) hlh), ?_⟩
   refine Dx.three (i := 2) (j := 4) (l := 5) (by kernel_rfl) ?_ ?_ ?_
   ·
    refine Dstep.o (i := 2) rfl (Ox.cb rfl rfl rfl (keys_ct _)) rfl (fun v B' H' hΦ hB => ?_)
    obtain ⟨rfl, rfl, Y⟩ := hΦ; have E := Y.symm; subst E; clear hB
    refine ⟨Jy (Jt) (ldA U190 rfl sz190 rfl (Co (n := 8) Pe hdh) hlh), ?_⟩
    refine Dx.two (i := 4) (j := 5) (by kernel_rfl) ?_ ?_
    ·
     refine Dstep.o (i := 4) rfl (allocO ti211) rfl (fun v B' H' hΦ hB => ?_)
     obtain ⟨b5, rfl, Y, rfl⟩ := hΦ; have E := Y.symm; subst E; clear hB
     refine ⟨Jy (Jt) (ldA U190 rfl sz190 rfl (Co (n := 8) Pe hdh) hlh), ?_⟩
     refine Dx.one (i := 5) (by kernel_rfl) ?_
     refine Dstep.o (i := 5) rfl (allocO ti211) rfl (fun v B' H' hΦ hB => ?_)
     obtain ⟨b6, rfl, Y, rfl⟩ := hΦ; have E := Y.symm; subst E; clear hB
     refine ⟨Jy (Jt) (ldA U190 rfl sz190 rfl (Co (n := 8) Pe hdh) hlh), ?_⟩
     refine Dx.one (i := 7) (by kernel_rfl) ?_
     refine Dstep.o0 (i := 7) rfl (stA (d := .bool) (cs' := w32s w) sz211 rfl rfl hlw (w32_all w) (by rw [w32_len, hwl]; decide) (st_full (by rw [hlw]; rfl))) (fun v B' H' hΦ hB => ?_)
     obtain ⟨Y, rfl⟩ := hΦ; have E := Y.symm; subst E; clear hB v
     refine ⟨Jy (Jt) (ldA U190 rfl sz190 rfl (Co (n := 8) Pe hdh) hlh), ?_⟩
     refine Dx.one (i := 8) (by kernel_rfl) ?_
     refine Dstep.o0 (i := 8) rfl (stA (d := .bool) (cs' := w32s keysL) sz211 rfl rfl hlk (w32_all keysL) (by rw [w32_len, hkl]; decide) (st_full (by rw [hlk]; rfl))) (fun v B' H' hΦ hB => ?_)
     obtain ⟨Y, rfl⟩ := hΦ; have E := Y.symm; subst E; clear hB v
     refine ⟨Jy (Jt) (ldA U190 rfl sz190 rfl (Co (n := 8) Pe hdh) hlh), ?_⟩
     refine Dx.one (i := 9) (by kernel_rfl) ?_
     refine Dstep.o0 (i := 9) rfl (stA (d := .bool) (cs' := w32s h) sz190 rfl rfl hlh (w32_all h) (by rw [w32_len, hh]; decide) (st_full (by rw [hlh]; rfl))) (fun v B' H' hΦ hB => ?_)
     obtain ⟨Y, rfl⟩ := hΦ; have E := Y.symm; subst E; clear hB v
     refine ⟨Je (Jt) (by kernel_rfl), ?_⟩
     refine Dx.done (by kernel_rfl) ?_
     exact Xx.mkK (⟨_, _, _, rfl, rfl, by ac_rfl⟩) (Sc 5 rfl (Sc 6 rfl (Sc 7 rfl (Sc 0 rfl (Sc 1 rfl (Sc 2 rfl (Sc 4 rfl (Sc 14 rfl (Sc 15 rfl (Sc 16 rfl (Sub.nil _)))))))))))
    refine Dstep.o (i := 5) rfl (allocO ti211) rfl (fun v B' H' hΦ hB => ?_)
    obtain ⟨b6, rfl, Y, rfl⟩ := hΦ; have E := Y.symm; subst E; clear hB
    refine ⟨Jy (Jt) (ldA U190 rfl sz190 rfl (Co (n := 8) Pe hdh) hlh), ?_⟩
    refine Dx.one (i := 4) (by kernel_rfl) ?_
    refine Dstep.o (i := 4) rfl (allocO ti211) rfl (fun v B' H' hΦ hB => ?_)
    obtain ⟨b5, rfl, Y, rfl⟩ := hΦ; have E := Y.symm; subst E; clear hB
    refine ⟨Jy (Jt) (ldA U190 rfl sz190 rfl (Co (n := 8) Pe hdh) hlh), ?_⟩
    refine Dx.one (i := 7) (by kernel_rfl) ?_
    refine Dstep.o0 (i := 7) rfl (stA (d := .bool) (cs' := w32s w) sz211 rfl rfl hlw (w32_all w) (by rw [w32_len, hwl]; decide) (st_full (by rw [hlw]; rfl))) (fun v B' H' hΦ hB => ?_)
    obtain ⟨Y, rfl⟩ := hΦ; have E := Y.symm; subst E; clear hB v
    refine ⟨Jy (Jt) (ldA U190 rfl sz190 rfl (Co (n := 8) Pe hdh) hlh), ?_⟩
    refine Dx.one (i := 8) (by kernel_rfl) ?_
    refine Dstep.o0 (i := 8) rfl (stA (d := .bool) (cs' := w32s keysL) sz211 rfl rfl hlk (w32_all keysL) (by rw [w32_len, hkl]; decide) (st_full (by rw [hlk]; rfl))) (fun v B' H' hΦ hB => ?_)
    obtain ⟨Y, rfl⟩ := hΦ; have E := Y.symm; subst E; clear hB v
    refine ⟨Jy (Jt) (ldA U190 rfl sz190 rfl (Co (n := 8) Pe hdh) hlh), ?_⟩
    refine Dx.one (i := 9) (by kernel_rfl) ?_
    refine Dstep.o0 (i := 9) rfl (stA (d := .bool) (cs' := w32s h) sz190 rfl rfl hlh (w32_all h) (by rw [w32_len, hh]; decide) (st_full (by rw [hlh]; rfl))) (fun v B' H' hΦ hB => ?_)
    obtain ⟨Y, rfl⟩ := hΦ; have E := Y.symm; subst E; clear hB v
    refine ⟨Je (Jt) (by kernel_rfl), ?_⟩
    refine Dx.done (by kernel_rfl) ?_
    exact Xx.mkK (⟨_, _, _, rfl, rfl, by ac_rfl⟩) (Sc 5 rfl (Sc 6 rfl (Sc 7 rfl (Sc 0 rfl (Sc 1 rfl (Sc 2 rfl (Sc 4 rfl (Sc 14 rfl (Sc 15 rfl (Sc 16 rfl (Sub.nil _)))))))))))
   ·
    refine Dstep.o (i := 4) rfl (allocO ti211) rfl (fun v B' H' hΦ hB => ?_)
    obtain ⟨b5, rfl, Y, rfl⟩ := hΦ; have E := Y.symm; subst E; clear hB
    refine ⟨Jy (Jt) (ldA U190 rfl sz190 rfl (Co (n := 8) Pe hdh) hlh), ?_⟩
    refine Dx.two (i := 2) (j := 5) (by kernel_rfl) ?_ ?_
    ·
     refine Dstep.o (i := 2) rfl (Ox.cb rfl rfl rfl (keys_ct _)) rfl (fun v B' H' hΦ hB => ?_)
     obtain ⟨rfl, rfl, Y⟩ := hΦ; have E := Y.symm; subst E; clear hB
     refine ⟨Jy (Jt) (ldA U190 rfl sz190 rfl (Co (n := 8) Pe hdh) hlh), ?_⟩
     refine Dx.one (i := 5) (by kernel_rfl) ?_
     refine Dstep.o (i := 5) rfl (allocO ti211) rfl (fun v B' H' hΦ hB => ?_)
     obtain ⟨b6, rfl, Y, rfl⟩ := hΦ; have E := Y.symm; subst E; clear hB
     refine ⟨Jy (Jt) (ldA U190 rfl sz190 rfl (Co (n := 8) Pe hdh) hlh), ?_⟩
     refine Dx.one (i := 7) (by kernel_rfl) ?_
     refine Dstep.o0 (i := 7) rfl (stA (d := .bool) (cs' := w32s w) sz211 rfl rfl hlw (w32_all w) (by rw [w32_len, hwl]; decide) (st_full (by rw [hlw]; rfl))) (fun v B' H' hΦ hB => ?_)
     obtain ⟨Y, rfl⟩ := hΦ; have E := Y.symm; subst E; clear hB v
     refine ⟨Jy (Jt) (ldA U190 rfl sz190 rfl (Co (n := 8) Pe hdh) hlh), ?_⟩
     refine Dx.one (i := 8) (by kernel_rfl) ?_
     refine Dstep.o0 (i := 8) rfl (stA (d := .bool) (cs' := w32s keysL) sz211 rfl rfl hlk (w32_all keysL) (by rw [w32_len, hkl]; decide) (st_full (by rw [hlk]; rfl))) (fun v B' H' hΦ hB => ?_)
     obtain ⟨Y, rfl⟩ := hΦ; have E := Y.symm; subst E; clear hB v
     refine ⟨Jy (Jt) (ldA U190 rfl sz190 rfl (Co (n := 8) Pe hdh) hlh), ?_⟩
     refine Dx.one (i := 9) (by kernel_rfl) ?_
     refine Dstep.o0 (i := 9) rfl (stA (d := .bool) (cs' := w32s h) sz190 rfl rfl hlh (w32_all h) (by rw [w32_len, hh]; decide) (st_full (by rw [hlh]; rfl))) (fun v B' H' hΦ hB => ?_)
     obtain ⟨Y, rfl⟩ := hΦ; have E := Y.symm; subst E; clear hB v
     refine ⟨Je (Jt) (by kernel_rfl), ?_⟩
     refine Dx.done (by kernel_rfl) ?_
     exact Xx.mkK (⟨_, _, _, rfl, rfl, by ac_rfl⟩) (Sc 5 rfl (Sc 6 rfl (Sc 7 rfl (Sc 0 rfl (Sc 1 rfl (Sc 2 rfl (Sc 4 rfl (Sc 14 rfl (Sc 15 rfl (Sc 16 rfl (Sub.nil _)))))))))))
    refine Dstep.o (i := 5) rfl (allocO ti211) rfl (fun v B' H' hΦ hB => ?_)
    obtain ⟨b6, rfl, Y, rfl⟩ := hΦ; have E := Y.symm; subst E; clear hB
    refine ⟨Jy (Jt) (ldA U190 rfl sz190 rfl (Co (n := 8) Pe hdh) hlh), ?_⟩
    refine Dx.one (i := 2) (by kernel_rfl) ?_
    refine Dstep.o (i := 2) rfl (Ox.cb rfl rfl rfl (keys_ct _)) rfl (fun v B' H' hΦ hB => ?_)
    obtain ⟨rfl, rfl, Y⟩ := hΦ; have E := Y.symm; subst E; clear hB
    refine ⟨Jy (Jt) (ldA U190 rfl sz190 rfl (Co (n := 8) Pe hdh) hlh), ?_⟩
    refine Dx.one (i := 7) (by kernel_rfl) ?_
    refine Dstep.o0 (i := 7) rfl (stA (d := .bool) (cs' := w32s w) sz211 rfl rfl hlw (w32_all w) (by rw [w32_len, hwl]; decide) (st_full (by rw [hlw]; rfl))) (fun v B' H' hΦ hB => ?_)
    obtain ⟨Y, rfl⟩ := hΦ; have E := Y.symm; subst E; clear hB v
    refine ⟨Jy (Jt) (ldA U190 rfl sz190 rfl (Co (n := 8) Pe hdh) hlh), ?_⟩
    refine Dx.one (i := 8) (by kernel_rfl) ?_
    refine Dstep.o0 (i := 8) rfl (stA (d := .bool) (cs' := w32s keysL) sz211 rfl rfl hlk (w32_all keysL) (by rw [w32_len, hkl]; decide) (st_full (by rw [hlk]; rfl))) (fun v B' H' hΦ hB => ?_)
    obtain ⟨Y, rfl⟩ := hΦ; have E := Y.symm; subst E; clear hB v
    refine ⟨Jy (Jt) (ldA U190 rfl sz190 rfl (Co (n := 8) Pe hdh) hlh), ?_⟩
    refine Dx.one (i := 9) (by kernel_rfl) ?_
    refine Dstep.o0 (i := 9) rfl (stA (d := .bool) (cs' := w32s h) sz190 rfl rfl hlh (w32_all h) (by rw [w32_len, hh]; decide) (st_full (by rw [hlh]; rfl))) (fun v B' H' hΦ hB => ?_)
    obtain ⟨Y, rfl⟩ := hΦ; have E := Y.symm; subst E; clear hB v
    refine ⟨Je (Jt) (by kernel_rfl), ?_⟩
    refine Dx.done (by kernel_rfl) ?_
    exact Xx.mkK (⟨_, _, _, rfl, rfl, by ac_rfl⟩) (Sc 5 rfl (Sc 6 rfl (Sc 7 rfl (Sc 0 rfl (Sc 1 rfl (Sc 2 rfl (Sc 4 rfl (Sc 14 rfl (Sc 15 rfl (Sc 16 rfl (Sub.nil _)))))))))))
   refine Dstep.o (i := 5) rfl (allocO ti211) rfl (fun v B' H' hΦ hB => ?_)
   obtain ⟨b6, rfl, Y, rfl⟩ := hΦ; have E := Y.symm; subst E; clear hB
   refine ⟨Jy (Jt) (ldA U190 rfl sz190 rfl (Co (n := 8) Pe hdh) hlh), ?_⟩
   refine Dx.two (i := 2) (j := 4) (by kernel_rfl) ?_ ?_
   ·
    refine Dstep.o (i := 2) rfl (Ox.cb rfl rfl rfl (keys_ct _)) rfl (fun v B' H' hΦ hB => ?_)
    obtain ⟨rfl, rfl, Y⟩ := hΦ; have E := Y.symm; subst E; clear hB
    refine ⟨Jy (Jt) (ldA U190 rfl sz190 rfl (Co (n := 8) Pe hdh) hlh), ?_⟩
    refine Dx.one (i := 4) (by kernel_rfl) ?_
    refine Dstep.o (i := 4) rfl (allocO ti211) rfl (fun v B' H' hΦ hB => ?_)
    obtain ⟨b5, rfl, Y, rfl⟩ := hΦ; have E := Y.symm; subst E; clear hB
    refine ⟨Jy (Jt) (ldA U190 rfl sz190 rfl (Co (n := 8) Pe hdh) hlh), ?_⟩
    refine Dx.one (i := 7) (by kernel_rfl) ?_
    refine Dstep.o0 (i := 7) rfl (stA (d := .bool) (cs' := w32s w) sz211 rfl rfl hlw (w32_all w) (by rw [w32_len, hwl]; decide) (st_full (by rw [hlw]; rfl))) (fun v B' H' hΦ hB => ?_)
    obtain ⟨Y, rfl⟩ := hΦ; have E := Y.symm; subst E; clear hB v
    refine ⟨Jy (Jt) (ldA U190 rfl sz190 rfl (Co (n := 8) Pe hdh) hlh), ?_⟩
    refine Dx.one (i := 8) (by kernel_rfl) ?_
    refine Dstep.o0 (i := 8) rfl (stA (d := .bool) (cs' := w32s keysL) sz211 rfl rfl hlk (w32_all keysL) (by rw [w32_len, hkl]; decide) (st_full (by rw [hlk]; rfl))) (fun v B' H' hΦ hB => ?_)
    obtain ⟨Y, rfl⟩ := hΦ; have E := Y.symm; subst E; clear hB v
    refine ⟨Jy (Jt) (ldA U190 rfl sz190 rfl (Co (n := 8) Pe hdh) hlh), ?_⟩
    refine Dx.one (i := 9) (by kernel_rfl) ?_
    refine Dstep.o0 (i := 9) rfl (stA (d := .bool) (cs' := w32s h) sz190 rfl rfl hlh (w32_all h) (by rw [w32_len, hh]; decide) (st_full (by rw [hlh]; rfl))) (fun v B' H' hΦ hB => ?_)
    obtain ⟨Y, rfl⟩ := hΦ; have E := Y.symm; subst E; clear hB v
    refine ⟨Je (Jt) (by kernel_rfl), ?_⟩
    refine Dx.done (by kernel_rfl) ?_
    exact Xx.mkK (⟨_, _, _, rfl, rfl, by ac_rfl⟩) (Sc 5 rfl (Sc 6 rfl (Sc 7 rfl (Sc 0 rfl (Sc 1 rfl (Sc 2 rfl (Sc 4 rfl (Sc 14 rfl (Sc 15 rfl (Sc 16 rfl (Sub.nil _)))))))))))
   refine Dstep.o (i := 4) rfl (allocO ti211) rfl (fun v B' H' hΦ hB => ?_)
   obtain ⟨b5, rfl, Y, rfl⟩ := hΦ; have E := Y.symm; subst E; clear hB
   refine ⟨Jy (Jt) (ldA U190 rfl sz190 rfl (Co (n := 8) Pe hdh) hlh), ?_⟩
   refine Dx.one (i := 2) (by kernel_rfl) ?_
   refine Dstep.o (i := 2) rfl (Ox.cb rfl rfl rfl (keys_ct _)) rfl (fun v B' H' hΦ hB => ?_)
   obtain ⟨rfl, rfl, Y⟩ := hΦ; have E := Y.symm; subst E; clear hB
   refine ⟨Jy (Jt) (ldA U190 rfl sz190 rfl (Co (n := 8) Pe hdh) hlh), ?_⟩
   refine Dx.one (i := 7) (by kernel_rfl) ?_
   refine Dstep.o0 (i := 7) rfl (stA (d := .bool) (cs' := w32s w) sz211 rfl rfl hlw (w32_all w) (by rw [w32_len, hwl]; decide) (st_full (by rw [hlw]; rfl))) (fun v B' H' hΦ hB => ?_)
   obtain ⟨Y, rfl⟩ := hΦ; have E := Y.symm; subst E; clear hB v
   refine ⟨Jy (Jt) (ldA U190 rfl sz190 rfl (Co (n := 8) Pe hdh) hlh), ?_⟩
   refine Dx.one (i := 8) (by kernel_rfl) ?_
   refine Dstep.o0 (i := 8) rfl (stA (d := .bool) (cs' := w32s keysL) sz211 rfl rfl hlk (w32_all keysL) (by rw [w32_len, hkl]; decide) (st_full (by rw [hlk]; rfl))) (fun v B' H' hΦ hB => ?_)
   obtain ⟨Y, rfl⟩ := hΦ; have E := Y.symm; subst E; clear hB v
   refine ⟨Jy (Jt) (ldA U190 rfl sz190 rfl (Co (n := 8) Pe hdh) hlh), ?_⟩
   refine Dx.one (i := 9) (by kernel_rfl) ?_
   refine Dstep.o0 (i := 9) rfl (stA (d := .bool) (cs' := w32s h) sz190 rfl rfl hlh (w32_all h) (by rw [w32_len, hh]; decide) (st_full (by rw [hlh]; rfl))) (fun v B' H' hΦ hB => ?_)
   obtain ⟨Y, rfl⟩ := hΦ; have E := Y.symm; subst E; clear hB v
   refine ⟨Je (Jt) (by kernel_rfl), ?_⟩
   refine Dx.done (by kernel_rfl) ?_
   exact Xx.mkK (⟨_, _, _, rfl, rfl, by ac_rfl⟩) (Sc 5 rfl (Sc 6 rfl (Sc 7 rfl (Sc 0 rfl (Sc 1 rfl (Sc 2 rfl (Sc 4 rfl (Sc 14 rfl (Sc 15 rfl (Sc 16 rfl (Sub.nil _)))))))))))
  ·
   refine Dstep.o (i := 4) rfl (allocO ti211) rfl (fun v B' H' hΦ hB => ?_)
   obtain ⟨b5, rfl, Y, rfl⟩ := hΦ; have E := Y.symm; subst E; clear hB
   refine ⟨Jy (Jt) (ldA U190 rfl sz190 rfl (Co (n := 8) Pe hdh) hlh), ?_⟩
   refine Dx.three (i := 1) (j := 5) (l := 6) (by kernel_rfl) ?_ ?_ ?_
   ·
    refine Dstep.o (i := 1) rfl (Ox.cb rfl rfl rfl (hspr _)) rfl (fun v B' H' hΦ hB => ?_)
    obtain ⟨rfl, rfl, Y⟩ := hΦ; have E := Y.symm; subst E; clear hB
    refine ⟨Jy (Jt) (ldA U190 rfl sz190 rfl (Co (n := 8) Pe hdh) hlh), ?_⟩
    refine Dx.three (i := 2) (j := 5) (l := 6) (by kernel_rfl) ?_ ?_ ?_
    ·
     refine Dstep.o (i := 2) rfl (Ox.cb rfl rfl rfl (keys_ct _)) rfl (fun v B' H' hΦ hB => ?_)
     obtain ⟨rfl, rfl, Y⟩ := hΦ; have E := Y.symm; subst E; clear hB
     refine ⟨Jy (Jt) (ldA U190 rfl sz190 rfl (Co (n := 8) Pe hdh) hlh), ?_⟩
     refine Dx.two (i := 5) (j := 6) (by kernel_rfl) ?_ ?_
     ·
      refine Dstep.o (i := 5) rfl (allocO ti211) rfl (fun v B' H' hΦ hB => ?_)
      obtain ⟨b6, rfl, Y, rfl⟩ := hΦ; have E := Y.symm; subst E; clear hB
      refine ⟨Jy (Jt) (ldA U190 rfl sz190 rfl (Co (n := 8) Pe hdh) hlh), ?_⟩
      refine Dx.one (i := 6) (by kernel_rfl) ?_
      refine Dstep.o (i := 6) rfl (allocO ti190) rfl (fun v B' H' hΦ hB => ?_)
      obtain ⟨b7, rfl, Y, rfl⟩ := hΦ; have E := Y.symm; subst E; clear hB
      refine ⟨Jy (Jt) (ldA U190 rfl sz190 rfl (Co (n := 8) Pe hdh) hlh), ?_⟩
      refine Dx.one (i := 7) (by kernel_rfl) ?_
      refine Dstep.o0 (i := 7) rfl (stA (d := .bool) (cs' := w32s w) sz211 rfl rfl hlw (w32_all w) (by rw [w32_len, hwl]; decide) (st_full (by rw [hlw]; rfl))) (fun v B' H' hΦ hB => ?_)
      obtain ⟨Y, rfl⟩ := hΦ; have E := Y.symm; subst E; clear hB v
      refine ⟨Jy (Jt) (ldA U190 rfl sz190 rfl (Co (n := 8) Pe hdh) hlh), ?_⟩
      refine Dx.one (i := 8) (by kernel_rfl) ?_
      refine Dstep.o0 (i := 8) rfl (stA (d := .bool) (cs' := w32s keysL) sz211 rfl rfl hlk (w32_all keysL) (by rw [w32_len, hkl]; decide) (st_full (by rw [hlk]; rfl))) (fun v B' H' hΦ hB => ?_)
      obtain ⟨Y, rfl⟩ := hΦ; have E := Y.symm; subst E; clear hB v
      refine ⟨Jy (Jt) (ldA U190 rfl sz190 rfl (Co (n := 8) Pe hdh) hlh), ?_⟩
      refine Dx.one (i := 9) (by kernel_rfl) ?_
      refine Dstep.o0 (i := 9) rfl (stA (d := .bool) (cs' := w32s h) sz190 rfl rfl hlh (w32_all h) (by rw [w32_len, hh]; decide) (st_full (by rw [hlh]; rfl))) (fun v B' H' hΦ hB => ?_)
      obtain ⟨Y, rfl⟩ := hΦ; have E := Y.symm; subst E; clear hB v
      refine ⟨Je (Jt) (by kernel_rfl), ?_⟩
      refine Dx.done (by kernel_rfl) ?_
      exact Xx.mkK (⟨_, _, _, rfl, rfl, by ac_rfl⟩) (Sc 5 rfl (Sc 6 rfl (Sc 7 rfl (Sc 0 rfl (Sc 1 rfl (Sc 2 rfl (Sc 4 rfl (Sc 14 rfl (Sc 15 rfl (Sc 16 rfl (Sub.nil _)))))))))))
     refine Dstep.o (i := 6) rfl (allocO ti190) rfl (fun v B' H' hΦ hB => ?_)
     obtain ⟨b7, rfl, Y, rfl⟩ := hΦ; have E := Y.symm; subst E; clear hB
     refine ⟨Jy (Jt) (ldA U190 rfl sz190 rfl (Co (n := 8) Pe hdh) hlh), ?_⟩
     refine Dx.one (i := 5) (by kernel_rfl) ?_
     refine Dstep.o (i := 5) rfl (allocO ti211) rfl (fun v B' H' hΦ hB => ?_)
     obtain ⟨b6, rfl, Y, rfl⟩ := hΦ; have E := Y.symm; subst E; clear hB
     refine ⟨Jy (Jt) (ldA U190 rfl sz190 rfl (Co (n := 8) Pe hdh) hlh), ?_⟩
     refine Dx.one (i := 7) (by kernel_rfl) ?_
     refine Dstep.o0 (i := 7) rfl (stA (d := .bool) (cs' := w32s w) sz211 rfl rfl hlw (w32_all w) (by rw [w32_len, hwl]; decide) (st_full (by rw [hlw]; rfl))) (fun v B' H' hΦ hB => ?_)
     obtain ⟨Y, rfl⟩ := hΦ; have E := Y.symm; subst E; clear hB v
     refine ⟨Jy (Jt) (ldA U190 rfl sz190 rfl (Co (n := 8) Pe hdh) hlh), ?_⟩
     refine Dx.one (i := 8) (by kernel_rfl) ?_
     refine Dstep.o0 (i := 8) rfl (stA (d := .bool) (cs' := w32s keysL) sz211 rfl rfl hlk (w32_all keysL) (by rw [w32_len, hkl]; decide) (st_full (by rw [hlk]; rfl))) (fun v B' H' hΦ hB => ?_)
     obtain ⟨Y, rfl⟩ := hΦ; have E := Y.symm; subst E; clear hB v
     refine ⟨Jy (Jt) (ldA U190 rfl sz190 rfl (Co (n := 8) Pe hdh) hlh), ?_⟩
     refine Dx.one (i := 9) (by kernel_rfl) ?_
     refine Dstep.o0 (i := 9) rfl (stA (d := .bool) (cs' := w32s h) sz190 rfl rfl hlh (w32_all h) (by rw [w32_len, hh]; decide) (st_full (by rw [hlh]; rfl))) (fun v B' H' hΦ hB => ?_)
     obtain ⟨Y, rfl⟩ := hΦ; have E := Y.symm; subst E; clear hB v
     refine ⟨Je (Jt) (by kernel_rfl), ?_⟩
     refine Dx.done (by kernel_rfl) ?_
     exact Xx.mkK (⟨_, _, _, rfl, rfl, by ac_rfl⟩) (Sc 5 rfl (Sc 6 rfl (Sc 7 rfl (Sc 0 rfl (Sc 1 rfl (Sc 2 rfl (Sc 4 rfl (Sc 14 rfl (Sc 15 rfl (Sc 16 rfl (Sub.nil _)))))))))))
    ·
     refine Dstep.o (i := 5) rfl (allocO ti211) rfl (fun v B' H' hΦ hB => ?_)
     obtain ⟨b6, rfl, Y, rfl⟩ := hΦ; have E := Y.symm; subst E; clear hB
     refine ⟨Jy (Jt) (ldA U190 rfl sz190 rfl (Co (n := 8) Pe hdh) hlh), ?_⟩
     refine Dx.two (i := 2) (j := 6) (by kernel_rfl) ?_ ?_
     ·
      refine Dstep.o (i := 2) rfl (Ox.cb rfl rfl rfl (keys_ct _)) rfl (fun v B' H' hΦ hB => ?_)
      obtain ⟨rfl, rfl, Y⟩ := hΦ; have E := Y.symm; subst E; clear hB
      refine ⟨Jy (Jt) (ldA U190 rfl sz190 rfl (Co (n := 8) Pe hdh) hlh), ?_⟩
      refine Dx.one (i := 6) (by kernel_rfl) ?_
      refine Dstep.o (i := 6) rfl (allocO ti190) rfl (fun v B' H' hΦ hB => ?_)
      obtain ⟨b7, rfl, Y, rfl⟩ := hΦ; have E := Y.symm; subst E; clear hB
      refine ⟨Jy (Jt) (ldA U190 rfl sz190 rfl (Co (n := 8) Pe hdh) hlh), ?_⟩
      refine Dx.one (i := 7) (by kernel_rfl) ?_
      refine Dstep.o0 (i := 7) rfl (stA (d := .bool) (cs' := w32s w) sz211 rfl rfl hlw (w32_all w) (by rw [w32_len, hwl]; decide) (st_full (by rw [hlw]; rfl))) (fun v B' H' hΦ hB => ?_)
      obtain ⟨Y, rfl⟩ := hΦ; have E := Y.symm; subst E; clear hB v
      refine ⟨Jy (Jt) (ldA U190 rfl sz190 rfl (Co (n := 8) Pe hdh) hlh), ?_⟩
      refine Dx.one (i := 8) (by kernel_rfl) ?_
      refine Dstep.o0 (i := 8) rfl (stA (d := .bool) (cs' := w32s keysL) sz211 rfl rfl hlk (w32_all keysL) (by rw [w32_len, hkl]; decide) (st_full (by rw [hlk]; rfl))) (fun v B' H' hΦ hB => ?_)
      obtain ⟨Y, rfl⟩ := hΦ; have E := Y.symm; subst E; clear hB v
      refine ⟨Jy (Jt) (ldA U190 rfl sz190 rfl (Co (n := 8) Pe hdh) hlh), ?_⟩
      refine Dx.one (i := 9) (by kernel_rfl) ?_
      refine Dstep.o0 (i := 9) rfl (stA (d := .bool) (cs' := w32s h) sz190 rfl rfl hlh (w32_all h) (by rw [w32_len, hh]; decide) (st_full (by rw [hlh]; rfl))) (fun v B' H' hΦ hB => ?_)
      obtain ⟨Y, rfl⟩ := hΦ; have E := Y.symm; subst E; clear hB v
      refine ⟨Je (Jt) (by kernel_rfl), ?_⟩
      refine Dx.done (by kernel_rfl) ?_
      exact Xx.mkK (⟨_, _, _, rfl, rfl, by ac_rfl⟩) (Sc 5 rfl (Sc 6 rfl (Sc 7 rfl (Sc 0 rfl (Sc 1 rfl (Sc 2 rfl (Sc 4 rfl (Sc 14 rfl (Sc 15 rfl (Sc 16 rfl (Sub.nil _)))))))))))
     refine Dstep.o (i := 6) rfl (allocO ti190) rfl (fun v B' H' hΦ hB => ?_)
     obtain ⟨b7, rfl, Y, rfl⟩ := hΦ; have E := Y.symm; subst E; clear hB
     refine ⟨Jy (Jt) (ldA U190 rfl sz190 rfl (Co (n := 8) Pe hdh) hlh), ?_⟩
     refine Dx.one (i := 2) (by kernel_rfl) ?_
     refine Dstep.o (i := 2) rfl (Ox.cb rfl rfl rfl (keys_ct _)) rfl (fun v B' H' hΦ hB => ?_)
     obtain ⟨rfl, rfl, Y⟩ := hΦ; have E := Y.symm; subst E; clear hB
     refine ⟨Jy (Jt) (ldA U190 rfl sz190 rfl (Co (n := 8) Pe hdh) hlh), ?_⟩
     refine Dx.one (i := 7) (by kernel_rfl) ?_
     refine Dstep.o0 (i := 7) rfl (stA (d := .bool) (cs' := w32s w) sz211 rfl rfl hlw (w32_all w) (by rw [w32_len, hwl]; decide) (st_full (by rw [hlw]; rfl))) (fun v B' H' hΦ hB => ?_)
     obtain ⟨Y, rfl⟩ := hΦ; have E := Y.symm; subst E; clear hB v
     refine ⟨Jy (Jt) (ldA U190 rfl sz190 rfl (Co (n := 8) Pe hdh) hlh), ?_⟩
     refine Dx.one (i := 8) (by kernel_rfl) ?_
     refine Dstep.o0 (i := 8) rfl (stA (d := .bool) (cs' := w32s keysL) sz211 rfl rfl hlk (w32_all keysL) (by rw [w32_len, hkl]; decide) (st_full (by rw [hlk]; rfl))) (fun v B' H' hΦ hB => ?_)
     obtain ⟨Y, rfl⟩ := hΦ; have E := Y.symm; subst E; clear hB v
     refine ⟨Jy (Jt) (ldA U190 rfl sz190 rfl (Co (n := 8) Pe hdh) hlh), ?_⟩
     refine Dx.one (i := 9) (by kernel_rfl) ?_
     refine Dstep.o0 (i := 9) rfl (stA (d := .bool) (cs' := w32s h) sz190 rfl rfl hlh (w32_all h) (by rw [w32_len, hh]; decide) (st_full (by rw [hlh]; rfl))) (fun v B' H' hΦ hB => ?_)
     obtain ⟨Y, rfl⟩ := hΦ; have E := Y.symm; subst E; clear hB v
     refine ⟨Je (Jt) (by kernel_rfl), ?_⟩
     refine Dx.done (by kernel_rfl) ?_
     exact Xx.mkK (⟨_, _, _, rfl, rfl, by ac_rfl⟩) (Sc 5 rfl (Sc 6 rfl (Sc 7 rfl (Sc 0 rfl (Sc 1 rfl (Sc 2 rfl (Sc 4 rfl (Sc 14 rfl (Sc 15 rfl (Sc 16 rfl (Sub.nil _)))))))))))
    refine Dstep.o (i := 6) rfl (allocO ti190) rfl (fun v B' H' hΦ hB => ?_)
    obtain ⟨b7, rfl, Y, rfl⟩ := hΦ; have E := Y.symm; subst E; clear hB
    refine ⟨Jy (Jt) (ldA U190 rfl sz190 rfl (Co (n := 8) Pe hdh) hlh), ?_⟩
    refine Dx.two (i := 2) (j := 5) (by kernel_rfl) ?_ ?_
    ·
     refine Dstep.o (i := 2) rfl (Ox.cb rfl rfl rfl (keys_ct _)) rfl (fun v B' H' hΦ hB => ?_)
     obtain ⟨rfl, rfl, Y⟩ := hΦ; have E := Y.symm; subst E; clear hB
     refine ⟨Jy (Jt) (ldA U190 rfl sz190 rfl (Co (n := 8) Pe hdh) hlh), ?_⟩
     refine Dx.one (i := 5) (by kernel_rfl) ?_
     refine Dstep.o (i := 5) rfl (allocO ti211) rfl (fun v B' H' hΦ hB => ?_)
     obtain ⟨b6, rfl, Y, rfl⟩ := hΦ; have E := Y.symm; subst E; clear hB
     refine ⟨Jy (Jt) (ldA U190 rfl sz190 rfl (Co (n := 8) Pe hdh) hlh), ?_⟩
     refine Dx.one (i := 7) (by kernel_rfl) ?_
     refine Dstep.o0 (i := 7) rfl (stA (d := .bool) (cs' := w32s w) sz211 rfl rfl hlw (w32_all w) (by rw [w32_len, hwl]; decide) (st_full (by rw [hlw]; rfl))) (fun v B' H' hΦ hB => ?_)
     obtain ⟨Y, rfl⟩ := hΦ; have E := Y.symm; subst E; clear hB v
     refine ⟨Jy (Jt) (ldA U190 rfl sz190 rfl (Co (n := 8) Pe hdh) hlh), ?_⟩
     refine Dx.one (i := 8) (by kernel_rfl) ?_
     refine Dstep.o0 (i := 8) rfl (stA (d := .bool) (cs' := w32s keysL) sz211 rfl rfl hlk (w32_all keysL) (by rw [w32_len, hkl]; decide) (st_full (by rw [hlk]; rfl))) (fun v B' H' hΦ hB => ?_)
     obtain ⟨Y, rfl⟩ := hΦ; have E := Y.symm; subst E; clear hB v
     refine ⟨Jy (Jt) (ldA U190 rfl sz190 rfl (Co (n := 8) Pe hdh) hlh), ?_⟩
     refine Dx.one (i := 9) (by kernel_rfl) ?_
     refine Dstep.o0 (i := 9) rfl (stA (d := .bool) (cs' := w32s h) sz190 rfl rfl hlh (w32_all h) (by rw [w32_len, hh]; decide) (st_full (by rw [hlh]; rfl))) (fun v B' H' hΦ hB => ?_)
     obtain ⟨Y, rfl⟩ := hΦ; have E := Y.symm; subst E; clear hB v
     refine ⟨Je (Jt) (by kernel_rfl), ?_⟩
     refine Dx.done (by kernel_rfl) ?_
     exact Xx.mkK (⟨_, _, _, rfl, rfl, by ac_rfl⟩) (Sc 5 rfl (Sc 6 rfl (Sc 7 rfl (Sc 0 rfl (Sc 1 rfl (Sc 2 rfl (Sc 4 rfl (Sc 14 rfl (Sc 15 rfl (Sc 16 rfl (Sub.nil _)))))))))))
    refine Dstep.o (i := 5) rfl (allocO ti211) rfl (fun v B' H' hΦ hB => ?_)
    obtain ⟨b6, rfl, Y, rfl⟩ := hΦ; have E := Y.symm; subst E; clear hB
    refine ⟨Jy (Jt) (ldA U190 rfl sz190 rfl (Co (n := 8) Pe hdh) hlh), ?_⟩
    refine Dx.one (i := 2) (by kernel_rfl) ?_
    refine Dstep.o (i := 2) rfl (Ox.cb rfl rfl rfl (keys_ct _)) rfl (fun v B' H' hΦ hB => ?_)
    obtain ⟨rfl, rfl, Y⟩ := hΦ; have E := Y.symm; subst E; clear hB
    refine ⟨Jy (Jt) (ldA U190 rfl sz190 rfl (Co (n := 8) Pe hdh) hlh), ?_⟩
    refine Dx.one (i := 7) (by kernel_rfl) ?_
    refine Dstep.o0 (i := 7) rfl (stA (d := .bool) (cs' := w32s w) sz211 rfl rfl hlw (w32_all w) (by rw [w32_len, hwl]; decide) (st_full (by rw [hlw]; rfl))) (fun v B' H' hΦ hB => ?_)
    obtain ⟨Y, rfl⟩ := hΦ; have E := Y.symm; subst E; clear hB v
    refine ⟨Jy (Jt) (ldA U190 rfl sz190 rfl (Co (n := 8) Pe hdh) hlh), ?_⟩
    refine Dx.one (i := 8) (by kernel_rfl) ?_
    refine Dstep.o0 (i := 8) rfl (stA (d := .bool) (cs' := w32s keysL) sz211 rfl rfl hlk (w32_all keysL) (by rw [w32_len, hkl]; decide) (st_full (by rw [hlk]; rfl))) (fun v B' H' hΦ hB => ?_)
    obtain ⟨Y, rfl⟩ := hΦ; have E := Y.symm; subst E; clear hB v
    refine ⟨Jy (Jt) (ldA U190 rfl sz190 rfl (Co (n := 8) Pe hdh) hlh), ?_⟩
    refine Dx.one (i := 9) (by kernel_rfl) ?_
    refine Dstep.o0 (i := 9) rfl (stA (d := .bool) (cs' := w32s h) sz190 rfl rfl hlh (w32_all h) (by rw [w32_len, hh]; decide) (st_full (by rw [hlh]; rfl))) (fun v B' H' hΦ hB => ?_)
    obtain ⟨Y, rfl⟩ := hΦ; have E := Y.symm; subst E; clear hB v
    refine ⟨Je (Jt) (by kernel_rfl), ?_⟩
    refine Dx.done (by kernel_rfl) ?_
    exact Xx.mkK (⟨_, _, _, rfl, rfl, by ac_rfl⟩) (Sc 5 rfl (Sc 6 rfl (Sc 7 rfl (Sc 0 rfl (Sc 1 rfl (Sc 2 rfl (Sc 4 rfl (Sc 14 rfl (Sc 15 rfl (Sc 16 rfl (Sub.nil _)))))))))))
   ·
    refine Dstep.o (i := 5) rfl (allocO ti211) rfl (fun v B' H' hΦ hB => ?_)
    obtain ⟨b6, rfl, Y, rfl⟩ := hΦ; have E := Y.symm; subst E; clear hB
    refine ⟨Jy (Jt) (ldA U190 rfl sz190 rfl (Co (n := 8) Pe hdh) hlh), ?_⟩
    refine Dx.two (i := 1) (j := 6) (by kernel_rfl) ?_ ?_
    ·
     refine Dstep.o (i := 1) rfl (Ox.cb rfl rfl rfl (hspr _)) rfl (fun v B' H' hΦ hB => ?_)
     obtain ⟨rfl, rfl, Y⟩ := hΦ; have E := Y.symm; subst E; clear hB
     refine ⟨Jy (Jt) (ldA U190 rfl sz190 rfl (Co (n := 8) Pe hdh) hlh), ?_⟩
     refine Dx.two (i := 2) (j := 6) (by kernel_rfl) ?_ ?_
     ·
      refine Dstep.o (i := 2) rfl (Ox.cb rfl rfl rfl (keys_ct _)) rfl (fun v B' H' hΦ hB => ?_)
      obtain ⟨rfl, rfl, Y⟩ := hΦ; have E := Y.symm; subst E; clear hB
      refine ⟨Jy (Jt) (ldA U190 rfl sz190 rfl (Co (n := 8) Pe hdh) hlh), ?_⟩
      refine Dx.one (i := 6) (by kernel_rfl) ?_
      refine Dstep.o (i := 6) rfl (allocO ti190) rfl (fun v B' H' hΦ hB => ?_)
      obtain ⟨b7, rfl, Y, rfl⟩ := hΦ; have E := Y.symm; subst E; clear hB
      refine ⟨Jy (Jt) (ldA U190 rfl sz190 rfl (Co (n := 8) Pe hdh) hlh), ?_⟩
      refine Dx.one (i := 7) (by kernel_rfl) ?_
      refine Dstep.o0 (i := 7) rfl (stA (d := .bool) (cs' := w32s w) sz211 rfl rfl hlw (w32_all w) (by rw [w32_len, hwl]; decide) (st_full (by rw [hlw]; rfl))) (fun v B' H' hΦ hB => ?_)
      obtain ⟨Y, rfl⟩ := hΦ; have E := Y.symm; subst E; clear hB v
      refine ⟨Jy (Jt) (ldA U190 rfl sz190 rfl (Co (n := 8) Pe hdh) hlh), ?_⟩
      refine Dx.one (i := 8) (by kernel_rfl) ?_
      refine Dstep.o0 (i := 8) rfl (stA (d := .bool) (cs' := w32s keysL) sz211 rfl rfl hlk (w32_all keysL) (by rw [w32_len, hkl]; decide) (st_full (by rw [hlk]; rfl))) (fun v B' H' hΦ hB => ?_)
      obtain ⟨Y, rfl⟩ := hΦ; have E := Y.symm; subst E; clear hB v
      refine ⟨Jy (Jt) (ldA U190 rfl sz190 rfl (Co (n := 8) Pe hdh) hlh), ?_⟩
      refine Dx.one (i := 9) (by kernel_rfl) ?_
      refine Dstep.o0 (i := 9) rfl (stA (d := .bool) (cs' := w32s h) sz190 rfl rfl hlh (w32_all h) (by rw [w32_len, hh]; decide) (st_full (by rw [hlh]; rfl))) (fun v B' H' hΦ hB => ?_)
      obtain ⟨Y, rfl⟩ := hΦ; have E := Y.symm; subst E; clear hB v
      refine ⟨Je (Jt) (by kernel_rfl), ?_⟩
      refine Dx.done (by kernel_rfl) ?_
      exact Xx.mkK (⟨_, _, _, rfl, rfl, by ac_rfl⟩) (Sc 5 rfl (Sc 6 rfl (Sc 7 rfl (Sc 0 rfl (Sc 1 rfl (Sc 2 rfl (Sc 4 rfl (Sc 14 rfl (Sc 15 rfl (Sc 16 rfl (Sub.nil _)))))))))))
     refine Dstep.o (i := 6) rfl (allocO ti190) rfl (fun v B' H' hΦ hB => ?_)
     obtain ⟨b7, rfl, Y, rfl⟩ := hΦ; have E := Y.symm; subst E; clear hB
     refine ⟨Jy (Jt) (ldA U190 rfl sz190 rfl (Co (n := 8) Pe hdh) hlh), ?_⟩
     refine Dx.one (i := 2) (by kernel_rfl) ?_
     refine Dstep.o (i := 2) rfl (Ox.cb rfl rfl rfl (keys_ct _)) rfl (fun v B' H' hΦ hB => ?_)
     obtain ⟨rfl, rfl, Y⟩ := hΦ; have E := Y.symm; subst E; clear hB
     refine ⟨Jy (Jt) (ldA U190 rfl sz190 rfl (Co (n := 8) Pe hdh) hlh), ?_⟩
     refine Dx.one (i := 7) (by kernel_rfl) ?_
     refine Dstep.o0 (i := 7) rfl (stA (d := .bool) (cs' := w32s w) sz211 rfl rfl hlw (w32_all w) (by rw [w32_len, hwl]; decide) (st_full (by rw [hlw]; rfl))) (fun v B' H' hΦ hB => ?_)
     obtain ⟨Y, rfl⟩ := hΦ; have E := Y.symm; subst E; clear hB v
     refine ⟨Jy (Jt) (ldA U190 rfl sz190 rfl (Co (n := 8) Pe hdh) hlh), ?_⟩
     refine Dx.one (i := 8) (by kernel_rfl) ?_
     refine Dstep.o0 (i := 8) rfl (stA (d := .bool) (cs' := w32s keysL) sz211 rfl rfl hlk (w32_all keysL) (by rw [w32_len, hkl]; decide) (st_full (by rw [hlk]; rfl))) (fun v B' H' hΦ hB => ?_)
     obtain ⟨Y, rfl⟩ := hΦ; have E := Y.symm; subst E; clear hB v
     refine ⟨Jy (Jt) (ldA U190 rfl sz190 rfl (Co (n := 8) Pe hdh) hlh), ?_⟩
     refine Dx.one (i := 9) (by kernel_rfl) ?_
     refine Dstep.o0 (i := 9) rfl (stA (d := .bool) (cs' := w32s h) sz190 rfl rfl hlh (w32_all h) (by rw [w32_len, hh]; decide) (st_full (by rw [hlh]; rfl))) (fun v B' H' hΦ hB => ?_)
     obtain ⟨Y, rfl⟩ := hΦ; have E := Y.symm; subst E; clear hB v
     refine ⟨Je (Jt) (by kernel_rfl), ?_⟩
     refine Dx.done (by kernel_rfl) ?_
     exact Xx.mkK (⟨_, _, _, rfl, rfl, by ac_rfl⟩) (Sc 5 rfl (Sc 6 rfl (Sc 7 rfl (Sc 0 rfl (Sc 1 rfl (Sc 2 rfl (Sc 4 rfl (Sc 14 rfl (Sc 15 rfl (Sc 16 rfl (Sub.nil _)))))))))))
    refine Dstep.o (i := 6) rfl (allocO ti190) rfl (fun v B' H' hΦ hB => ?_)
    obtain ⟨b7, rfl, Y, rfl⟩ := hΦ; have E := Y.symm; subst E; clear hB
    refine ⟨Jy (Jt) (ldA U190 rfl sz190 rfl (Co (n := 8) Pe hdh) hlh), ?_⟩
    refine Dx.one (i := 1) (by kernel_rfl) ?_
    refine Dstep.o (i := 1) rfl (Ox.cb rfl rfl rfl (hspr _)) rfl (fun v B' H' hΦ hB => ?_)
    obtain ⟨rfl, rfl, Y⟩ := hΦ; have E := Y.symm; subst E; clear hB
    refine ⟨Jy (Jt) (ldA U190 rfl sz190 rfl (Co (n := 8) Pe hdh) hlh), ?_⟩
    refine Dx.one (i := 2) (by kernel_rfl) ?_
    refine Dstep.o (i := 2) rfl (Ox.cb rfl rfl rfl (keys_ct _)) rfl (fun v B' H' hΦ hB => ?_)
    obtain ⟨rfl, rfl, Y⟩ := hΦ; have E := Y.symm; subst E; clear hB
    refine ⟨Jy (Jt) (ldA U190 rfl sz190 rfl (Co (n := 8) Pe hdh) hlh), ?_⟩
    refine Dx.one (i := 7) (by kernel_rfl) ?_
    refine Dstep.o0 (i := 7) rfl (stA (d := .bool) (cs' := w32s w) sz211 rfl rfl hlw (w32_all w) (by rw [w32_len, hwl]; decide) (st_full (by rw [hlw]; rfl))) (fun v B' H' hΦ hB => ?_)
    obtain ⟨Y, rfl⟩ := hΦ; have E := Y.symm; subst E; clear hB v
    refine ⟨Jy (Jt) (ldA U190 rfl sz190 rfl (Co (n := 8) Pe hdh) hlh), ?_⟩
    refine Dx.one (i := 8) (by kernel_rfl) ?_
    refine Dstep.o0 (i := 8) rfl (stA (d := .bool) (cs' := w32s keysL) sz211 rfl rfl hlk (w32_all keysL) (by rw [w32_len, hkl]; decide) (st_full (by rw [hlk]; rfl))) (fun v B' H' hΦ hB => ?_)
    obtain ⟨Y, rfl⟩ := hΦ; have E := Y.symm; subst E; clear hB v
    refine ⟨Jy (Jt) (ldA U190 rfl sz190 rfl (Co (n := 8) Pe hdh) hlh), ?_⟩
    refine Dx.one (i := 9) (by kernel_rfl) ?_
    refine Dstep.o0 (i := 9) rfl (stA (d := .bool) (cs' := w32s h) sz190 rfl rfl hlh (w32_all h) (by rw [w32_len, hh]; decide) (st_full (by rw [hlh]; rfl))) (fun v B' H' hΦ hB => ?_)
    obtain ⟨Y, rfl⟩ := hΦ; have E := Y.symm; subst E; clear hB v
    refine ⟨Je (Jt) (by kernel_rfl), ?_⟩
    refine Dx.done (by kernel_rfl) ?_
    exact Xx.mkK (⟨_, _, _, rfl, rfl, by ac_rfl⟩) (Sc 5 rfl (Sc 6 rfl (Sc 7 rfl (Sc 0 rfl (Sc 1 rfl (Sc 2 rfl (Sc 4 rfl (Sc 14 rfl (Sc 15 rfl (Sc 16 rfl (Sub.nil _)))))))))))
   refine Dstep.o (i := 6) rfl (allocO ti190) rfl (fun v B' H' hΦ hB => ?_)
   obtain ⟨b7, rfl, Y, rfl⟩ := hΦ; have E := Y.symm; subst E; clear hB
   refine ⟨Jy (Jt) (ldA U190 rfl sz190 rfl (Co (n := 8) Pe hdh) hlh), ?_⟩
   refine Dx.two (i := 1) (j := 5) (by kernel_rfl) ?_ ?_
   ·
    refine Dstep.o (i := 1) rfl (Ox.cb rfl rfl rfl (hspr _)) rfl (fun v B' H' hΦ hB => ?_)
    obtain ⟨rfl, rfl, Y⟩ := hΦ; have E := Y.symm; subst E; clear hB
    refine ⟨Jy (Jt) (ldA U190 rfl sz190 rfl (Co (n := 8) Pe hdh) hlh), ?_⟩
    refine Dx.two (i := 2) (j := 5) (by kernel_rfl) ?_ ?_
    ·
     refine Dstep.o (i := 2) rfl (Ox.cb rfl rfl rfl (keys_ct _)) rfl (fun v B' H' hΦ hB => ?_)
     obtain ⟨rfl, rfl, Y⟩ := hΦ; have E := Y.symm; subst E; clear hB
     refine ⟨Jy (Jt) (ldA U190 rfl sz190 rfl (Co (n := 8) Pe hdh) hlh), ?_⟩
     refine Dx.one (i := 5) (by kernel_rfl) ?_
     refine Dstep.o (i := 5) rfl (allocO ti211) rfl (fun v B' H' hΦ hB => ?_)
     obtain ⟨b6, rfl, Y, rfl⟩ := hΦ; have E := Y.symm; subst E; clear hB
     refine ⟨Jy (Jt) (ldA U190 rfl sz190 rfl (Co (n := 8) Pe hdh) hlh), ?_⟩
     refine Dx.one (i := 7) (by kernel_rfl) ?_
     refine Dstep.o0 (i := 7) rfl (stA (d := .bool) (cs' := w32s w) sz211 rfl rfl hlw (w32_all w) (by rw [w32_len, hwl]; decide) (st_full (by rw [hlw]; rfl))) (fun v B' H' hΦ hB => ?_)
     obtain ⟨Y, rfl⟩ := hΦ; have E := Y.symm; subst E; clear hB v
     refine ⟨Jy (Jt) (ldA U190 rfl sz190 rfl (Co (n := 8) Pe hdh) hlh), ?_⟩
     refine Dx.one (i := 8) (by kernel_rfl) ?_
     refine Dstep.o0 (i := 8) rfl (stA (d := .bool) (cs' := w32s keysL) sz211 rfl rfl hlk (w32_all keysL) (by rw [w32_len, hkl]; decide) (st_full (by rw [hlk]; rfl))) (fun v B' H' hΦ hB => ?_)
     obtain ⟨Y, rfl⟩ := hΦ; have E := Y.symm; subst E; clear hB v
     refine ⟨Jy (Jt) (ldA U190 rfl sz190 rfl (Co (n := 8) Pe hdh) hlh), ?_⟩
     refine Dx.one (i := 9) (by kernel_rfl) ?_
     refine Dstep.o0 (i := 9) rfl (stA (d := .bool) (cs' := w32s h) sz190 rfl rfl hlh (w32_all h) (by rw [w32_len, hh]; decide) (st_full (by rw [hlh]; rfl))) (fun v B' H' hΦ hB => ?_)
     obtain ⟨Y, rfl⟩ := hΦ; have E := Y.symm; subst E; clear hB v
     refine ⟨Je (Jt) (by kernel_rfl), ?_⟩
     refine Dx.done (by kernel_rfl) ?_
     exact Xx.mkK (⟨_, _, _, rfl, rfl, by ac_rfl⟩) (Sc 5 rfl (Sc 6 rfl (Sc 7 rfl (Sc 0 rfl (Sc 1 rfl (Sc 2 rfl (Sc 4 rfl (Sc 14 rfl (Sc 15 rfl (Sc 16 rfl (Sub.nil _)))))))))))
    refine Dstep.o (i := 5) rfl (allocO ti211) rfl (fun v B' H' hΦ hB => ?_)
    obtain ⟨b6, rfl, Y, rfl⟩ := hΦ; have E := Y.symm; subst E; clear hB
    refine ⟨Jy (Jt) (ldA U190 rfl sz190 rfl (Co (n := 8) Pe hdh) hlh), ?_⟩
    refine Dx.one (i := 2) (by kernel_rfl) ?_
    refine Dstep.o (i := 2) rfl (Ox.cb rfl rfl rfl (keys_ct _)) rfl (fun v B' H' hΦ hB => ?_)
    obtain ⟨rfl, rfl, Y⟩ := hΦ; have E := Y.symm; subst E; clear hB
    refine ⟨Jy (Jt) (ldA U190 rfl sz190 rfl (Co (n := 8) Pe hdh) hlh), ?_⟩
    refine Dx.one (i := 7) (by kernel_rfl) ?_
    refine Dstep.o0 (i := 7) rfl (stA (d := .bool) (cs' := w32s w) sz211 rfl rfl hlw (w32_all w) (by rw [w32_len, hwl]; decide) (st_full (by rw [hlw]; rfl))) (fun v B' H' hΦ hB => ?_)
    obtain ⟨Y, rfl⟩ := hΦ; have E := Y.symm; subst E; clear hB v
    refine ⟨Jy (Jt) (ldA U190 rfl sz190 rfl (Co (n := 8) Pe hdh) hlh), ?_⟩
    refine Dx.one (i := 8) (by kernel_rfl) ?_
    refine Dstep.o0 (i := 8) rfl (stA (d := .bool) (cs' := w32s keysL) sz211 rfl rfl hlk (w32_all keysL) (by rw [w32_len, hkl]; decide) (st_full (by rw [hlk]; rfl))) (fun v B' H' hΦ hB => ?_)
    obtain ⟨Y, rfl⟩ := hΦ; have E := Y.symm; subst E; clear hB v
    refine ⟨Jy (Jt) (ldA U190 rfl sz190 rfl (Co (n := 8) Pe hdh) hlh), ?_⟩
    refine Dx.one (i := 9) (by kernel_rfl) ?_
    refine Dstep.o0 (i := 9) rfl (stA (d := .bool) (cs' := w32s h) sz190 rfl rfl hlh (w32_all h) (by rw [w32_len, hh]; decide) (st_full (by rw [hlh]; rfl))) (fun v B' H' hΦ hB => ?_)
    obtain ⟨Y, rfl⟩ := hΦ; have E := Y.symm; subst E; clear hB v
    refine ⟨Je (Jt) (by kernel_rfl), ?_⟩
    refine Dx.done (by kernel_rfl) ?_
    exact Xx.mkK (⟨_, _, _, rfl, rfl, by ac_rfl⟩) (Sc 5 rfl (Sc 6 rfl (Sc 7 rfl (Sc 0 rfl (Sc 1 rfl (Sc 2 rfl (Sc 4 rfl (Sc 14 rfl (Sc 15 rfl (Sc 16 rfl (Sub.nil _)))))))))))
   refine Dstep.o (i := 5) rfl (allocO ti211) rfl (fun v B' H' hΦ hB => ?_)
   obtain ⟨b6, rfl, Y, rfl⟩ := hΦ; have E := Y.symm; subst E; clear hB
   refine ⟨Jy (Jt) (ldA U190 rfl sz190 rfl (Co (n := 8) Pe hdh) hlh), ?_⟩
   refine Dx.one (i := 1) (by kernel_rfl) ?_
   refine Dstep.o (i := 1) rfl (Ox.cb rfl rfl rfl (hspr _)) rfl (fun v B' H' hΦ hB => ?_)
   obtain ⟨rfl, rfl, Y⟩ := hΦ; have E := Y.symm; subst E; clear hB
   refine ⟨Jy (Jt) (ldA U190 rfl sz190 rfl (Co (n := 8) Pe hdh) hlh), ?_⟩
   refine Dx.one (i := 2) (by kernel_rfl) ?_
   refine Dstep.o (i := 2) rfl (Ox.cb rfl rfl rfl (keys_ct _)) rfl (fun v B' H' hΦ hB => ?_)
   obtain ⟨rfl, rfl, Y⟩ := hΦ; have E := Y.symm; subst E; clear hB
   refine ⟨Jy (Jt) (ldA U190 rfl sz190 rfl (Co (n := 8) Pe hdh) hlh), ?_⟩
   refine Dx.one (i := 7) (by kernel_rfl) ?_
   refine Dstep.o0 (i := 7) rfl (stA (d := .bool) (cs' := w32s w) sz211 rfl rfl hlw (w32_all w) (by rw [w32_len, hwl]; decide) (st_full (by rw [hlw]; rfl))) (fun v B' H' hΦ hB => ?_)
   obtain ⟨Y, rfl⟩ := hΦ; have E := Y.symm; subst E; clear hB v
   refine ⟨Jy (Jt) (ldA U190 rfl sz190 rfl (Co (n := 8) Pe hdh) hlh), ?_⟩
   refine Dx.one (i := 8) (by kernel_rfl) ?_
   refine Dstep.o0 (i := 8) rfl (stA (d := .bool) (cs' := w32s keysL) sz211 rfl rfl hlk (w32_all keysL) (by rw [w32_len, hkl]; decide) (st_full (by rw [hlk]; rfl))) (fun v B' H' hΦ hB => ?_)
   obtain ⟨Y, rfl⟩ := hΦ; have E := Y.symm; subst E; clear hB v
   refine ⟨Jy (Jt) (ldA U190 rfl sz190 rfl (Co (n := 8) Pe hdh) hlh), ?_⟩
   refine Dx.one (i := 9) (by kernel_rfl) ?_
   refine Dstep.o0 (i := 9) rfl (stA (d := .bool) (cs' := w32s h) sz190 rfl rfl hlh (w32_all h) (by rw [w32_len, hh]; decide) (st_full (by rw [hlh]; rfl))) (fun v B' H' hΦ hB => ?_)
   obtain ⟨Y, rfl⟩ := hΦ; have E := Y.symm; subst E; clear hB v
   refine ⟨Je (Jt) (by kernel_rfl), ?_⟩
   refine Dx.done (by kernel_rfl) ?_
   exact Xx.mkK (⟨_, _, _, rfl, rfl, by ac_rfl⟩) (Sc 5 rfl (Sc 6 rfl (Sc 7 rfl (Sc 0 rfl (Sc 1 rfl (Sc 2 rfl (Sc 4 rfl (Sc 14 rfl (Sc 15 rfl (Sc 16 rfl (Sub.nil _)))))))))))
  ·
   refine Dstep.o (i := 5) rfl (allocO ti211) rfl (fun v B' H' hΦ hB => ?_)
   obtain ⟨b6, rfl, Y, rfl⟩ := hΦ; have E := Y.symm; subst E; clear hB
   refine ⟨Jy (Jt) (ldA U190 rfl sz190 rfl (Co (n := 8) Pe hdh) hlh), ?_⟩
   refine Dx.three (i := 1) (j := 4) (l := 6) (by kernel_rfl) ?_ ?_ ?_
   ·
    refine Dstep.o (i := 1) rfl (Ox.cb rfl rfl rfl (hspr _)) rfl (fun v B' H' hΦ hB => ?_)
    obtain ⟨rfl, rfl, Y⟩ := hΦ; have E := Y.symm; subst E; clear hB
    refine ⟨Jy (Jt) (ldA U190 rfl sz190 rfl (Co (n := 8) Pe hdh) hlh), ?_⟩
    refine Dx.three (i := 2) (j := 4) (l := 6) (by kernel_rfl) ?_ ?_ ?_
    ·
     refine Dstep.o (i := 2) rfl (Ox.cb rfl rfl rfl (keys_ct _)) rfl (fun v B' H' hΦ hB => ?_)
     obtain ⟨rfl, rfl, Y⟩ := hΦ; have E := Y.symm; subst E; clear hB
     refine ⟨Jy (Jt) (ldA U190 rfl sz190 rfl (Co (n := 8) Pe hdh) hlh), ?_⟩
     refine Dx.two (i := 4) (j := 6) (by kernel_rfl) ?_ ?_
     ·
      refine Dstep.o (i := 4) rfl (allocO ti211) rfl (fun v B' H' hΦ hB => ?_)
      obtain ⟨b5, rfl, Y, rfl⟩ := hΦ; have E := Y.symm; subst E; clear hB
      refine ⟨Jy (Jt) (ldA U190 rfl sz190 rfl (Co (n := 8) Pe hdh) hlh), ?_⟩
      refine Dx.one (i := 6) (by kernel_rfl) ?_
      refine Dstep.o (i := 6) rfl (allocO ti190) rfl (fun v B' H' hΦ hB => ?_)
      obtain ⟨b7, rfl, Y, rfl⟩ := hΦ; have E := Y.symm; subst E; clear hB
      refine ⟨Jy (Jt) (ldA U190 rfl sz190 rfl (Co (n := 8) Pe hdh) hlh), ?_⟩
      refine Dx.one (i := 7) (by kernel_rfl) ?_
      refine Dstep.o0 (i := 7) rfl (stA (d := .bool) (cs' := w32s w) sz211 rfl rfl hlw (w32_all w) (by rw [w32_len, hwl]; decide) (st_full (by rw [hlw]; rfl))) (fun v B' H' hΦ hB => ?_)
      obtain ⟨Y, rfl⟩ := hΦ; have E := Y.symm; subst E; clear hB v
      refine ⟨Jy (Jt) (ldA U190 rfl sz190 rfl (Co (n := 8) Pe hdh) hlh), ?_⟩
      refine Dx.one (i := 8) (by kernel_rfl) ?_
      refine Dstep.o0 (i := 8) rfl (stA (d := .bool) (cs' := w32s keysL) sz211 rfl rfl hlk (w32_all keysL) (by rw [w32_len, hkl]; decide) (st_full (by rw [hlk]; rfl))) (fun v B' H' hΦ hB => ?_)
      obtain ⟨Y, rfl⟩ := hΦ; have E := Y.symm; subst E; clear hB v
      refine ⟨Jy (Jt) (ldA U190 rfl sz190 rfl (Co (n := 8) Pe hdh) hlh), ?_⟩
      refine Dx.one (i := 9) (by kernel_rfl) ?_
      refine Dstep.o0 (i := 9) rfl (stA (d := .bool) (cs' := w32s h) sz190 rfl rfl hlh (w32_all h) (by rw [w32_len, hh]; decide) (st_full (by rw [hlh]; rfl))) (fun v B' H' hΦ hB => ?_)
      obtain ⟨Y, rfl⟩ := hΦ; have E := Y.symm; subst E; clear hB v
      refine ⟨Je (Jt) (by kernel_rfl), ?_⟩
      refine Dx.done (by kernel_rfl) ?_
      exact Xx.mkK (⟨_, _, _, rfl, rfl, by ac_rfl⟩) (Sc 5 rfl (Sc 6 rfl (Sc 7 rfl (Sc 0 rfl (Sc 1 rfl (Sc 2 rfl (Sc 4 rfl (Sc 14 rfl (Sc 15 rfl (Sc 16 rfl (Sub.nil _)))))))))))
     refine Dstep.o (i := 6) rfl (allocO ti190) rfl (fun v B' H' hΦ hB => ?_)
     obtain ⟨b7, rfl, Y, rfl⟩ := hΦ; have E := Y.symm; subst E; clear hB
     refine ⟨Jy (Jt) (ldA U190 rfl sz190 rfl (Co (n := 8) Pe hdh) hlh), ?_⟩
     refine Dx.one (i := 4) (by kernel_rfl) ?_
     refine Dstep.o (i := 4) rfl (allocO ti211) rfl (fun v B' H' hΦ hB => ?_)
     obtain ⟨b5, rfl, Y, rfl⟩ := hΦ; have E := Y.symm; subst E; clear hB
     refine ⟨Jy (Jt) (ldA U190 rfl sz190 rfl (Co (n := 8) Pe hdh) hlh), ?_⟩
     refine Dx.one (i := 7) (by kernel_rfl) ?_
     refine Dstep.o0 (i := 7) rfl (stA (d := .bool) (cs' := w32s w) sz211 rfl rfl hlw (w32_all w) (by rw [w32_len, hwl]; decide) (st_full (by rw [hlw]; rfl))) (fun v B' H' hΦ hB => ?_)
     obtain ⟨Y, rfl⟩ := hΦ; have E := Y.symm; subst E; clear hB v
     refine ⟨Jy (Jt) (ldA U190 rfl sz190 rfl (Co (n := 8) Pe hdh) hlh), ?_⟩
     refine Dx.one (i := 8) (by kernel_rfl) ?_
     refine Dstep.o0 (i := 8) rfl (stA (d := .bool) (cs' := w32s keysL) sz211 rfl rfl hlk (w32_all keysL) (by rw [w32_len, hkl]; decide) (st_full (by rw [hlk]; rfl))) (fun v B' H' hΦ hB => ?_)
     obtain ⟨Y, rfl⟩ := hΦ; have E := Y.symm; subst E; clear hB v
     refine ⟨Jy (Jt) (ldA U190 rfl sz190 rfl (Co (n := 8) Pe hdh) hlh), ?_⟩
     refine Dx.one (i := 9) (by kernel_rfl) ?_
     refine Dstep.o0 (i := 9) rfl (stA (d := .bool) (cs' := w32s h) sz190 rfl rfl hlh (w32_all h) (by rw [w32_len, hh]; decide) (st_full (by rw [hlh]; rfl))) (fun v B' H' hΦ hB => ?_)
     obtain ⟨Y, rfl⟩ := hΦ; have E := Y.symm; subst E; clear hB v
     refine ⟨Je (Jt) (by kernel_rfl), ?_⟩
     refine Dx.done (by kernel_rfl) ?_
     exact Xx.mkK (⟨_, _, _, rfl, rfl, by ac_rfl⟩) (Sc 5 rfl (Sc 6 rfl (Sc 7 rfl (Sc 0 rfl (Sc 1 rfl (Sc 2 rfl (Sc 4 rfl (Sc 14 rfl (Sc 15 rfl (Sc 16 rfl (Sub.nil _)))))))))))
    ·
     refine Dstep.o (i := 4) rfl (allocO ti211) rfl (fun v B' H' hΦ hB => ?_)
     obtain ⟨b5, rfl, Y, rfl⟩ := hΦ; have E := Y.symm; subst E; clear hB
     refine ⟨Jy (Jt) (ldA U190 rfl sz190 rfl (Co (n := 8) Pe hdh) hlh), ?_⟩
     refine Dx.two (i := 2) (j := 6) (by kernel_rfl) ?_ ?_
     ·
      refine Dstep.o (i := 2) rfl (Ox.cb rfl rfl rfl (keys_ct _)) rfl (fun v B' H' hΦ hB => ?_)
      obtain ⟨rfl, rfl, Y⟩ := hΦ; have E := Y.symm; subst E; clear hB
      refine ⟨Jy (Jt) (ldA U190 rfl sz190 rfl (Co (n := 8) Pe hdh) hlh), ?_⟩
      refine Dx.one (i := 6) (by kernel_rfl) ?_
      refine Dstep.o (i := 6) rfl (allocO ti190) rfl (fun v B' H' hΦ hB => ?_)
      obtain ⟨b7, rfl, Y, rfl⟩ := hΦ; have E := Y.symm; subst E; clear hB
      refine ⟨Jy (Jt) (ldA U190 rfl sz190 rfl (Co (n := 8) Pe hdh) hlh), ?_⟩
      refine Dx.one (i := 7) (by kernel_rfl) ?_
      refine Dstep.o0 (i := 7) rfl (stA (d := .bool) (cs' := w32s w) sz211 rfl rfl hlw (w32_all w) (by rw [w32_len, hwl]; decide) (st_full (by rw [hlw]; rfl))) (fun v B' H' hΦ hB => ?_)
      obtain ⟨Y, rfl⟩ := hΦ; have E := Y.symm; subst E; clear hB v
      refine ⟨Jy (Jt) (ldA U190 rfl sz190 rfl (Co (n := 8) Pe hdh) hlh), ?_⟩
      refine Dx.one (i := 8) (by kernel_rfl) ?_
      refine Dstep.o0 (i := 8) rfl (stA (d := .bool) (cs' := w32s keysL) sz211 rfl rfl hlk (w32_all keysL) (by rw [w32_len, hkl]; decide) (st_full (by rw [hlk]; rfl))) (fun v B' H' hΦ hB => ?_)
      obtain ⟨Y, rfl⟩ := hΦ; have E := Y.symm; subst E; clear hB v
      refine ⟨Jy (Jt) (ldA U190 rfl sz190 rfl (Co (n := 8) Pe hdh) hlh), ?_⟩
      refine Dx.one (i := 9) (by kernel_rfl) ?_
      refine Dstep.o0 (i := 9) rfl (stA (d := .bool) (cs' := w32s h) sz190 rfl rfl hlh (w32_all h) (by rw [w32_len, hh]; decide) (st_full (by rw [hlh]; rfl))) (fun v B' H' hΦ hB => ?_)
      obtain ⟨Y, rfl⟩ := hΦ; have E := Y.symm; subst E; clear hB v
      refine ⟨Je (Jt) (by kernel_rfl), ?_⟩
      refine Dx.done (by kernel_rfl) ?_
      exact Xx.mkK (⟨_, _, _, rfl, rfl, by ac_rfl⟩) (Sc 5 rfl (Sc 6 rfl (Sc 7 rfl (Sc 0 rfl (Sc 1 rfl (Sc 2 rfl (Sc 4 rfl (Sc 14 rfl (Sc 15 rfl (Sc 16 rfl (Sub.nil _)))))))))))
     refine Dstep.o (i := 6) rfl (allocO ti190) rfl (fun v B' H' hΦ hB => ?_)
     obtain ⟨b7, rfl, Y, rfl⟩ := hΦ; have E := Y.symm; subst E; clear hB
     refine ⟨Jy (Jt) (ldA U190 rfl sz190 rfl (Co (n := 8) Pe hdh) hlh), ?_⟩
     refine Dx.one (i := 2) (by kernel_rfl) ?_
     refine Dstep.o (i := 2) rfl (Ox.cb rfl rfl rfl (keys_ct _)) rfl (fun v B' H' hΦ hB => ?_)
     obtain ⟨rfl, rfl, Y⟩ := hΦ; have E := Y.symm; subst E; clear hB
     refine ⟨Jy (Jt) (ldA U190 rfl sz190 rfl (Co (n := 8) Pe hdh) hlh), ?_⟩
     refine Dx.one (i := 7) (by kernel_rfl) ?_
     refine Dstep.o0 (i := 7) rfl (stA (d := .bool) (cs' := w32s w) sz211 rfl rfl hlw (w32_all w) (by rw [w32_len, hwl]; decide) (st_full (by rw [hlw]; rfl))) (fun v B' H' hΦ hB => ?_)
     obtain ⟨Y, rfl⟩ := hΦ; have E := Y.symm; subst E; clear hB v
     refine ⟨Jy (Jt) (ldA U190 rfl sz190 rfl (Co (n := 8) Pe hdh) hlh), ?_⟩
     refine Dx.one (i := 8) (by kernel_rfl) ?_
     refine Dstep.o0 (i := 8) rfl (stA (d := .bool) (cs' := w32s keysL) sz211 rfl rfl hlk (w32_all keysL) (by rw [w32_len, hkl]; decide) (st_full (by rw [hlk]; rfl))) (fun v B' H' hΦ hB => ?_)
     obtain ⟨Y, rfl⟩ := hΦ; have E := Y.symm; subst E; clear hB v
     refine ⟨Jy (Jt) (ldA U190 rfl sz190 rfl (Co (n := 8) Pe hdh) hlh), ?_⟩
     refine Dx.one (i := 9) (by kernel_rfl) ?_
     refine Dstep.o0 (i := 9) rfl (stA (d := .bool) (cs' := w32s h) sz190 rfl rfl hlh (w32_all h) (by rw [w32_len, hh]; decide) (st_full (by rw [hlh]; rfl))) (fun v B' H' hΦ hB => ?_)
     obtain ⟨Y, rfl⟩ := hΦ; have E := Y.symm; subst E; clear hB v
     refine ⟨Je (Jt) (by kernel_rfl), ?_⟩
     refine Dx.done (by kernel_rfl) ?_
     exact Xx.mkK (⟨_, _, _, rfl, rfl, by ac_rfl⟩) (Sc 5 rfl (Sc 6 rfl (Sc 7 rfl (Sc 0 rfl (Sc 1 rfl (Sc 2 rfl (Sc 4 rfl (Sc 14 rfl (Sc 15 rfl (Sc 16 rfl (Sub.nil _)))))))))))
    refine Dstep.o (i := 6) rfl (allocO ti190) rfl (fun v B' H' hΦ hB => ?_)
    obtain ⟨b7, rfl, Y, rfl⟩ := hΦ; have E := Y.symm; subst E; clear hB
    refine ⟨Jy (Jt) (ldA U190 rfl sz190 rfl (Co (n := 8) Pe hdh) hlh), ?_⟩
    refine Dx.two (i := 2) (j := 4) (by kernel_rfl) ?_ ?_
    ·
     refine Dstep.o (i := 2) rfl (Ox.cb rfl rfl rfl (keys_ct _)) rfl (fun v B' H' hΦ hB => ?_)
     obtain ⟨rfl, rfl, Y⟩ := hΦ; have E := Y.symm; subst E; clear hB
     refine ⟨Jy (Jt) (ldA U190 rfl sz190 rfl (Co (n := 8) Pe hdh) hlh), ?_⟩
     refine Dx.one (i := 4) (by kernel_rfl) ?_
     refine Dstep.o (i := 4) rfl (allocO ti211) rfl (fun v B' H' hΦ hB => ?_)
     obtain ⟨b5, rfl, Y, rfl⟩ := hΦ; have E := Y.symm; subst E; clear hB
     refine ⟨Jy (Jt) (ldA U190 rfl sz190 rfl (Co (n := 8) Pe hdh) hlh), ?_⟩
     refine Dx.one (i := 7) (by kernel_rfl) ?_
     refine Dstep.o0 (i := 7) rfl (stA (d := .bool) (cs' := w32s w) sz211 rfl rfl hlw (w32_all w) (by rw [w32_len, hwl]; decide) (st_full (by rw [hlw]; rfl))) (fun v B' H' hΦ hB => ?_)
     obtain ⟨Y, rfl⟩ := hΦ; have E := Y.symm; subst E; clear hB v
     refine ⟨Jy (Jt) (ldA U190 rfl sz190 rfl (Co (n := 8) Pe hdh) hlh), ?_⟩
     refine Dx.one (i := 8) (by kernel_rfl) ?_
     refine Dstep.o0 (i := 8) rfl (stA (d := .bool) (cs' := w32s keysL) sz211 rfl rfl hlk (w32_all keysL) (by rw [w32_len, hkl]; decide) (st_full (by rw [hlk]; rfl))) (fun v B' H' hΦ hB => ?_)
     obtain ⟨Y, rfl⟩ := hΦ; have E := Y.symm; subst E; clear hB v
     refine ⟨Jy (Jt) (ldA U190 rfl sz190 rfl (Co (n := 8) Pe hdh) hlh), ?_⟩
     refine Dx.one (i := 9) (by kernel_rfl) ?_
     refine Dstep.o0 (i := 9) rfl (stA (d := .bool) (cs' := w32s h) sz190 rfl rfl hlh (w32_all h) (by rw [w32_len, hh]; decide) (st_full (by rw [hlh]; rfl))) (fun v B' H' hΦ hB => ?_)
     obtain ⟨Y, rfl⟩ := hΦ; have E := Y.symm; subst E; clear hB v
     refine ⟨Je (Jt) (by kernel_rfl), ?_⟩
     refine Dx.done (by kernel_rfl) ?_
     exact Xx.mkK (⟨_, _, _, rfl, rfl, by ac_rfl⟩) (Sc 5 rfl (Sc 6 rfl (Sc 7 rfl (Sc 0 rfl (Sc 1 rfl (Sc 2 rfl (Sc 4 rfl (Sc 14 rfl (Sc 15 rfl (Sc 16 rfl (Sub.nil _)))))))))))
    refine Dstep.o (i := 4) rfl (allocO ti211) rfl (fun v B' H' hΦ hB => ?_)
    obtain ⟨b5, rfl, Y, rfl⟩ := hΦ; have E := Y.symm; subst E; clear hB
    refine ⟨Jy (Jt) (ldA U190 rfl sz190 rfl (Co (n := 8) Pe hdh) hlh), ?_⟩
    refine Dx.one (i := 2) (by kernel_rfl) ?_
    refine Dstep.o (i := 2) rfl (Ox.cb rfl rfl rfl (keys_ct _)) rfl (fun v B' H' hΦ hB => ?_)
    obtain ⟨rfl, rfl, Y⟩ := hΦ; have E := Y.symm; subst E; clear hB
    refine ⟨Jy (Jt) (ldA U190 rfl sz190 rfl (Co (n := 8) Pe hdh) hlh), ?_⟩
    refine Dx.one (i := 7) (by kernel_rfl) ?_
    refine Dstep.o0 (i := 7) rfl (stA (d := .bool) (cs' := w32s w) sz211 rfl rfl hlw (w32_all w) (by rw [w32_len, hwl]; decide) (st_full (by rw [hlw]; rfl))) (fun v B' H' hΦ hB => ?_)
    obtain ⟨Y, rfl⟩ := hΦ; have E := Y.symm; subst E; clear hB v
    refine ⟨Jy (Jt) (ldA U190 rfl sz190 rfl (Co (n := 8) Pe hdh) hlh), ?_⟩
    refine Dx.one (i := 8) (by kernel_rfl) ?_
    refine Dstep.o0 (i := 8) rfl (stA (d := .bool) (cs' := w32s keysL) sz211 rfl rfl hlk (w32_all keysL) (by rw [w32_len, hkl]; decide) (st_full (by rw [hlk]; rfl))) (fun v B' H' hΦ hB => ?_)
    obtain ⟨Y, rfl⟩ := hΦ; have E := Y.symm; subst E; clear hB v
    refine ⟨Jy (Jt) (ldA U190 rfl sz190 rfl (Co (n := 8) Pe hdh) hlh), ?_⟩
    refine Dx.one (i := 9) (by kernel_rfl) ?_
    refine Dstep.o0 (i := 9) rfl (stA (d := .bool) (cs' := w32s h) sz190 rfl rfl hlh (w32_all h) (by rw [w32_len, hh]; decide) (st_full (by rw [hlh]; rfl))) (fun v B' H' hΦ hB => ?_)
    obtain ⟨Y, rfl⟩ := hΦ; have E := Y.symm; subst E; clear hB v
    refine ⟨Je (Jt) (by kernel_rfl), ?_⟩
    refine Dx.done (by kernel_rfl) ?_
    exact Xx.mkK (⟨_, _, _, rfl, rfl, by ac_rfl⟩) (Sc 5 rfl (Sc 6 rfl (Sc 7 rfl (Sc 0 rfl (Sc 1 rfl (Sc 2 rfl (Sc 4 rfl (Sc 14 rfl (Sc 15 rfl (Sc 16 rfl (Sub.nil _)))))))))))
   ·
    refine Dstep.o (i := 4) rfl (allocO ti211) rfl (fun v B' H' hΦ hB => ?_)
    obtain ⟨b5, rfl, Y, rfl⟩ := hΦ; have E := Y.symm; subst E; clear hB
    refine ⟨Jy (Jt) (ldA U190 rfl sz190 rfl (Co (n := 8) Pe hdh) hlh), ?_⟩
    refine Dx.two (i := 1) (j := 6) (by kernel_rfl) ?_ ?_
    ·
     refine Dstep.o (i := 1) rfl (Ox.cb rfl rfl rfl (hspr _)) rfl (fun v B' H' hΦ hB => ?_)
     obtain ⟨rfl, rfl, Y⟩ := hΦ; have E := Y.symm; subst E; clear hB
     refine ⟨Jy (Jt) (ldA U190 rfl sz190 rfl (Co (n := 8) Pe hdh) hlh), ?_⟩
     refine Dx.two (i := 2) (j := 6) (by kernel_rfl) ?_ ?_
     ·
      refine Dstep.o (i := 2) rfl (Ox.cb rfl rfl rfl (keys_ct _)) rfl (fun v B' H' hΦ hB => ?_)
      obtain ⟨rfl, rfl, Y⟩ := hΦ; have E := Y.symm; subst E; clear hB
      refine ⟨Jy (Jt) (ldA U190 rfl sz190 rfl (Co (n := 8) Pe hdh) hlh), ?_⟩
      refine Dx.one (i := 6) (by kernel_rfl) ?_
      refine Dstep.o (i := 6) rfl (allocO ti190) rfl (fun v B' H' hΦ hB => ?_)
      obtain ⟨b7, rfl, Y, rfl⟩ := hΦ; have E := Y.symm; subst E; clear hB
      refine ⟨Jy (Jt) (ldA U190 rfl sz190 rfl (Co (n := 8) Pe hdh) hlh), ?_⟩
      refine Dx.one (i := 7) (by kernel_rfl) ?_
      refine Dstep.o0 (i := 7) rfl (stA (d := .bool) (cs' := w32s w) sz211 rfl rfl hlw (w32_all w) (by rw [w32_len, hwl]; decide) (st_full (by rw [hlw]; rfl))) (fun v B' H' hΦ hB => ?_)
      obtain ⟨Y, rfl⟩ := hΦ; have E := Y.symm; subst E; clear hB v
      refine ⟨Jy (Jt) (ldA U190 rfl sz190 rfl (Co (n := 8) Pe hdh) hlh), ?_⟩
      refine Dx.one (i := 8) (by kernel_rfl) ?_
      refine Dstep.o0 (i := 8) rfl (stA (d := .bool) (cs' := w32s keysL) sz211 rfl rfl hlk (w32_all keysL) (by rw [w32_len, hkl]; decide) (st_full (by rw [hlk]; rfl))) (fun v B' H' hΦ hB => ?_)
      obtain ⟨Y, rfl⟩ := hΦ; have E := Y.symm; subst E; clear hB v
      refine ⟨Jy (Jt) (ldA U190 rfl sz190 rfl (Co (n := 8) Pe hdh) hlh), ?_⟩
      refine Dx.one (i := 9) (by kernel_rfl) ?_
      refine Dstep.o0 (i := 9) rfl (stA (d := .bool) (cs' := w32s h) sz190 rfl rfl hlh (w32_all h) (by rw [w32_len, hh]; decide) (st_full (by rw [hlh]; rfl))) (fun v B' H' hΦ hB => ?_)
      obtain ⟨Y, rfl⟩ := hΦ; have E := Y.symm; subst E; clear hB v
      refine ⟨Je (Jt) (by kernel_rfl), ?_⟩
      refine Dx.done (by kernel_rfl) ?_
      exact Xx.mkK (⟨_, _, _, rfl, rfl, by ac_rfl⟩) (Sc 5 rfl (Sc 6 rfl (Sc 7 rfl (Sc 0 rfl (Sc 1 rfl (Sc 2 rfl (Sc 4 rfl (Sc 14 rfl (Sc 15 rfl (Sc 16 rfl (Sub.nil _)))))))))))
     refine Dstep.o (i := 6) rfl (allocO ti190) rfl (fun v B' H' hΦ hB => ?_)
     obtain ⟨b7, rfl, Y, rfl⟩ := hΦ; have E := Y.symm; subst E; clear hB
     refine ⟨Jy (Jt) (ldA U190 rfl sz190 rfl (Co (n := 8) Pe hdh) hlh), ?_⟩
     refine Dx.one (i := 2) (by kernel_rfl) ?_
     refine Dstep.o (i := 2) rfl (Ox.cb rfl rfl rfl (keys_ct _)) rfl (fun v B' H' hΦ hB => ?_)
     obtain ⟨rfl, rfl, Y⟩ := hΦ; have E := Y.symm; subst E; clear hB
     refine ⟨Jy (Jt) (ldA U190 rfl sz190 rfl (Co (n := 8) Pe hdh) hlh), ?_⟩
     refine Dx.one (i := 7) (by kernel_rfl) ?_
     refine Dstep.o0 (i := 7) rfl (stA (d := .bool) (cs' := w32s w) sz211 rfl rfl hlw (w32_all w) (by rw [w32_len, hwl]; decide) (st_full (by rw [hlw]; rfl))) (fun v B' H' hΦ hB => ?_)
     obtain ⟨Y, rfl⟩ := hΦ; have E := Y.symm; subst E; clear hB v
     refine ⟨Jy (Jt) (ldA U190 rfl sz190 rfl (Co (n := 8) Pe hdh) hlh), ?_⟩
     refine Dx.one (i := 8) (by kernel_rfl) ?_
     refine Dstep.o0 (i := 8) rfl (stA (d := .bool) (cs' := w32s keysL) sz211 rfl rfl hlk (w32_all keysL) (by rw [w32_len, hkl]; decide) (st_full (by rw [hlk]; rfl))) (fun v B' H' hΦ hB => ?_)
     obtain ⟨Y, rfl⟩ := hΦ; have E := Y.symm; subst E; clear hB v
     refine ⟨Jy (Jt) (ldA U190 rfl sz190 rfl (Co (n := 8) Pe hdh) hlh), ?_⟩
     refine Dx.one (i := 9) (by kernel_rfl) ?_
     refine Dstep.o0 (i := 9) rfl (stA (d := .bool) (cs' := w32s h) sz190 rfl rfl hlh (w32_all h) (by rw [w32_len, hh]; decide) (st_full (by rw [hlh]; rfl))) (fun v B' H' hΦ hB => ?_)
     obtain ⟨Y, rfl⟩ := hΦ; have E := Y.symm; subst E; clear hB v
     refine ⟨Je (Jt) (by kernel_rfl), ?_⟩
     refine Dx.done (by kernel_rfl) ?_
     exact Xx.mkK (⟨_, _, _, rfl, rfl, by ac_rfl⟩) (Sc 5 rfl (Sc 6 rfl (Sc 7 rfl (Sc 0 rfl (Sc 1 rfl (Sc 2 rfl (Sc 4 rfl (Sc 14 rfl (Sc 15 rfl (Sc 16 rfl (Sub.nil _)))))))))))
    refine Dstep.o (i := 6) rfl (allocO ti190) rfl (fun v B' H' hΦ hB => ?_)
    obtain ⟨b7, rfl, Y, rfl⟩ := hΦ; have E := Y.symm; subst E; clear hB
    refine ⟨Jy (Jt) (ldA U190 rfl sz190 rfl (Co (n := 8) Pe hdh) hlh), ?_⟩
    refine Dx.one (i := 1) (by kernel_rfl) ?_
    refine Dstep.o (i := 1) rfl (Ox.cb rfl rfl rfl (hspr _)) rfl (fun v B' H' hΦ hB => ?_)
    obtain ⟨rfl, rfl, Y⟩ := hΦ; have E := Y.symm; subst E; clear hB
    refine ⟨Jy (Jt) (ldA U190 rfl sz190 rfl (Co (n := 8) Pe hdh) hlh), ?_⟩
    refine Dx.one (i := 2) (by kernel_rfl) ?_
    refine Dstep.o (i := 2) rfl (Ox.cb rfl rfl rfl (keys_ct _)) rfl (fun v B' H' hΦ hB => ?_)
    obtain ⟨rfl, rfl, Y⟩ := hΦ; have E := Y.symm; subst E; clear hB
    refine ⟨Jy (Jt) (ldA U190 rfl sz190 rfl (Co (n := 8) Pe hdh) hlh), ?_⟩
    refine Dx.one (i := 7) (by kernel_rfl) ?_
    refine Dstep.o0 (i := 7) rfl (stA (d := .bool) (cs' := w32s w) sz211 rfl rfl hlw (w32_all w) (by rw [w32_len, hwl]; decide) (st_full (by rw [hlw]; rfl))) (fun v B' H' hΦ hB => ?_)
    obtain ⟨Y, rfl⟩ := hΦ; have E := Y.symm; subst E; clear hB v
    refine ⟨Jy (Jt) (ldA U190 rfl sz190 rfl (Co (n := 8) Pe hdh) hlh), ?_⟩
    refine Dx.one (i := 8) (by kernel_rfl) ?_
    refine Dstep.o0 (i := 8) rfl (stA (d := .bool) (cs' := w32s keysL) sz211 rfl rfl hlk (w32_all keysL) (by rw [w32_len, hkl]; decide) (st_full (by rw [hlk]; rfl))) (fun v B' H' hΦ hB => ?_)
    obtain ⟨Y, rfl⟩ := hΦ; have E := Y.symm; subst E; clear hB v
    refine ⟨Jy (Jt) (ldA U190 rfl sz190 rfl (Co (n := 8) Pe hdh) hlh), ?_⟩
    refine Dx.one (i := 9) (by kernel_rfl) ?_
    refine Dstep.o0 (i := 9) rfl (stA (d := .bool) (cs' := w32s h) sz190 rfl rfl hlh (w32_all h) (by rw [w32_len, hh]; decide) (st_full (by rw [hlh]; rfl))) (fun v B' H' hΦ hB => ?_)
    obtain ⟨Y, rfl⟩ := hΦ; have E := Y.symm; subst E; clear hB v
    refine ⟨Je (Jt) (by kernel_rfl), ?_⟩
    refine Dx.done (by kernel_rfl) ?_
    exact Xx.mkK (⟨_, _, _, rfl, rfl, by ac_rfl⟩) (Sc 5 rfl (Sc 6 rfl (Sc 7 rfl (Sc 0 rfl (Sc 1 rfl (Sc 2 rfl (Sc 4 rfl (Sc 14 rfl (Sc 15 rfl (Sc 16 rfl (Sub.nil _)))))))))))
   refine Dstep.o (i := 6) rfl (allocO ti190) rfl (fun v B' H' hΦ hB => ?_)
   obtain ⟨b7, rfl, Y, rfl⟩ := hΦ; have E := Y.symm; subst E; clear hB
   refine ⟨Jy (Jt) (ldA U190 rfl sz190 rfl (Co (n := 8) Pe hdh) hlh), ?_⟩
   refine Dx.two (i := 1) (j := 4) (by kernel_rfl) ?_ ?_
   ·
    refine Dstep.o (i := 1) rfl (Ox.cb rfl rfl rfl (hspr _)) rfl (fun v B' H' hΦ hB => ?_)
    obtain ⟨rfl, rfl, Y⟩ := hΦ; have E := Y.symm; subst E; clear hB
    refine ⟨Jy (Jt) (ldA U190 rfl sz190 rfl (Co (n := 8) Pe hdh) hlh), ?_⟩
    refine Dx.two (i := 2) (j := 4) (by kernel_rfl) ?_ ?_
    ·
     refine Dstep.o (i := 2) rfl (Ox.cb rfl rfl rfl (keys_ct _)) rfl (fun v B' H' hΦ hB => ?_)
     obtain ⟨rfl, rfl, Y⟩ := hΦ; have E := Y.symm; subst E; clear hB
     refine ⟨Jy (Jt) (ldA U190 rfl sz190 rfl (Co (n := 8) Pe hdh) hlh), ?_⟩
     refine Dx.one (i := 4) (by kernel_rfl) ?_
     refine Dstep.o (i := 4) rfl (allocO ti211) rfl (fun v B' H' hΦ hB => ?_)
     obtain ⟨b5, rfl, Y, rfl⟩ := hΦ; have E := Y.symm; subst E; clear hB
     refine ⟨Jy (Jt) (ldA U190 rfl sz190 rfl (Co (n := 8) Pe hdh) hlh), ?_⟩
     refine Dx.one (i := 7) (by kernel_rfl) ?_
     refine Dstep.o0 (i := 7) rfl (stA (d := .bool) (cs' := w32s w) sz211 rfl rfl hlw (w32_all w) (by rw [w32_len, hwl]; decide) (st_full (by rw [hlw]; rfl))) (fun v B' H' hΦ hB => ?_)
     obtain ⟨Y, rfl⟩ := hΦ; have E := Y.symm; subst E; clear hB v
     refine ⟨Jy (Jt) (ldA U190 rfl sz190 rfl (Co (n := 8) Pe hdh) hlh), ?_⟩
     refine Dx.one (i := 8) (by kernel_rfl) ?_
     refine Dstep.o0 (i := 8) rfl (stA (d := .bool) (cs' := w32s keysL) sz211 rfl rfl hlk (w32_all keysL) (by rw [w32_len, hkl]; decide) (st_full (by rw [hlk]; rfl))) (fun v B' H' hΦ hB => ?_)
     obtain ⟨Y, rfl⟩ := hΦ; have E := Y.symm; subst E; clear hB v
     refine ⟨Jy (Jt) (ldA U190 rfl sz190 rfl (Co (n := 8) Pe hdh) hlh), ?_⟩
     refine Dx.one (i := 9) (by kernel_rfl) ?_
     refine Dstep.o0 (i := 9) rfl (stA (d := .bool) (cs' := w32s h) sz190 rfl rfl hlh (w32_all h) (by rw [w32_len, hh]; decide) (st_full (by rw [hlh]; rfl))) (fun v B' H' hΦ hB => ?_)
     obtain ⟨Y, rfl⟩ := hΦ; have E := Y.symm; subst E; clear hB v
     refine ⟨Je (Jt) (by kernel_rfl), ?_⟩
     refine Dx.done (by kernel_rfl) ?_
     exact Xx.mkK (⟨_, _, _, rfl, rfl, by ac_rfl⟩) (Sc 5 rfl (Sc 6 rfl (Sc 7 rfl (Sc 0 rfl (Sc 1 rfl (Sc 2 rfl (Sc 4 rfl (Sc 14 rfl (Sc 15 rfl (Sc 16 rfl (Sub.nil _)))))))))))
    refine Dstep.o (i := 4) rfl (allocO ti211) rfl (fun v B' H' hΦ hB => ?_)
    obtain ⟨b5, rfl, Y, rfl⟩ := hΦ; have E := Y.symm; subst E; clear hB
    refine ⟨Jy (Jt) (ldA U190 rfl sz190 rfl (Co (n := 8) Pe hdh) hlh), ?_⟩
    refine Dx.one (i := 2) (by kernel_rfl) ?_
    refine Dstep.o (i := 2) rfl (Ox.cb rfl rfl rfl (keys_ct _)) rfl (fun v B' H' hΦ hB => ?_)
    obtain ⟨rfl, rfl, Y⟩ := hΦ; have E := Y.symm; subst E; clear hB
    refine ⟨Jy (Jt) (ldA U190 rfl sz190 rfl (Co (n := 8) Pe hdh) hlh), ?_⟩
    refine Dx.one (i := 7) (by kernel_rfl) ?_
    refine Dstep.o0 (i := 7) rfl (stA (d := .bool) (cs' := w32s w) sz211 rfl rfl hlw (w32_all w) (by rw [w32_len, hwl]; decide) (st_full (by rw [hlw]; rfl))) (fun v B' H' hΦ hB => ?_)
    obtain ⟨Y, rfl⟩ := hΦ; have E := Y.symm; subst E; clear hB v
    refine ⟨Jy (Jt) (ldA U190 rfl sz190 rfl (Co (n := 8) Pe hdh) hlh), ?_⟩
    refine Dx.one (i := 8) (by kernel_rfl) ?_
    refine Dstep.o0 (i := 8) rfl (stA (d := .bool) (cs' := w32s keysL) sz211 rfl rfl hlk (w32_all keysL) (by rw [w32_len, hkl]; decide) (st_full (by rw [hlk]; rfl))) (fun v B' H' hΦ hB => ?_)
    obtain ⟨Y, rfl⟩ := hΦ; have E := Y.symm; subst E; clear hB v
    refine ⟨Jy (Jt) (ldA U190 rfl sz190 rfl (Co (n := 8) Pe hdh) hlh), ?_⟩
    refine Dx.one (i := 9) (by kernel_rfl) ?_
    refine Dstep.o0 (i := 9) rfl (stA (d := .bool) (cs' := w32s h) sz190 rfl rfl hlh (w32_all h) (by rw [w32_len, hh]; decide) (st_full (by rw [hlh]; rfl))) (fun v B' H' hΦ hB => ?_)
    obtain ⟨Y, rfl⟩ := hΦ; have E := Y.symm; subst E; clear hB v
    refine ⟨Je (Jt) (by kernel_rfl), ?_⟩
    refine Dx.done (by kernel_rfl) ?_
    exact Xx.mkK (⟨_, _, _, rfl, rfl, by ac_rfl⟩) (Sc 5 rfl (Sc 6 rfl (Sc 7 rfl (Sc 0 rfl (Sc 1 rfl (Sc 2 rfl (Sc 4 rfl (Sc 14 rfl (Sc 15 rfl (Sc 16 rfl (Sub.nil _)))))))))))
   refine Dstep.o (i := 4) rfl (allocO ti211) rfl (fun v B' H' hΦ hB => ?_)
   obtain ⟨b5, rfl, Y, rfl⟩ := hΦ; have E := Y.symm; subst E; clear hB
   refine ⟨Jy (Jt) (ldA U190 rfl sz190 rfl (Co (n := 8) Pe hdh) hlh), ?_⟩
   refine Dx.one (i := 1) (by kernel_rfl) ?_
   refine Dstep.o (i := 1) rfl (Ox.cb rfl rfl rfl (hspr _)) rfl (fun v B' H' hΦ hB => ?_)
   obtain ⟨rfl, rfl, Y⟩ := hΦ; have E := Y.symm; subst E; clear hB
   refine ⟨Jy (Jt) (ldA U190 rfl sz190 rfl (Co (n := 8) Pe hdh) hlh), ?_⟩
   refine Dx.one (i := 2) (by kernel_rfl) ?_
   refine Dstep.o (i := 2) rfl (Ox.cb rfl rfl rfl (keys_ct _)) rfl (fun v B' H' hΦ hB => ?_)
   obtain ⟨rfl, rfl, Y⟩ := hΦ; have E := Y.symm; subst E; clear hB
   refine ⟨Jy (Jt) (ldA U190 rfl sz190 rfl (Co (n := 8) Pe hdh) hlh), ?_⟩
   refine Dx.one (i := 7) (by kernel_rfl) ?_
   refine Dstep.o0 (i := 7) rfl (stA (d := .bool) (cs' := w32s w) sz211 rfl rfl hlw (w32_all w) (by rw [w32_len, hwl]; decide) (st_full (by rw [hlw]; rfl))) (fun v B' H' hΦ hB => ?_)
   obtain ⟨Y, rfl⟩ := hΦ; have E := Y.symm; subst E; clear hB v
   refine ⟨Jy (Jt) (ldA U190 rfl sz190 rfl (Co (n := 8) Pe hdh) hlh), ?_⟩
   refine Dx.one (i := 8) (by kernel_rfl) ?_
   refine Dstep.o0 (i := 8) rfl (stA (d := .bool) (cs' := w32s keysL) sz211 rfl rfl hlk (w32_all keysL) (by rw [w32_len, hkl]; decide) (st_full (by rw [hlk]; rfl))) (fun v B' H' hΦ hB => ?_)
   obtain ⟨Y, rfl⟩ := hΦ; have E := Y.symm; subst E; clear hB v
   refine ⟨Jy (Jt) (ldA U190 rfl sz190 rfl (Co (n := 8) Pe hdh) hlh), ?_⟩
   refine Dx.one (i := 9) (by kernel_rfl) ?_
   refine Dstep.o0 (i := 9) rfl (stA (d := .bool) (cs' := w32s h) sz190 rfl rfl hlh (w32_all h) (by rw [w32_len, hh]; decide) (st_full (by rw [hlh]; rfl))) (fun v B' H' hΦ hB => ?_)
   obtain ⟨Y, rfl⟩ := hΦ; have E := Y.symm; subst E; clear hB v
   refine ⟨Je (Jt) (by kernel_rfl), ?_⟩
   refine Dx.done (by kernel_rfl) ?_
   exact Xx.mkK (⟨_, _, _, rfl, rfl, by ac_rfl⟩) (Sc 5 rfl (Sc 6 rfl (Sc 7 rfl (Sc 0 rfl (Sc 1 rfl (Sc 2 rfl (Sc 4 rfl (Sc 14 rfl (Sc 15 rfl (Sc 16 rfl (Sub.nil _)))))))))))
  refine Dstep.o (i := 6) rfl (allocO ti190) rfl (fun v B' H' hΦ hB => ?_)
  obtain ⟨b7, rfl, Y, rfl⟩ := hΦ; have E := Y.symm; subst E; clear hB
  refine ⟨Jy (Jt) (ldA U190 rfl sz190 rfl (Co (n := 8) Pe hdh) hlh), ?_⟩
  refine Dx.three (i := 1) (j := 4) (l := 5) (by kernel_rfl) ?_ ?_ ?_
  ·
   refine Dstep.o (i := 1) rfl (Ox.cb rfl rfl rfl (hspr _)) rfl (fun v B' H' hΦ hB => ?_)
   obtain ⟨rfl, rfl, Y⟩ := hΦ; have E := Y.symm; subst E; clear hB
   refine ⟨Jy (Jt) (ldA U190 rfl sz190 rfl (Co (n := 8) Pe hdh) hlh), ?_⟩
   refine Dx.three (i := 2) (j := 4) (l := 5) (by kernel_rfl) ?_ ?_ ?_
   ·
    refine Dstep.o (i := 2) rfl (Ox.cb rfl rfl rfl (keys_ct _)) rfl (fun v B' H' hΦ hB => ?_)
    obtain ⟨rfl, rfl, Y⟩ := hΦ; have E := Y.symm; subst E; clear hB
    refine ⟨Jy (Jt) (ldA U190 rfl sz190 rfl (Co (n := 8) Pe hdh) hlh), ?_⟩
    refine Dx.two (i := 4) (j := 5) (by kernel_rfl) ?_ ?_
    ·
     refine Dstep.o (i := 4) rfl (allocO ti211) rfl (fun v B' H' hΦ hB => ?_)
     obtain ⟨b5, rfl, Y, rfl⟩ := hΦ; have E := Y.symm; subst E; clear hB
     refine ⟨Jy (Jt) (ldA U190 rfl sz190 rfl (Co (n := 8) Pe hdh) hlh), ?_⟩
     refine Dx.one (i := 5) (by kernel_rfl) ?_
     refine Dstep.o (i := 5) rfl (allocO ti211) rfl (fun v B' H' hΦ hB => ?_)
     obtain ⟨b6, rfl, Y, rfl⟩ := hΦ; have E := Y.symm; subst E; clear hB
     refine ⟨Jy (Jt) (ldA U190 rfl sz190 rfl (Co (n := 8) Pe hdh) hlh), ?_⟩
     refine Dx.one (i := 7) (by kernel_rfl) ?_
     refine Dstep.o0 (i := 7) rfl (stA (d := .bool) (cs' := w32s w) sz211 rfl rfl hlw (w32_all w) (by rw [w32_len, hwl]; decide) (st_full (by rw [hlw]; rfl))) (fun v B' H' hΦ hB => ?_)
     obtain ⟨Y, rfl⟩ := hΦ; have E := Y.symm; subst E; clear hB v
     refine ⟨Jy (Jt) (ldA U190 rfl sz190 rfl (Co (n := 8) Pe hdh) hlh), ?_⟩
     refine Dx.one (i := 8) (by kernel_rfl) ?_
     refine Dstep.o0 (i := 8) rfl (stA (d := .bool) (cs' := w32s keysL) sz211 rfl rfl hlk (w32_all keysL) (by rw [w32_len, hkl]; decide) (st_full (by rw [hlk]; rfl))) (fun v B' H' hΦ hB => ?_)
     obtain ⟨Y, rfl⟩ := hΦ; have E := Y.symm; subst E; clear hB v
     refine ⟨Jy (Jt) (ldA U190 rfl sz190 rfl (Co (n := 8) Pe hdh) hlh), ?_⟩
     refine Dx.one (i := 9) (by kernel_rfl) ?_
     refine Dstep.o0 (i := 9) rfl (stA (d := .bool) (cs' := w32s h) sz190 rfl rfl hlh (w32_all h) (by rw [w32_len, hh]; decide) (st_full (by rw [hlh]; rfl))) (fun v B' H' hΦ hB => ?_)
     obtain ⟨Y, rfl⟩ := hΦ; have E := Y.symm; subst E; clear hB v
     refine ⟨Je (Jt) (by kernel_rfl), ?_⟩
     refine Dx.done (by kernel_rfl) ?_
     exact Xx.mkK (⟨_, _, _, rfl, rfl, by ac_rfl⟩) (Sc 5 rfl (Sc 6 rfl (Sc 7 rfl (Sc 0 rfl (Sc 1 rfl (Sc 2 rfl (Sc 4 rfl (Sc 14 rfl (Sc 15 rfl (Sc 16 rfl (Sub.nil _)))))))))))
    refine Dstep.o (i := 5) rfl (allocO ti211) rfl (fun v B' H' hΦ hB => ?_)
    obtain ⟨b6, rfl, Y, rfl⟩ := hΦ; have E := Y.symm; subst E; clear hB
    refine ⟨Jy (Jt) (ldA U190 rfl sz190 rfl (Co (n := 8) Pe hdh) hlh), ?_⟩
    refine Dx.one (i := 4) (by kernel_rfl) ?_
    refine Dstep.o (i := 4) rfl (allocO ti211) rfl (fun v B' H' hΦ hB => ?_)
    obtain ⟨b5, rfl, Y, rfl⟩ := hΦ; have E := Y.symm; subst E; clear hB
    refine ⟨Jy (Jt) (ldA U190 rfl sz190 rfl (Co (n := 8) Pe hdh) hlh), ?_⟩
    refine Dx.one (i := 7) (by kernel_rfl) ?_
    refine Dstep.o0 (i := 7) rfl (stA (d := .bool) (cs' := w32s w) sz211 rfl rfl hlw (w32_all w) (by rw [w32_len, hwl]; decide) (st_full (by rw [hlw]; rfl))) (fun v B' H' hΦ hB => ?_)
    obtain ⟨Y, rfl⟩ := hΦ; have E := Y.symm; subst E; clear hB v
    refine ⟨Jy (Jt) (ldA U190 rfl sz190 rfl (Co (n := 8) Pe hdh) hlh), ?_⟩
    refine Dx.one (i := 8) (by kernel_rfl) ?_
    refine Dstep.o0 (i := 8) rfl (stA (d := .bool) (cs' := w32s keysL) sz211 rfl rfl hlk (w32_all keysL) (by rw [w32_len, hkl]; decide) (st_full (by rw [hlk]; rfl))) (fun v B' H' hΦ hB => ?_)
    obtain ⟨Y, rfl⟩ := hΦ; have E := Y.symm; subst E; clear hB v
    refine ⟨Jy (Jt) (ldA U190 rfl sz190 rfl (Co (n := 8) Pe hdh) hlh), ?_⟩
    refine Dx.one (i := 9) (by kernel_rfl) ?_
    refine Dstep.o0 (i := 9) rfl (stA (d := .bool) (cs' := w32s h) sz190 rfl rfl hlh (w32_all h) (by rw [w32_len, hh]; decide) (st_full (by rw [hlh]; rfl))) (fun v B' H' hΦ hB => ?_)
    obtain ⟨Y, rfl⟩ := hΦ; have E := Y.symm; subst E; clear hB v
    refine ⟨Je (Jt) (by kernel_rfl), ?_⟩
    refine Dx.done (by kernel_rfl) ?_
    exact Xx.mkK (⟨_, _, _, rfl, rfl, by ac_rfl⟩) (Sc 5 rfl (Sc 6 rfl (Sc 7 rfl (Sc 0 rfl (Sc 1 rfl (Sc 2 rfl (Sc 4 rfl (Sc 14 rfl (Sc 15 rfl (Sc 16 rfl (Sub.nil _)))))))))))
   ·
    refine Dstep.o (i := 4) rfl (allocO ti211) rfl (fun v B' H' hΦ hB => ?_)
    obtain ⟨b5, rfl, Y, rfl⟩ := hΦ; have E := Y.symm; subst E; clear hB
    refine ⟨Jy (Jt) (ldA U190 rfl sz190 rfl (Co (n := 8) Pe hdh) hlh), ?_⟩
    refine Dx.two (i := 2) (j := 5) (by kernel_rfl) ?_ ?_
    ·
     refine Dstep.o (i := 2) rfl (Ox.cb rfl rfl rfl (keys_ct _)) rfl (fun v B' H' hΦ hB => ?_)
     obtain ⟨rfl, rfl, Y⟩ := hΦ; have E := Y.symm; subst E; clear hB
     refine ⟨Jy (Jt) (ldA U190 rfl sz190 rfl (Co (n := 8) Pe hdh) hlh), ?_⟩
     refine Dx.one (i := 5) (by kernel_rfl) ?_
     refine Dstep.o (i := 5) rfl (allocO ti211) rfl (fun v B' H' hΦ hB => ?_)
     obtain ⟨b6, rfl, Y, rfl⟩ := hΦ; have E := Y.symm; subst E; clear hB
     refine ⟨Jy (Jt) (ldA U190 rfl sz190 rfl (Co (n := 8) Pe hdh) hlh), ?_⟩
     refine Dx.one (i := 7) (by kernel_rfl) ?_
     refine Dstep.o0 (i := 7) rfl (stA (d := .bool) (cs' := w32s w) sz211 rfl rfl hlw (w32_all w) (by rw [w32_len, hwl]; decide) (st_full (by rw [hlw]; rfl))) (fun v B' H' hΦ hB => ?_)
     obtain ⟨Y, rfl⟩ := hΦ; have E := Y.symm; subst E; clear hB v
     refine ⟨Jy (Jt) (ldA U190 rfl sz190 rfl (Co (n := 8) Pe hdh) hlh), ?_⟩
     refine Dx.one (i := 8) (by kernel_rfl) ?_
     refine Dstep.o0 (i := 8) rfl (stA (d := .bool) (cs' := w32s keysL) sz211 rfl rfl hlk (w32_all keysL) (by rw [w32_len, hkl]; decide) (st_full (by rw [hlk]; rfl))) (fun v B' H' hΦ hB => ?_)
     obtain ⟨Y, rfl⟩ := hΦ; have E := Y.symm; subst E; clear hB v
     refine ⟨Jy (Jt) (ldA U190 rfl sz190 rfl (Co (n := 8) Pe hdh) hlh), ?_⟩
     refine Dx.one (i := 9) (by kernel_rfl) ?_
     refine Dstep.o0 (i := 9) rfl (stA (d := .bool) (cs' := w32s h) sz190 rfl rfl hlh (w32_all h) (by rw [w32_len, hh]; decide) (st_full (by rw [hlh]; rfl))) (fun v B' H' hΦ hB => ?_)
     obtain ⟨Y, rfl⟩ := hΦ; have E := Y.symm; subst E; clear hB v
     refine ⟨Je (Jt) (by kernel_rfl), ?_⟩
     refine Dx.done (by kernel_rfl) ?_
     exact Xx.mkK (⟨_, _, _, rfl, rfl, by ac_rfl⟩) (Sc 5 rfl (Sc 6 rfl (Sc 7 rfl (Sc 0 rfl (Sc 1 rfl (Sc 2 rfl (Sc 4 rfl (Sc 14 rfl (Sc 15 rfl (Sc 16 rfl (Sub.nil _)))))))))))
    refine Dstep.o (i := 5) rfl (allocO ti211) rfl (fun v B' H' hΦ hB => ?_)
    obtain ⟨b6, rfl, Y, rfl⟩ := hΦ; have E := Y.symm; subst E; clear hB
    refine ⟨Jy (Jt) (ldA U190 rfl sz190 rfl (Co (n := 8) Pe hdh) hlh), ?_⟩
    refine Dx.one (i := 2) (by kernel_rfl) ?_
    refine Dstep.o (i := 2) rfl (Ox.cb rfl rfl rfl (keys_ct _)) rfl (fun v B' H' hΦ hB => ?_)
    obtain ⟨rfl, rfl, Y⟩ := hΦ; have E := Y.symm; subst E; clear hB
    refine ⟨Jy (Jt) (ldA U190 rfl sz190 rfl (Co (n := 8) Pe hdh) hlh), ?_⟩
    refine Dx.one (i := 7) (by kernel_rfl) ?_
    refine Dstep.o0 (i := 7) rfl (stA (d := .bool) (cs' := w32s w) sz211 rfl rfl hlw (w32_all w) (by rw [w32_len, hwl]; decide) (st_full (by rw [hlw]; rfl))) (fun v B' H' hΦ hB => ?_)
    obtain ⟨Y, rfl⟩ := hΦ; have E := Y.symm; subst E; clear hB v
    refine ⟨Jy (Jt) (ldA U190 rfl sz190 rfl (Co (n := 8) Pe hdh) hlh), ?_⟩
    refine Dx.one (i := 8) (by kernel_rfl) ?_
    refine Dstep.o0 (i := 8) rfl (stA (d := .bool) (cs' := w32s keysL) sz211 rfl rfl hlk (w32_all keysL) (by rw [w32_len, hkl]; decide) (st_full (by rw [hlk]; rfl))) (fun v B' H' hΦ hB => ?_)
    obtain ⟨Y, rfl⟩ := hΦ; have E := Y.symm; subst E; clear hB v
    refine ⟨Jy (Jt) (ldA U190 rfl sz190 rfl (Co (n := 8) Pe hdh) hlh), ?_⟩
    refine Dx.one (i := 9) (by kernel_rfl) ?_
    refine Dstep.o0 (i := 9) rfl (stA (d := .bool) (cs' := w32s h) sz190 rfl rfl hlh (w32_all h) (by rw [w32_len, hh]; decide) (st_full (by rw [hlh]; rfl))) (fun v B' H' hΦ hB => ?_)
    obtain ⟨Y, rfl⟩ := hΦ; have E := Y.symm; subst E; clear hB v
    refine ⟨Je (Jt) (by kernel_rfl), ?_⟩
    refine Dx.done (by kernel_rfl) ?_
    exact Xx.mkK (⟨_, _, _, rfl, rfl, by ac_rfl⟩) (Sc 5 rfl (Sc 6 rfl (Sc 7 rfl (Sc 0 rfl (Sc 1 rfl (Sc 2 rfl (Sc 4 rfl (Sc 14 rfl (Sc 15 rfl (Sc 16 rfl (Sub.nil _)))))))))))
   refine Dstep.o (i := 5) rfl (allocO ti211) rfl (fun v B' H' hΦ hB => ?_)
   obtain ⟨b6, rfl, Y, rfl⟩ := hΦ; have E := Y.symm; subst E; clear hB
   refine ⟨Jy (Jt) (ldA U190 rfl sz190 rfl (Co (n := 8) Pe hdh) hlh), ?_⟩
   refine Dx.two (i := 2) (j := 4) (by kernel_rfl) ?_ ?_
   ·
    refine Dstep.o (i := 2) rfl (Ox.cb rfl rfl rfl (keys_ct _)) rfl (fun v B' H' hΦ hB => ?_)
    obtain ⟨rfl, rfl, Y⟩ := hΦ; have E := Y.symm; subst E; clear hB
    refine ⟨Jy (Jt) (ldA U190 rfl sz190 rfl (Co (n := 8) Pe hdh) hlh), ?_⟩
    refine Dx.one (i := 4) (by kernel_rfl) ?_
    refine Dstep.o (i := 4) rfl (allocO ti211) rfl (fun v B' H' hΦ hB => ?_)
    obtain ⟨b5, rfl, Y, rfl⟩ := hΦ; have E := Y.symm; subst E; clear hB
    refine ⟨Jy (Jt) (ldA U190 rfl sz190 rfl (Co (n := 8) Pe hdh) hlh), ?_⟩
    refine Dx.one (i := 7) (by kernel_rfl) ?_
    refine Dstep.o0 (i := 7) rfl (stA (d := .bool) (cs' := w32s w) sz211 rfl rfl hlw (w32_all w) (by rw [w32_len, hwl]; decide) (st_full (by rw [hlw]; rfl))) (fun v B' H' hΦ hB => ?_)
    obtain ⟨Y, rfl⟩ := hΦ; have E := Y.symm; subst E; clear hB v
    refine ⟨Jy (Jt) (ldA U190 rfl sz190 rfl (Co (n := 8) Pe hdh) hlh), ?_⟩
    refine Dx.one (i := 8) (by kernel_rfl) ?_
    refine Dstep.o0 (i := 8) rfl (stA (d := .bool) (cs' := w32s keysL) sz211 rfl rfl hlk (w32_all keysL) (by rw [w32_len, hkl]; decide) (st_full (by rw [hlk]; rfl))) (fun v B' H' hΦ hB => ?_)
    obtain ⟨Y, rfl⟩ := hΦ; have E := Y.symm; subst E; clear hB v
    refine ⟨Jy (Jt) (ldA U190 rfl sz190 rfl (Co (n := 8) Pe hdh) hlh), ?_⟩
    refine Dx.one (i := 9) (by kernel_rfl) ?_
    refine Dstep.o0 (i := 9) rfl (stA (d := .bool) (cs' := w32s h) sz190 rfl rfl hlh (w32_all h) (by rw [w32_len, hh]; decide) (st_full (by rw [hlh]; rfl))) (fun v B' H' hΦ hB => ?_)
    obtain ⟨Y, rfl⟩ := hΦ; have E := Y.symm; subst E; clear hB v
    refine ⟨Je (Jt) (by kernel_rfl), ?_⟩
    refine Dx.done (by kernel_rfl) ?_
    exact Xx.mkK (⟨_, _, _, rfl, rfl, by ac_rfl⟩) (Sc 5 rfl (Sc 6 rfl (Sc 7 rfl (Sc 0 rfl (Sc 1 rfl (Sc 2 rfl (Sc 4 rfl (Sc 14 rfl (Sc 15 rfl (Sc 16 rfl (Sub.nil _)))))))))))
   refine Dstep.o (i := 4) rfl (allocO ti211) rfl (fun v B' H' hΦ hB => ?_)
   obtain ⟨b5, rfl, Y, rfl⟩ := hΦ; have E := Y.symm; subst E; clear hB
   refine ⟨Jy (Jt) (ldA U190 rfl sz190 rfl (Co (n := 8) Pe hdh) hlh), ?_⟩
   refine Dx.one (i := 2) (by kernel_rfl) ?_
   refine Dstep.o (i := 2) rfl (Ox.cb rfl rfl rfl (keys_ct _)) rfl (fun v B' H' hΦ hB => ?_)
   obtain ⟨rfl, rfl, Y⟩ := hΦ; have E := Y.symm; subst E; clear hB
   refine ⟨Jy (Jt) (ldA U190 rfl sz190 rfl (Co (n := 8) Pe hdh) hlh), ?_⟩
   refine Dx.one (i := 7) (by kernel_rfl) ?_
   refine Dstep.o0 (i := 7) rfl (stA (d := .bool) (cs' := w32s w) sz211 rfl rfl hlw (w32_all w) (by rw [w32_len, hwl]; decide) (st_full (by rw [hlw]; rfl))) (fun v B' H' hΦ hB => ?_)
   obtain ⟨Y, rfl⟩ := hΦ; have E := Y.symm; subst E; clear hB v
   refine ⟨Jy (Jt) (ldA U190 rfl sz190 rfl (Co (n := 8) Pe hdh) hlh), ?_⟩
   refine Dx.one (i := 8) (by kernel_rfl) ?_
   refine Dstep.o0 (i := 8) rfl (stA (d := .bool) (cs' := w32s keysL) sz211 rfl rfl hlk (w32_all keysL) (by rw [w32_len, hkl]; decide) (st_full (by rw [hlk]; rfl))) (fun v B' H' hΦ hB => ?_)
   obtain ⟨Y, rfl⟩ := hΦ; have E := Y.symm; subst E; clear hB v
   refine ⟨Jy (Jt) (ldA U190 rfl sz190 rfl (Co (n := 8) Pe hdh) hlh), ?_⟩
   refine Dx.one (i := 9) (by kernel_rfl) ?_
   refine Dstep.o0 (i := 9) rfl (stA (d := .bool) (cs' := w32s h) sz190 rfl rfl hlh (w32_all h) (by rw [w32_len, hh]; decide) (st_full (by rw [hlh]; rfl))) (fun v B' H' hΦ hB => ?_)
   obtain ⟨Y, rfl⟩ := hΦ; have E := Y.symm; subst E; clear hB v
   refine ⟨Je (Jt) (by kernel_rfl), ?_⟩
   refine Dx.done (by kernel_rfl) ?_
   exact Xx.mkK (⟨_, _, _, rfl, rfl, by ac_rfl⟩) (Sc 5 rfl (Sc 6 rfl (Sc 7 rfl (Sc 0 rfl (Sc 1 rfl (Sc 2 rfl (Sc 4 rfl (Sc 14 rfl (Sc 15 rfl (Sc 16 rfl (Sub.nil _)))))))))))
  ·
   refine Dstep.o (i := 4) rfl (allocO ti211) rfl (fun v B' H' hΦ hB => ?_)
   obtain ⟨b5, rfl, Y, rfl⟩ := hΦ; have E := Y.symm; subst E; clear hB
   refine ⟨Jy (Jt) (ldA U190 rfl sz190 rfl (Co (n := 8) Pe hdh) hlh), ?_⟩
   refine Dx.two (i := 1) (j := 5) (by kernel_rfl) ?_ ?_
   ·
    refine Dstep.o (i := 1) rfl (Ox.cb rfl rfl rfl (hspr _)) rfl (fun v B' H' hΦ hB => ?_)
    obtain ⟨rfl, rfl, Y⟩ := hΦ; have E := Y.symm; subst E; clear hB
    refine ⟨Jy (Jt) (ldA U190 rfl sz190 rfl (Co (n := 8) Pe hdh) hlh), ?_⟩
    refine Dx.two (i := 2) (j := 5) (by kernel_rfl) ?_ ?_
    ·
     refine Dstep.o (i := 2) rfl (Ox.cb rfl rfl rfl (keys_ct _)) rfl (fun v B' H' hΦ hB => ?_)
     obtain ⟨rfl, rfl, Y⟩ := hΦ; have E := Y.symm; subst E; clear hB
     refine ⟨Jy (Jt) (ldA U190 rfl sz190 rfl (Co (n := 8) Pe hdh) hlh), ?_⟩
     refine Dx.one (i := 5) (by kernel_rfl) ?_
     refine Dstep.o (i := 5) rfl (allocO ti211) rfl (fun v B' H' hΦ hB => ?_)
     obtain ⟨b6, rfl, Y, rfl⟩ := hΦ; have E := Y.symm; subst E; clear hB
     refine ⟨Jy (Jt) (ldA U190 rfl sz190 rfl (Co (n := 8) Pe hdh) hlh), ?_⟩
     refine Dx.one (i := 7) (by kernel_rfl) ?_
     refine Dstep.o0 (i := 7) rfl (stA (d := .bool) (cs' := w32s w) sz211 rfl rfl hlw (w32_all w) (by rw [w32_len, hwl]; decide) (st_full (by rw [hlw]; rfl))) (fun v B' H' hΦ hB => ?_)
     obtain ⟨Y, rfl⟩ := hΦ; have E := Y.symm; subst E; clear hB v
     refine ⟨Jy (Jt) (ldA U190 rfl sz190 rfl (Co (n := 8) Pe hdh) hlh), ?_⟩
     refine Dx.one (i := 8) (by kernel_rfl) ?_
     refine Dstep.o0 (i := 8) rfl (stA (d := .bool) (cs' := w32s keysL) sz211 rfl rfl hlk (w32_all keysL) (by rw [w32_len, hkl]; decide) (st_full (by rw [hlk]; rfl))) (fun v B' H' hΦ hB => ?_)
     obtain ⟨Y, rfl⟩ := hΦ; have E := Y.symm; subst E; clear hB v
     refine ⟨Jy (Jt) (ldA U190 rfl sz190 rfl (Co (n := 8) Pe hdh) hlh), ?_⟩
     refine Dx.one (i := 9) (by kernel_rfl) ?_
     refine Dstep.o0 (i := 9) rfl (stA (d := .bool) (cs' := w32s h) sz190 rfl rfl hlh (w32_all h) (by rw [w32_len, hh]; decide) (st_full (by rw [hlh]; rfl))) (fun v B' H' hΦ hB => ?_)
     obtain ⟨Y, rfl⟩ := hΦ; have E := Y.symm; subst E; clear hB v
     refine ⟨Je (Jt) (by kernel_rfl), ?_⟩
     refine Dx.done (by kernel_rfl) ?_
     exact Xx.mkK (⟨_, _, _, rfl, rfl, by ac_rfl⟩) (Sc 5 rfl (Sc 6 rfl (Sc 7 rfl (Sc 0 rfl (Sc 1 rfl (Sc 2 rfl (Sc 4 rfl (Sc 14 rfl (Sc 15 rfl (Sc 16 rfl (Sub.nil _)))))))))))
    refine Dstep.o (i := 5) rfl (allocO ti211) rfl (fun v B' H' hΦ hB => ?_)
    obtain ⟨b6, rfl, Y, rfl⟩ := hΦ; have E := Y.symm; subst E; clear hB
    refine ⟨Jy (Jt) (ldA U190 rfl sz190 rfl (Co (n := 8) Pe hdh) hlh), ?_⟩
    refine Dx.one (i := 2) (by kernel_rfl) ?_
    refine Dstep.o (i := 2) rfl (Ox.cb rfl rfl rfl (keys_ct _)) rfl (fun v B' H' hΦ hB => ?_)
    obtain ⟨rfl, rfl, Y⟩ := hΦ; have E := Y.symm; subst E; clear hB
    refine ⟨Jy (Jt) (ldA U190 rfl sz190 rfl (Co (n := 8) Pe hdh) hlh), ?_⟩
    refine Dx.one (i := 7) (by kernel_rfl) ?_
    refine Dstep.o0 (i := 7) rfl (stA (d := .bool) (cs' := w32s w) sz211 rfl rfl hlw (w32_all w) (by rw [w32_len, hwl]; decide) (st_full (by rw [hlw]; rfl))) (fun v B' H' hΦ hB => ?_)
    obtain ⟨Y, rfl⟩ := hΦ; have E := Y.symm; subst E; clear hB v
    refine ⟨Jy (Jt) (ldA U190 rfl sz190 rfl (Co (n := 8) Pe hdh) hlh), ?_⟩
    refine Dx.one (i := 8) (by kernel_rfl) ?_
    refine Dstep.o0 (i := 8) rfl (stA (d := .bool) (cs' := w32s keysL) sz211 rfl rfl hlk (w32_all keysL) (by rw [w32_len, hkl]; decide) (st_full (by rw [hlk]; rfl))) (fun v B' H' hΦ hB => ?_)
    obtain ⟨Y, rfl⟩ := hΦ; have E := Y.symm; subst E; clear hB v
    refine ⟨Jy (Jt) (ldA U190 rfl sz190 rfl (Co (n := 8) Pe hdh) hlh), ?_⟩
    refine Dx.one (i := 9) (by kernel_rfl) ?_
    refine Dstep.o0 (i := 9) rfl (stA (d := .bool) (cs' := w32s h) sz190 rfl rfl hlh (w32_all h) (by rw [w32_len, hh]; decide) (st_full (by rw [hlh]; rfl))) (fun v B' H' hΦ hB => ?_)
    obtain ⟨Y, rfl⟩ := hΦ; have E := Y.symm; subst E; clear hB v
    refine ⟨Je (Jt) (by kernel_rfl), ?_⟩
    refine Dx.done (by kernel_rfl) ?_
    exact Xx.mkK (⟨_, _, _, rfl, rfl, by ac_rfl⟩) (Sc 5 rfl (Sc 6 rfl (Sc 7 rfl (Sc 0 rfl (Sc 1 rfl (Sc 2 rfl (Sc 4 rfl (Sc 14 rfl (Sc 15 rfl (Sc 16 rfl (Sub.nil _)))))))))))
   refine Dstep.o (i := 5) rfl (allocO ti211) rfl (fun v B' H' hΦ hB => ?_)
   obtain ⟨b6, rfl, Y, rfl⟩ := hΦ; have E := Y.symm; subst E; clear hB
   refine ⟨Jy (Jt) (ldA U190 rfl sz190 rfl (Co (n := 8) Pe hdh) hlh), ?_⟩
   refine Dx.one (i := 1) (by kernel_rfl) ?_
   refine Dstep.o (i := 1) rfl (Ox.cb rfl rfl rfl (hspr _)) rfl (fun v B' H' hΦ hB => ?_)
   obtain ⟨rfl, rfl, Y⟩ := hΦ; have E := Y.symm; subst E; clear hB
   refine ⟨Jy (Jt) (ldA U190 rfl sz190 rfl (Co (n := 8) Pe hdh) hlh), ?_⟩
   refine Dx.one (i := 2) (by kernel_rfl) ?_
   refine Dstep.o (i := 2) rfl (Ox.cb rfl rfl rfl (keys_ct _)) rfl (fun v B' H' hΦ hB => ?_)
   obtain ⟨rfl, rfl, Y⟩ := hΦ; have E := Y.symm; subst E; clear hB
   refine ⟨Jy (Jt) (ldA U190 rfl sz190 rfl (Co (n := 8) Pe hdh) hlh), ?_⟩
   refine Dx.one (i := 7) (by kernel_rfl) ?_
   refine Dstep.o0 (i := 7) rfl (stA (d := .bool) (cs' := w32s w) sz211 rfl rfl hlw (w32_all w) (by rw [w32_len, hwl]; decide) (st_full (by rw [hlw]; rfl))) (fun v B' H' hΦ hB => ?_)
   obtain ⟨Y, rfl⟩ := hΦ; have E := Y.symm; subst E; clear hB v
   refine ⟨Jy (Jt) (ldA U190 rfl sz190 rfl (Co (n := 8) Pe hdh) hlh), ?_⟩
   refine Dx.one (i := 8) (by kernel_rfl) ?_
   refine Dstep.o0 (i := 8) rfl (stA (d := .bool) (cs' := w32s keysL) sz211 rfl rfl hlk (w32_all keysL) (by rw [w32_len, hkl]; decide) (st_full (by rw [hlk]; rfl))) (fun v B' H' hΦ hB => ?_)
   obtain ⟨Y, rfl⟩ := hΦ; have E := Y.symm; subst E; clear hB v
   refine ⟨Jy (Jt) (ldA U190 rfl sz190 rfl (Co (n := 8) Pe hdh) hlh), ?_⟩
   refine Dx.one (i := 9) (by kernel_rfl) ?_
   refine Dstep.o0 (i := 9) rfl (stA (d := .bool) (cs' := w32s h) sz190 rfl rfl hlh (w32_all h) (by rw [w32_len, hh]; decide) (st_full (by rw [hlh]; rfl))) (fun v B' H' hΦ hB => ?_)
   obtain ⟨Y, rfl⟩ := hΦ; have E := Y.symm; subst E; clear hB v
   refine ⟨Je (Jt) (by kernel_rfl), ?_⟩
   refine Dx.done (by kernel_rfl) ?_
   exact Xx.mkK (⟨_, _, _, rfl, rfl, by ac_rfl⟩) (Sc 5 rfl (Sc 6 rfl (Sc 7 rfl (Sc 0 rfl (Sc 1 rfl (Sc 2 rfl (Sc 4 rfl (Sc 14 rfl (Sc 15 rfl (Sc 16 rfl (Sub.nil _)))))))))))
  refine Dstep.o (i := 5) rfl (allocO ti211) rfl (fun v B' H' hΦ hB => ?_)
  obtain ⟨b6, rfl, Y, rfl⟩ := hΦ; have E := Y.symm; subst E; clear hB
  refine ⟨Jy (Jt) (ldA U190 rfl sz190 rfl (Co (n := 8) Pe hdh) hlh), ?_⟩
  refine Dx.two (i := 1) (j := 4) (by kernel_rfl) ?_ ?_
  ·
   refine Dstep.o (i := 1) rfl (Ox.cb rfl rfl rfl (hspr _)) rfl (fun v B' H' hΦ hB => ?_)
   obtain ⟨rfl, rfl, Y⟩ := hΦ; have E := Y.symm; subst E; clear hB
   refine ⟨Jy (Jt) (ldA U190 rfl sz190 rfl (Co (n := 8) Pe hdh) hlh), ?_⟩
   refine Dx.two (i := 2) (j := 4) (by kernel_rfl) ?_ ?_
   ·
    refine Dstep.o (i := 2) rfl (Ox.cb rfl rfl rfl (keys_ct _)) rfl (fun v B' H' hΦ hB => ?_)
    obtain ⟨rfl, rfl, Y⟩ := hΦ; have E := Y.symm; subst E; clear hB
    refine ⟨Jy (Jt) (ldA U190 rfl sz190 rfl (Co (n := 8) Pe hdh) hlh), ?_⟩
    refine Dx.one (i := 4) (by kernel_rfl) ?_
    refine Dstep.o (i := 4) rfl (allocO ti211) rfl (fun v B' H' hΦ hB => ?_)
    obtain ⟨b5, rfl, Y, rfl⟩ := hΦ; have E := Y.symm; subst E; clear hB
    refine ⟨Jy (Jt) (ldA U190 rfl sz190 rfl (Co (n := 8) Pe hdh) hlh), ?_⟩
    refine Dx.one (i := 7) (by kernel_rfl) ?_
    refine Dstep.o0 (i := 7) rfl (stA (d := .bool) (cs' := w32s w) sz211 rfl rfl hlw (w32_all w) (by rw [w32_len, hwl]; decide) (st_full (by rw [hlw]; rfl))) (fun v B' H' hΦ hB => ?_)
    obtain ⟨Y, rfl⟩ := hΦ; have E := Y.symm; subst E; clear hB v
    refine ⟨Jy (Jt) (ldA U190 rfl sz190 rfl (Co (n := 8) Pe hdh) hlh), ?_⟩
    refine Dx.one (i := 8) (by kernel_rfl) ?_
    refine Dstep.o0 (i := 8) rfl (stA (d := .bool) (cs' := w32s keysL) sz211 rfl rfl hlk (w32_all keysL) (by rw [w32_len, hkl]; decide) (st_full (by rw [hlk]; rfl))) (fun v B' H' hΦ hB => ?_)
    obtain ⟨Y, rfl⟩ := hΦ; have E := Y.symm; subst E; clear hB v
    refine ⟨Jy (Jt) (ldA U190 rfl sz190 rfl (Co (n := 8) Pe hdh) hlh), ?_⟩
    refine Dx.one (i := 9) (by kernel_rfl) ?_
    refine Dstep.o0 (i := 9) rfl (stA (d := .bool) (cs' := w32s h) sz190 rfl rfl hlh (w32_all h) (by rw [w32_len, hh]; decide) (st_full (by rw [hlh]; rfl))) (fun v B' H' hΦ hB => ?_)
    obtain ⟨Y, rfl⟩ := hΦ; have E := Y.symm; subst E; clear hB v
    refine ⟨Je (Jt) (by kernel_rfl), ?_⟩
    refine Dx.done (by kernel_rfl) ?_
    exact Xx.mkK (⟨_, _, _, rfl, rfl, by ac_rfl⟩) (Sc 5 rfl (Sc 6 rfl (Sc 7 rfl (Sc 0 rfl (Sc 1 rfl (Sc 2 rfl (Sc 4 rfl (Sc 14 rfl (Sc 15 rfl (Sc 16 rfl (Sub.nil _)))))))))))
   refine Dstep.o (i := 4) rfl (allocO ti211) rfl (fun v B' H' hΦ hB => ?_)
   obtain ⟨b5, rfl, Y, rfl⟩ := hΦ; have E := Y.symm; subst E; clear hB
   refine ⟨Jy (Jt) (ldA U190 rfl sz190 rfl (Co (n := 8) Pe hdh) hlh), ?_⟩
   refine Dx.one (i := 2) (by kernel_rfl) ?_
   refine Dstep.o (i := 2) rfl (Ox.cb rfl rfl rfl (keys_ct _)) rfl (fun v B' H' hΦ hB => ?_)
   obtain ⟨rfl, rfl, Y⟩ := hΦ; have E := Y.symm; subst E; clear hB
   refine ⟨Jy (Jt) (ldA U190 rfl sz190 rfl (Co (n := 8) Pe hdh) hlh), ?_⟩
   refine Dx.one (i := 7) (by kernel_rfl) ?_
   refine Dstep.o0 (i := 7) rfl (stA (d := .bool) (cs' := w32s w) sz211 rfl rfl hlw (w32_all w) (by rw [w32_len, hwl]; decide) (st_full (by rw [hlw]; rfl))) (fun v B' H' hΦ hB => ?_)
   obtain ⟨Y, rfl⟩ := hΦ; have E := Y.symm; subst E; clear hB v
   refine ⟨Jy (Jt) (ldA U190 rfl sz190 rfl (Co (n := 8) Pe hdh) hlh), ?_⟩
   refine Dx.one (i := 8) (by kernel_rfl) ?_
   refine Dstep.o0 (i := 8) rfl (stA (d := .bool) (cs' := w32s keysL) sz211 rfl rfl hlk (w32_all keysL) (by rw [w32_len, hkl]; decide) (st_full (by rw [hlk]; rfl))) (fun v B' H' hΦ hB => ?_)
   obtain ⟨Y, rfl⟩ := hΦ; have E := Y.symm; subst E; clear hB v
   refine ⟨Jy (Jt) (ldA U190 rfl sz190 rfl (Co (n := 8) Pe hdh) hlh), ?_⟩
   refine Dx.one (i := 9) (by kernel_rfl) ?_
   refine Dstep.o0 (i := 9) rfl (stA (d := .bool) (cs' := w32s h) sz190 rfl rfl hlh (w32_all h) (by rw [w32_len, hh]; decide) (st_full (by rw [hlh]; rfl))) (fun v B' H' hΦ hB => ?_)
   obtain ⟨Y, rfl⟩ := hΦ; have E := Y.symm; subst E; clear hB v
   refine ⟨Je (Jt) (by kernel_rfl), ?_⟩
   refine Dx.done (by kernel_rfl) ?_
   exact Xx.mkK (⟨_, _, _, rfl, rfl, by ac_rfl⟩) (Sc 5 rfl (Sc 6 rfl (Sc 7 rfl (Sc 0 rfl (Sc 1 rfl (Sc 2 rfl (Sc 4 rfl (Sc 14 rfl (Sc 15 rfl (Sc 16 rfl (Sub.nil _)))))))))))
  refine Dstep.o (i := 4) rfl (allocO ti211) rfl (fun v B' H' hΦ hB => ?_)
  obtain ⟨b5, rfl, Y, rfl⟩ := hΦ; have E := Y.symm; subst E; clear hB
  refine ⟨Jy (Jt) (ldA U190 rfl sz190 rfl (Co (n := 8) Pe hdh) hlh), ?_⟩
  refine Dx.one (i := 1) (by kernel_rfl) ?_
  refine Dstep.o (i := 1) rfl (Ox.cb rfl rfl rfl (hspr _)) rfl (fun v B' H' hΦ hB => ?_)
  obtain ⟨rfl, rfl, Y⟩ := hΦ; have E := Y.symm; subst E; clear hB
  refine ⟨Jy (Jt) (ldA U190 rfl sz190 rfl (Co (n := 8) Pe hdh) hlh), ?_⟩
  refine Dx.one (i := 2) (by kernel_rfl) ?_
  refine Dstep.o (i := 2) rfl (Ox.cb rfl rfl rfl (keys_ct _)) rfl (fun v B' H' hΦ hB => ?_)
  obtain ⟨rfl, rfl, Y⟩ := hΦ; have E := Y.symm; subst E; clear hB
  refine ⟨Jy (Jt) (ldA U190 rfl sz190 rfl (Co (n := 8) Pe hdh) hlh), ?_⟩
  refine Dx.one (i := 7) (by kernel_rfl) ?_
  refine Dstep.o0 (i := 7) rfl (stA (d := .bool) (cs' := w32s w) sz211 rfl rfl hlw (w32_all w) (by rw [w32_len, hwl]; decide) (st_full (by rw [hlw]; rfl))) (fun v B' H' hΦ hB => ?_)
  obtain ⟨Y, rfl⟩ := hΦ; have E := Y.symm; subst E; clear hB v
  refine ⟨Jy (Jt) (ldA U190 rfl sz190 rfl (Co (n := 8) Pe hdh) hlh), ?_⟩
  refine Dx.one (i := 8) (by kernel_rfl) ?_
  refine Dstep.o0 (i := 8) rfl (stA (d := .bool) (cs' := w32s keysL) sz211 rfl rfl hlk (w32_all keysL) (by rw [w32_len, hkl]; decide) (st_full (by rw [hlk]; rfl))) (fun v B' H' hΦ hB => ?_)
  obtain ⟨Y, rfl⟩ := hΦ; have E := Y.symm; subst E; clear hB v
  refine ⟨Jy (Jt) (ldA U190 rfl sz190 rfl (Co (n := 8) Pe hdh) hlh), ?_⟩
  refine Dx.one (i := 9) (by kernel_rfl) ?_
  refine Dstep.o0 (i := 9) rfl (stA (d := .bool) (cs' := w32s h) sz190 rfl rfl hlh (w32_all h) (by rw [w32_len, hh]; decide) (st_full (by rw [hlh]; rfl))) (fun v B' H' hΦ hB => ?_)
  obtain ⟨Y, rfl⟩ := hΦ; have E := Y.symm; subst E; clear hB v
  refine ⟨Je (Jt) (by kernel_rfl), ?_⟩
  refine Dx.done (by kernel_rfl) ?_
  exact Xx.mkK (⟨_, _, _, rfl, rfl, by ac_rfl⟩) (Sc 5 rfl (Sc 6 rfl (Sc 7 rfl (Sc 0 rfl (Sc 1 rfl (Sc 2 rfl (Sc 4 rfl (Sc 14 rfl (Sc 15 rfl (Sc 16 rfl (Sub.nil _)))))))))))
 ·rintro ρ' B' H' ⟨b5, b6, b7, rfl, rfl, rfl⟩
  refine Cq (fun K4 k4 => ?_)
  refine Cq (fun K5 k5 => ?_)
  refine Cr <| Lx.y (mv rfl) rfl <| Lx.nil <| ?_
  refine Xx.tn (k5 _ _ _ _ ?_)
  refine Cx.block ?_
  refine Cx.loopK (Sc 0 rfl (Sc 1 rfl (Sc 2 rfl (Sc 4 rfl (Sc 5 rfl (Sc 6 rfl (Sc 7 rfl (Sc 14 rfl (Sc 15 rfl (Sc 16 rfl (Sub.nil _))))))))))) (fun m ρ' B' H' => ∃ (i : Nat), (i ≤ 64) ∧ m = 64 - i ∧ ρ' = [(22, i64 i)] ∧ B = B' ∧ row b7 190 (w32s (mxR w h i)) * (row b5 211 (w32s w) * (row b6 211 (w32s keysL) * (row b2 190 (w32s h) * (row b4 190 (w32s (List.replicate 8 0)) * R)))) = H') ⟨0, Nat.zero_le _, rfl, rfl, rfl, by show _ = row b7 _ (w32s h) * _; ac_rfl⟩ (Sc 22 rfl (Sc 0 rfl (Sc 1 rfl (Sc 2 rfl (Sc 4 rfl (Sc 5 rfl (Sc 6 rfl (Sc 7 rfl (Sc 14 rfl (Sc 15 rfl (Sc 16 rfl (Sub.nil _)))))))))))) ?_
  rintro m ρ' B' H' ⟨i, hi, rfl, rfl, rfl, rfl⟩
  refine Cq (fun K6 k6 => ?_)
  refine Cr <| Lx.y (lss rfl rfl) rfl <| Lx.nil <| ?_
  refine Xx.tn (k6 _ _ _ _ ?_)
  refine Cq (fun K7 k7 => ?_)
  refine Cx.condD rfl (fun h8 => ?_) (fun h8 => ?_)
  ·
   have h64 := h8
   have h64 : i < 64 := by omega
   have hl := mxR_len (w := w) hh i
   obtain ⟨x, hx⟩ : ∃ x, x = mxR w h i := ⟨_, rfl⟩
   have hmS : mxR w h (i + 1) = mxS w x i := by rw [hx]; rfl
   rw [← hx] at hl ⊢
   have hsl := shW_len hl
   refine Cx.skip ?_
   refine Xx.tn (k7 _ _ _ _ ?_)
   refine Cq (fun K9 k9 => ?_)
   refine Cx.block ?_
   refine Cq (fun K10 k10 => ?_)
   refine Cr <| Lx.y (mv rfl) rfl <| Lx.y (asg rfl) rfl <| Lx.nil <| ?_
   refine Xx.tn (k10 _ _ _ _ ?_)
   refine Cq (fun K11 k11 => ?_)
   refine Cx.drawn (by kernel_rfl) ?_
   refine Dx.p (i := 0) rfl (by kernel_rfl) (iaArr U190 sz104 rfl rfl (show Int.toNat _ = 4 from rfl) (by decide) (by decide)) rfl ?_
   refine Dx.r (i := 1) rfl (by kernel_rfl) (ld (v := u32 ((x).getD (4) 0)) U104 rfl rfl (w32_at (by rw [hl]; omega))) rfl ?_
   refine Dx.p (i := 2) rfl (by kernel_rfl) (iaArr U190 sz104 rfl rfl (show Int.toNat _ = 0 from rfl) (by decide) (by decide)) rfl ?_
   refine Dx.r (i := 3) rfl (by kernel_rfl) (ld (v := u32 ((x).getD (0) 0)) U104 rfl rfl (w32_at (by rw [hl]; omega))) rfl ?_
   refine Dx.p (i := 4) rfl (by kernel_rfl) (asg rfl) rfl ?_
   refine Dx.p (i := 5) rfl (by kernel_rfl) (asg rfl) rfl ?_
   refine Dx.done (by kernel_rfl) ?_
   refine Xx.tn (k11 _ _ _ _ ?_)
   refine Cq (fun K12 k12 => ?_)
   refine Cx.drawn (by kernel_rfl) ?_
   refine Dx.p (i := 0) rfl (by kernel_rfl) (iaArr U190 sz104 rfl rfl (show Int.toNat _ = 7 from rfl) (by decide) (by decide)) rfl ?_
   refine Dx.r (i := 1) rfl (by kernel_rfl) (ld (v := u32 ((x).getD (7) 0)) U104 rfl rfl (w32_at (by rw [hl]; omega))) rfl ?_
   refine Dx.p (i := 2) rfl (by kernel_rfl) (mv rfl) rfl ?_
   refine Dx.p (i := 4) rfl (by kernel_rfl) (mv rfl) rfl ?_
   refine Dx.p (i := 7) rfl (by kernel_rfl) (mv rfl) rfl ?_
   refine Dx.p (i := 11) rfl (by kernel_rfl) (mv rfl) rfl ?_
   refine Dx.p (i := 12) rfl (by kernel_rfl) (iaArr U190 sz104 rfl rfl (show Int.toNat _ = 5 from rfl) (by decide) (by decide)) rfl ?_
   refine Dx.r (i := 13) rfl (by kernel_rfl) (ld (v := u32 ((x).getD (5) 0)) U104 rfl rfl (w32_at (by rw [hl]; omega))) rfl ?_
   refine Dx.p (i := 14) rfl (by kernel_rfl) (andW32 rfl rfl) rfl ?_
   refine Dx.p (i := 15) rfl (by kernel_rfl) (mv rfl) rfl ?_
   refine Dx.p (i := 16) rfl (by kernel_rfl) (complW32 rfl) rfl ?_
   refine Dx.p (i := 17) rfl (by kernel_rfl) (iaArr U190 sz104 rfl rfl (show Int.toNat _ = 6 from rfl) (by decide) (by decide)) rfl ?_
   refine Dx.r (i := 18) rfl (by kernel_rfl) (ld (v := u32 ((x).getD (6) 0)) U104 rfl rfl (w32_at (by rw [hl]; omega))) rfl ?_
   refine Dx.p (i := 19) rfl (by kernel_rfl) (andW32 rfl rfl) rfl ?_
   refine Dx.p (i := 20) rfl (by kernel_rfl) (xorW32 rfl rfl) rfl ?_
   refine Dx.p (i := 22) rfl (by kernel_rfl) (mv rfl) rfl ?_
   refine Dx.p (i := 23) rfl (by kernel_rfl) (iaArr U211 sz104 rfl rfl (Int.toNat_natCast _) (by omega) (by omega)) rfl ?_
   refine Dx.r (i := 24) rfl (by kernel_rfl) (ld (v := u32 ((keysL).getD (i) 0)) U104 rfl rfl (w32_at (by rw [hkl]; omega))) rfl ?_
   refine Dx.p (i := 26) rfl (by kernel_rfl) (mv rfl) rfl ?_
   refine Dx.p (i := 27) rfl (by kernel_rfl) (iaArr U211 sz104 rfl rfl (Int.toNat_natCast _) (by omega) (by omega)) rfl ?_
   refine Dx.r (i := 28) rfl (by kernel_rfl) (ld (v := u32 ((w).getD (i) 0)) U104 rfl rfl (w32_at (by rw [hwl]; omega))) rfl ?_
   refine Dx.one (i := 3) (by kernel_rfl) ?_
   refine Dstep.o (i := 3) rfl (Ox.cb rfl rfl rfl (rot_ct _ (-6) _)) rfl (fun v B' H' hΦ hB => ?_)
   obtain ⟨rfl, rfl, Y⟩ := hΦ; have E := Y.symm; subst E; clear hB
   refine ⟨Jy (Jy (Jy (Jy (Jy (Jt) (ld (v := u32 ((x).getD (7) 0)) U104 rfl rfl (w32_at (by rw [hl]; omega)))) (ld (v := u32 ((x).getD (5) 0)) U104 rfl rfl (w32_at (by rw [hl]; omega)))) (ld (v := u32 ((x).getD (6) 0)) U104 rfl rfl (w32_at (by rw [hl]; omega)))) (ld (v := u32 ((keysL).getD (i) 0)) U104 rfl rfl (w32_at (by rw [hkl]; omega)))) (ld (v := u32 ((w).getD (i) 0)) U104 rfl rfl (w32_at (by rw [hwl]; omega))), ?_⟩
   refine Dx.one (i := 5) (by kernel_rfl) ?_
   refine Dstep.o (i := 5) rfl (Ox.cb rfl rfl rfl (rot_ct _ (-11) _)) rfl (fun v B' H' hΦ hB => ?_)
   obtain ⟨rfl, rfl, Y⟩ := hΦ; have E := Y.symm; subst E; clear hB
   refine ⟨Jy (Jy (Jy (Jy (Jy (Jt) (ld (v := u32 ((x).getD (7) 0)) U104 rfl rfl (w32_at (by rw [hl]; omega)))) (ld (v := u32 ((x).getD (5) 0)) U104 rfl rfl (w32_at (by rw [hl]; omega)))) (ld (v := u32 ((x).getD (6) 0)) U104 rfl rfl (w32_at (by rw [hl]; omega)))) (ld (v := u32 ((keysL).getD (i) 0)) U104 rfl rfl (w32_at (by rw [hkl]; omega)))) (ld (v := u32 ((w).getD (i) 0)) U104 rfl rfl (w32_at (by rw [hwl]; omega))), ?_⟩
   refine Dx.p (i := 6) rfl (by kernel_rfl) (xorW32 rfl rfl) rfl ?_
   refine Dx.one (i := 8) (by kernel_rfl) ?_
   refine Dstep.o (i := 8) rfl (Ox.cb rfl rfl rfl (rot_ct _ (-25) _)) rfl (fun v B' H' hΦ hB => ?_)
   obtain ⟨rfl, rfl, Y⟩ := hΦ; have E := Y.symm; subst E; clear hB
   refine ⟨Jy (Jy (Jy (Jy (Jy (Jt) (ld (v := u32 ((x).getD (7) 0)) U104 rfl rfl (w32_at (by rw [hl]; omega)))) (ld (v := u32 ((x).getD (5) 0)) U104 rfl rfl (w32_at (by rw [hl]; omega)))) (ld (v := u32 ((x).getD (6) 0)) U104 rfl rfl (w32_at (by rw [hl]; omega)))) (ld (v := u32 ((keysL).getD (i) 0)) U104 rfl rfl (w32_at (by rw [hkl]; omega)))) (ld (v := u32 ((w).getD (i) 0)) U104 rfl rfl (w32_at (by rw [hwl]; omega))), ?_⟩
   refine Dx.p (i := 9) rfl (by kernel_rfl) (xorW32 rfl rfl) rfl ?_
   refine Dx.p (i := 10) rfl (by kernel_rfl) (addW32 rfl rfl) rfl ?_
   refine Dx.p (i := 21) rfl (by kernel_rfl) (addW32 rfl rfl) rfl ?_
   refine Dx.p (i := 25) rfl (by kernel_rfl) (addW32 rfl rfl) rfl ?_
   refine Dx.p (i := 29) rfl (by kernel_rfl) (Yx.val (addW32 rfl rfl) (show _ = u32 (tW x w i) from rfl)) rfl ?_
   refine Dx.p (i := 30) rfl (by kernel_rfl) (asg rfl) rfl ?_
   refine Dx.done (by kernel_rfl) ?_
   refine Xx.tn (k12 _ _ _ _ ?_)
   refine Cq (fun K13 k13 => ?_)
   refine Cx.drawn (by kernel_rfl) ?_
   refine Dx.p (i := 0) rfl (by kernel_rfl) (mv rfl) rfl ?_
   refine Dx.p (i := 2) rfl (by kernel_rfl) (mv rfl) rfl ?_
   refine Dx.p (i := 5) rfl (by kernel_rfl) (mv rfl) rfl ?_
   refine Dx.p (i := 8) rfl (by kernel_rfl) (mv rfl) rfl ?_
   refine Dx.p (i := 9) rfl (by kernel_rfl) (iaArr U190 sz104 rfl rfl (show Int.toNat _ = 1 from rfl) (by decide) (by decide)) rfl ?_
   refine Dx.r (i := 10) rfl (by kernel_rfl) (ld (v := u32 ((x).getD (1) 0)) U104 rfl rfl (w32_at (by rw [hl]; omega))) rfl ?_
   refine Dx.p (i := 11) rfl (by kernel_rfl) (andW32 rfl rfl) rfl ?_
   refine Dx.p (i := 12) rfl (by kernel_rfl) (mv rfl) rfl ?_
   refine Dx.p (i := 13) rfl (by kernel_rfl) (iaArr U190 sz104 rfl rfl (show Int.toNat _ = 2 from rfl) (by decide) (by decide)) rfl ?_
   refine Dx.r (i := 14) rfl (by kernel_rfl) (ld (v := u32 ((x).getD (2) 0)) U104 rfl rfl (w32_at (by rw [hl]; omega))) rfl ?_
   refine Dx.p (i := 15) rfl (by kernel_rfl) (andW32 rfl rfl) rfl ?_
   refine Dx.p (i := 16) rfl (by kernel_rfl) (xorW32 rfl rfl) rfl ?_
   refine Dx.p (i := 17) rfl (by kernel_rfl) (iaArr U190 sz104 rfl rfl (show Int.toNat _ = 1 from rfl) (by decide) (by decide)) rfl ?_
   refine Dx.r (i := 18) rfl (by kernel_rfl) (ld (v := u32 ((x).getD (1) 0)) U104 rfl rfl (w32_at (by rw [hl]; omega))) rfl ?_
   refine Dx.p (i := 19) rfl (by kernel_rfl) (iaArr U190 sz104 rfl rfl (show Int.toNat _ = 2 from rfl) (by decide) (by decide)) rfl ?_
   refine Dx.r (i := 20) rfl (by kernel_rfl) (ld (v := u32 ((x).getD (2) 0)) U104 rfl rfl (w32_at (by rw [hl]; omega))) rfl ?_
   refine Dx.p (i := 21) rfl (by kernel_rfl) (andW32 rfl rfl) rfl ?_
   refine Dx.p (i := 22) rfl (by kernel_rfl) (xorW32 rfl rfl) rfl ?_
   refine Dx.one (i := 1) (by kernel_rfl) ?_
   refine Dstep.o (i := 1) rfl (Ox.cb rfl rfl rfl (rot_ct _ (-2) _)) rfl (fun v B' H' hΦ hB => ?_)
   obtain ⟨rfl, rfl, Y⟩ := hΦ; have E := Y.symm; subst E; clear hB
   refine ⟨Jy (Jy (Jy (Jy (Jt) (ld (v := u32 ((x).getD (1) 0)) U104 rfl rfl (w32_at (by rw [hl]; omega)))) (ld (v := u32 ((x).getD (2) 0)) U104 rfl rfl (w32_at (by rw [hl]; omega)))) (ld (v := u32 ((x).getD (1) 0)) U104 rfl rfl (w32_at (by rw [hl]; omega)))) (ld (v := u32 ((x).getD (2) 0)) U104 rfl rfl (w32_at (by rw [hl]; omega))), ?_⟩
   refine Dx.one (i := 3) (by kernel_rfl) ?_
   refine Dstep.o (i := 3) rfl (Ox.cb rfl rfl rfl (rot_ct _ (-13) _)) rfl (fun v B' H' hΦ hB => ?_)
   obtain ⟨rfl, rfl, Y⟩ := hΦ; have E := Y.symm; subst E; clear hB
   refine ⟨Jy (Jy (Jy (Jy (Jt) (ld (v := u32 ((x).getD (1) 0)) U104 rfl rfl (w32_at (by rw [hl]; omega)))) (ld (v := u32 ((x).getD (2) 0)) U104 rfl rfl (w32_at (by rw [hl]; omega)))) (ld (v := u32 ((x).getD (1) 0)) U104 rfl rfl (w32_at (by rw [hl]; omega)))) (ld (v := u32 ((x).getD (2) 0)) U104 rfl rfl (w32_at (by rw [hl]; omega))), ?_⟩
   refine Dx.p (i := 4) rfl (by kernel_rfl) (xorW32 rfl rfl) rfl ?_
   refine Dx.one (i := 6) (by kernel_rfl) ?_
   refine Dstep.o (i := 6) rfl (Ox.cb rfl rfl rfl (rot_ct _ (-22) _)) rfl (fun v B' H' hΦ hB => ?_)
   obtain ⟨rfl, rfl, Y⟩ := hΦ; have E := Y.symm; subst E; clear hB
   refine ⟨Jy (Jy (Jy (Jy (Jt) (ld (v := u32 ((x).getD (1) 0)) U104 rfl rfl (w32_at (by rw [hl]; omega)))) (ld (v := u32 ((x).getD (2) 0)) U104 rfl rfl (w32_at (by rw [hl]; omega)))) (ld (v := u32 ((x).getD (1) 0)) U104 rfl rfl (w32_at (by rw [hl]; omega)))) (ld (v := u32 ((x).getD (2) 0)) U104 rfl rfl (w32_at (by rw [hl]; omega))), ?_⟩
   refine Dx.p (i := 7) rfl (by kernel_rfl) (xorW32 rfl rfl) rfl ?_
   refine Dx.p (i := 23) rfl (by kernel_rfl) (Yx.val (addW32 rfl rfl) (show _ = u32 (uW x) from rfl)) rfl ?_
   refine Dx.p (i := 24) rfl (by kernel_rfl) (asg rfl) rfl ?_
   refine Dx.done (by kernel_rfl) ?_
   refine Xx.tn (k13 _ _ _ _ ?_)
   refine Cq (fun K14 k14 => ?_)
   refine Cx.drawn (by kernel_rfl) ?_
   refine Dx.p (i := 0) rfl (by kernel_rfl) (slA1 U190 sz104 rfl rfl (show Int.toNat _ = 1 from rfl) (by decide) (by decide)) rfl ?_
   refine Dx.p (i := 1) rfl (by kernel_rfl) (slA2 U190 sz104 rfl rfl (show Int.toNat _ = 7 from rfl) (by decide) (by decide) (by decide)) rfl ?_
   refine Dx.one (i := 2) (by kernel_rfl) ?_
   refine Dstep.o (i := 2) rfl (cpO (et := 190) 7 (news := w32s (x.take 7)) (cs' := w32s (shW x)) U216 sz104 rfl rfl (by rfl) (SrcH.own 7 (by rw [List.drop_zero]; exact w32_take x 7)) (by rw [w32_len, List.length_take, hl]; rfl) (w32_all _) (by rw [w32_len, w32_len, List.length_take, hl]; decide) (sh_copy hl)) rfl (fun v B' H' hΦ hB => ?_)
   obtain ⟨rfl, hBB, rfl⟩ := hΦ
   have hBB2 := hBB.symm
   subst hBB2
   clear hB
   refine ⟨Jt, ?_⟩
   refine Dx.done (by kernel_rfl) ?_
   refine Xx.tn (k14 _ _ _ _ ?_)
   refine Cq (fun K15 k15 => ?_)
   refine Cr <| Lx.y (iaArr U190 sz104 rfl rfl (show Int.toNat _ = 4 from rfl) (by decide) (by decide)) rfl <| Lx.y (ld (v := u32 ((shW x).getD (4) 0)) U104 rfl rfl (w32_at (by rw [hsl]; omega))) rfl <| Lx.y (mv rfl) rfl <| Lx.y (addW32 rfl rfl) rfl <| Lx.y (iaArr U190 sz104 rfl rfl (show Int.toNat _ = 4 from rfl) (by decide) (by decide)) rfl <| ?_
   refine Lx.st (stO U104 sz104 rfl rfl rfl (by rw [w32_len, hsl]; omega) ((frc_gen _ _).trans (congrArg some (w32_set _ _ _)))) ?_
   refine Lx.nil ?_
   refine Xx.tn (k15 _ _ _ _ ?_)
   refine Cr <| Lx.y (mv rfl) rfl <| Lx.y (mv rfl) rfl <| Lx.y (addW32 rfl rfl) rfl <| Lx.y (iaArr U190 sz104 rfl rfl (show Int.toNat _ = 0 from rfl) (by decide) (by decide)) rfl <| ?_
   refine Lx.st (stO U104 sz104 rfl rfl rfl (by rw [w32_len, List.length_set, hsl]; omega) ((frc_gen _ _).trans (congrArg some ((w32_set _ _ _).trans (show _ = w32s (mxR w h (i + 1)) by rw [hmS]; rfl))))) ?_
   refine Lx.nil <| Xx.bn <| ?_
   refine Xx.tn (k9 _ _ _ _ ?_)
   refine Cr <| Lx.y (Yx.val (add rfl rfl (by first | exact wrap64 (by omega) (by omega) | rfl)) (show _ = i64 ((i + 1 : Nat) : Int) by first | rfl | (congr 1; omega) | (simp; omega))) rfl <| Lx.y (mv rfl) rfl <| Lx.nil <| ?_
   exact Xx.againK ⟨i + 1, by omega, rfl, rfl, rfl, rfl⟩ (by omega) (Sc 22 rfl (Sc 0 rfl (Sc 1 rfl (Sc 2 rfl (Sc 4 rfl (Sc 5 rfl (Sc 6 rfl (Sc 7 rfl (Sc 14 rfl (Sc 15 rfl (Sc 16 rfl (Sub.nil _))))))))))))
  ·
   have h64 := h8
   obtain rfl : i = 64 := by omega
   refine Cx.exit <| Xx.te <| Xx.te <| Xx.bh <| ?_
   refine Xx.tn (k4 _ _ _ _ ?_)
   refine Cq (fun K16 k16 => ?_)
   refine Cq (fun K17 k17 => ?_)
   refine Cr <| Lx.y (mv rfl) rfl <| Lx.nil <| ?_
   refine Xx.tn (k17 _ _ _ _ ?_)
   refine Cx.block ?_
   refine Cx.loopK (Sc 0 rfl (Sc 1 rfl (Sc 2 rfl (Sc 4 rfl (Sc 5 rfl (Sc 6 rfl (Sc 7 rfl (Sc 14 rfl (Sc 15 rfl (Sc 16 rfl (Sc 22 rfl (Sc 23 rfl (Sub.nil _))))))))))))) (fun m ρ' B' H' => ∃ (j : Nat), (j ≤ 8) ∧ m = 8 - j ∧ ρ' = [(96, i64 j)] ∧ B = B' ∧ row b7 190 (w32s (adR h (mxR w h 64) j)) * (row b5 211 (w32s w) * (row b6 211 (w32s keysL) * (row b2 190 (w32s h) * (row b4 190 (w32s (List.replicate 8 0)) * R)))) = H') ⟨0, Nat.zero_le _, rfl, rfl, rfl, rfl⟩ (Sc 96 rfl (Sc 0 rfl (Sc 1 rfl (Sc 2 rfl (Sc 4 rfl (Sc 5 rfl (Sc 6 rfl (Sc 7 rfl (Sc 14 rfl (Sc 15 rfl (Sc 16 rfl (Sc 22 rfl (Sc 23 rfl (Sub.nil _)))))))))))))) ?_
   rintro m ρ' B' H' ⟨j, hj, rfl, rfl, rfl, rfl⟩
   refine Cq (fun K18 k18 => ?_)
   refine Cr <| Lx.y (lss rfl rfl) rfl <| Lx.nil <| ?_
   refine Xx.tn (k18 _ _ _ _ ?_)
   refine Cq (fun K19 k19 => ?_)
   refine Cx.condD rfl (fun h20 => ?_) (fun h20 => ?_)
   ·
    have h8 := h20
    have h8 : j < 8 := by omega
    have hl := adR_len (h := h) (mxR_len (w := w) hh 64) j
    refine Cx.skip ?_
    refine Xx.tn (k19 _ _ _ _ ?_)
    refine Cq (fun K21 k21 => ?_)
    refine Cx.block ?_
    refine Cq (fun K22 k22 => ?_)
    refine Cr <| Lx.y (mv rfl) rfl <| Lx.y (asg rfl) rfl <| Lx.nil <| ?_
    refine Xx.tn (k22 _ _ _ _ ?_)
    refine Cx.drawn (by kernel_rfl) ?_
    refine Dx.p (i := 0) rfl (by kernel_rfl) (mv rfl) rfl ?_
    refine Dx.p (i := 1) rfl (by kernel_rfl) (iaArr U190 sz104 rfl rfl (Int.toNat_natCast _) (by omega) (by omega)) rfl ?_
    refine Dx.r (i := 2) rfl (by kernel_rfl) (ld (v := u32 ((adR h (mxR w h 64) j).getD (j) 0)) U104 rfl rfl (w32_at (by rw [hl]; omega))) rfl ?_
    refine Dx.p (i := 3) rfl (by kernel_rfl) (mv rfl) rfl ?_
    refine Dx.p (i := 4) rfl (by kernel_rfl) (iaArr U190 sz104 rfl rfl (Int.toNat_natCast _) (by omega) (by omega)) rfl ?_
    refine Dx.r (i := 5) rfl (by kernel_rfl) (ld (v := u32 ((h).getD (j) 0)) U104 rfl rfl (w32_at (by rw [hh]; omega))) rfl ?_
    refine Dx.p (i := 6) rfl (by kernel_rfl) (addW32 rfl rfl) rfl ?_
    refine Dx.p (i := 7) rfl (by kernel_rfl) (iaArr U190 sz104 rfl rfl (Int.toNat_natCast _) (by omega) (by omega)) rfl ?_
    refine Dx.one (i := 8) (by kernel_rfl) ?_
    refine Dstep.o0 (i := 8) rfl (stO U104 sz104 rfl rfl rfl (by rw [w32_len, hl]; omega) ((frc_gen _ _).trans (congrArg some (w32_set _ _ _)))) (fun v B' H' hΦ hB => ?_)
    obtain ⟨Y, rfl⟩ := hΦ; have E := Y.symm; subst E; clear hB v
    refine ⟨Je (Je (Jt) (by kernel_rfl)) (by kernel_rfl), ?_⟩
    refine Dx.done (by kernel_rfl) ?_
    refine Xx.bn ?_
    refine Xx.tn (k21 _ _ _ _ ?_)
    refine Cr <| Lx.y (Yx.val (add rfl rfl (by first | exact wrap64 (by omega) (by omega) | rfl)) (show _ = i64 ((j + 1 : Nat) : Int) by first | rfl | (congr 1; omega) | (simp; omega))) rfl <| Lx.y (mv rfl) rfl <| Lx.nil <| ?_
    exact Xx.againK ⟨j + 1, by omega, rfl, rfl, rfl, rfl⟩ (by omega) (Sc 96 rfl (Sc 0 rfl (Sc 1 rfl (Sc 2 rfl (Sc 4 rfl (Sc 5 rfl (Sc 6 rfl (Sc 7 rfl (Sc 14 rfl (Sc 15 rfl (Sc 16 rfl (Sc 22 rfl (Sc 23 rfl (Sub.nil _))))))))))))))
   ·
    have h8 := h20
    obtain rfl : j = 8 := by omega
    have hl := adR_len (h := h) (mxR_len (w := w) hh 64) 8
    obtain ⟨x, hx⟩ : ∃ x, x = adR h (mxR w h 64) 8 := ⟨_, rfl⟩
    rw [← hx] at hl ⊢
    refine Cx.exit <| Xx.te <| Xx.te <| Xx.bh <| ?_
    refine Xx.tn (k16 _ _ _ _ ?_)
    refine Cq (fun K23 k23 => ?_)
    refine Cr <| Lx.y (ldA U190 rfl sz190 rfl (Co (n := 8) Pe (show ((w32s x).drop 0).take 8 = w32s x by rw [List.drop_zero, List.take_of_length_le (by rw [w32_len, hl]; exact Nat.le_refl _)])) (by rw [w32_len, hl])) rfl <| ?_
    refine Lx.st (stA (d := .bool) (cs' := w32s x) sz190 rfl rfl (by rw [w32_len, hl]) (w32_all x) (by rw [w32_len, hl]; decide) (st_full (by first | (rw [w32_len, hl]; rfl) | (rw [w32_len, w32_len, hl]; rfl)))) ?_
    refine Lx.nil ?_
    refine Xx.tn (k23 _ _ _ _ ?_)
    refine Cx.ret ?_
    refine Xx.dropB b2 (Xx.dropB b5 (Xx.dropB b6 (Xx.dropB b7 ?_)))
    exact Xx.rBa rfl U190 rfl sz190 rfl (by rw [w32_len, hl]) ⟨by first | rw [hx] | rfl, rfl⟩ (Fl _)
end VhC
end Go.Proofs.YthlfffbcligocaaGreat
namespace Go.Proofs.YthlfffbcligocaaGreat
open Go.SL Go.RowKit
set_option maxRecDepth 100000
open VhA VhB VhC
namespace VhD
theorem sz3 : (Tryz.prog.info? 3).map (·.size) = some 1 := by kernel_rfl
theorem sz5 : (Tryz.prog.info? 5).map (·.size) = some 1 := by kernel_rfl
theorem sz9 : (Tryz.prog.info? 9).map (·.size) = some 1 := by kernel_rfl
theorem sz22 : (Tryz.prog.info? 22).map (·.size) = some 1 := by kernel_rfl
theorem ti5 : TI Tryz.prog 5 [.int .u8 0] 1 1 := TI.of (by kernel_rfl) rfl rfl
def tlB (n i : Nat) : UInt8 := toB (((BitVec.ofInt 64 (n : Int) * 8#64) >>> (8 * i)).toNat : Nat)
def tlA (n m : Nat) : Nat → List UInt8
  | 0 => (List.replicate m 0).set 0 128
  | i + 1 => (tlA n m i).set (m - 1 - i) (tlB n i)
theorem tlA_len (n m i : Nat) : (tlA n m i).length = m := by
  induction i with
  | zero => unfold tlA; simp
  | succ i ih => unfold tlA; rw [List.length_set, ih]
def tailL (n : Nat) : List UInt8 := tlA n (1 + (119 - n % 64) % 64 + 8) 8
theorem tail_len (n : Nat) : (tailL n).length = (1 + (119 - n % 64) % 64 + 8) := tlA_len _ _ _
theorem u8_set (l : List UInt8) (j : Nat) (x : UInt8) : (u8s l).set (0 + j * 1) (.int .u8 ((x.toNat : Nat) : Int)) = u8s (l.set j x) := by
  unfold u8s
  rw [Nat.zero_add, Nat.mul_one, List.map_set]
theorem tl_zero (n m : Nat) : (List.replicate m (Value.int .u8 0)).set (0 + 0 * 1) (.int .u8 128) = u8s (tlA n m 0) := by
  have h := u8_set (List.replicate m 0) 0 128
  rw [show u8s (List.replicate m 0) = List.replicate m (Value.int .u8 0) by simp [u8s]] at h
  exact h
set_option maxHeartbeats 2000000 in
theorem tail_ct (n : Nat) (B : Frag) (hn : n ≤ 4611686018427387904) : CtP Tryz.prog 123 [i64 (n : Int)] B (str (tailL n)) := by
 obtain ⟨mm, hm⟩ : ∃ mm, mm = (1 + (119 - n % 64) % 64 + 8) := ⟨_, rfl⟩
 have hm1 : 9 ≤ mm ∧ mm ≤ 200 := by omega
 have htl : tailL n = tlA n mm 8 := by rw [hm]; rfl
 rw [htl]
 refine CtB.of_body Tryz.func123 rfl (nt := 34) rfl (by kernel_rfl) rfl ?_
 intro N0 w0 R
 refine Cq (fun K1 k1 => ?_)
 refine Cr <| Lx.y (asg rfl) rfl <| Lx.nil <| ?_
 refine Xx.tn (k1 _ _ _ _ ?_)
 refine Cq (fun K2 k2 => ?_)
 refine Cr <| Lx.y (mv rfl) rfl <| Lx.y (Yx.val (remN rfl rfl (by omega) (by omega)) (show _ = i64 ((n % 64 : Nat) : Int) from rfl)) rfl <| Lx.y (Yx.val (sub rfl rfl (wrap64 (by omega) (by omega))) (show _ = i64 ((119 - n % 64 : Nat) : Int) by congr 1; omega)) rfl <| Lx.y (Yx.val (remN rfl rfl (by omega) (by omega)) (show _ = i64 (((119 - n % 64) % 64 : Nat) : Int) from rfl)) rfl <| Lx.y (Yx.val (add rfl rfl (wrap64 (by omega) (by omega))) (show _ = i64 ((1 + (119 - n % 64) % 64 : Nat) : Int) by congr 1)) rfl <| Lx.y (Yx.val (add rfl rfl (wrap64 (by omega) (by omega))) (show _ = i64 ((mm : Nat) : Int) by rw [hm]; congr 1)) rfl <| ?_
 refine Lx.o (mksO U107 ti5 rfl rfl (by omega) (by omega) (by omega) (by omega)) rfl (fun v B' H' hΦ hB => ?_)
 obtain ⟨bm, rfl, hBB, rfl⟩ := hΦ
 have hBB2 := hBB.symm
 subst hBB2
 clear hB
 rw [Int.toNat_natCast]
 refine Lx.y (asg rfl) rfl <| Lx.nil <| ?_
 refine Xx.tn (k2 _ _ _ _ ?_)
 refine Cq (fun K3 k3 => ?_)
 refine Cr <| Lx.y (mv rfl) rfl <| Lx.y (ia U107 sz5 rfl rfl (show Int.toNat _ = 0 from rfl) (by decide) (by omega)) rfl <| ?_
 refine Lx.st (stO U5 sz5 rfl rfl rfl (by rw [List.length_replicate]; omega) ((frc_gen _ _).trans (congrArg some (tl_zero n mm)))) ?_
 refine Lx.nil ?_
 refine Xx.tn (k3 _ _ _ _ ?_)
 refine Cq (fun K4 k4 => ?_)
 refine Cq (fun K5 k5 => ?_)
 refine Cr <| Lx.y (mv rfl) rfl <| Lx.nil <| ?_
 refine Xx.tn (k5 _ _ _ _ ?_)
 refine Cx.block ?_
 refine Cx.loopK (Sc 0 rfl (Sc 2 rfl (Sc 3 rfl (Sc 5 rfl (Sc 6 rfl (Sc 7 rfl (Sc 8 rfl (Sc 9 rfl (Sc 10 rfl (Sc 11 rfl (Sc 12 rfl (Sc 13 rfl (Sub.nil _))))))))))))) (fun m ρ' B' H' => ∃ (i : Nat), (i ≤ 8) ∧ m = 8 - i ∧ ρ' = [(14, i64 i)] ∧ B = B' ∧ row bm 5 (u8s (tlA n mm i)) * R = H') ⟨0, Nat.zero_le _, rfl, rfl, rfl, rfl⟩ (Sc 14 rfl (Sc 0 rfl (Sc 2 rfl (Sc 3 rfl (Sc 5 rfl (Sc 6 rfl (Sc 7 rfl (Sc 8 rfl (Sc 9 rfl (Sc 10 rfl (Sc 11 rfl (Sc 12 rfl (Sc 13 rfl (Sub.nil _)))))))))))))) ?_
 rintro m ρ' B' H' ⟨i, hi, rfl, rfl, rfl, rfl⟩
 refine Cq (fun K6 k6 => ?_)
 refine Cr <| Lx.y (lss rfl rfl) rfl <| Lx.nil <| ?_
 refine Xx.tn (k6 _ _ _ _ ?_)
 refine Cq (fun K7 k7 => ?_)
 refine Cx.condD rfl (fun h8 => ?_) (fun h8 => ?_)
 ·
  have h8 := h8
  have h8 : i < 8 := by omega
  have hl := tlA_len n mm i
  refine Cx.skip ?_
  refine Xx.tn (k7 _ _ _ _ ?_)
  refine Cq (fun K9 k9 => ?_)
  refine Cx.block ?_
  refine Cq (fun K10 k10 => ?_)
  refine Cr <| Lx.y (mv rfl) rfl <| Lx.y (asg rfl) rfl <| Lx.nil <| ?_
  refine Xx.tn (k10 _ _ _ _ ?_)
  refine Cr <| Lx.y (mv rfl) rfl <| Lx.y (mv rfl) rfl <| Lx.y (Yx.val (lenV (ty' := 0) U107 rfl) (show _ = i64 ((mm : Nat) : Int) from rfl)) rfl <| Lx.y (Yx.val (sub rfl rfl (by first | exact wrap64 (by omega) (by omega) | rfl)) (show _ = i64 ((mm - 1 : Nat) : Int) by first | rfl | (congr 1; omega) | (simp; omega))) rfl <| Lx.y (mv rfl) rfl <| Lx.y (Yx.val (sub rfl rfl (by first | exact wrap64 (by omega) (by omega) | rfl)) (show _ = i64 ((mm - 1 - i : Nat) : Int) by first | rfl | (congr 1; omega) | (simp; omega))) rfl <| Lx.y (mv rfl) rfl <| Lx.y (cvW64 rfl U3 U22) rfl <| Lx.y (mulW64 (b := 8#64) rfl rfl) rfl <| Lx.y (mv rfl) rfl <| Lx.y (Yx.val (mul rfl rfl (by first | exact wrap64 (by omega) (by omega) | rfl)) (show _ = i64 ((8 * i : Nat) : Int) by first | rfl | (congr 1; omega) | (simp; omega))) rfl <| ?_
  refine Lx.y (shrW64 (c := 8 * i) rfl rfl (by rw [Nat.ble_eq]; omega)) rfl <| Lx.y (cvI rfl U22 U5 (wrap_u8 _)) rfl <| Lx.y (ia U107 sz5 rfl rfl (Int.toNat_natCast _) (by omega) (by omega)) rfl <| ?_
  refine Lx.st (stO U5 sz5 rfl rfl rfl (by rw [u8s_len, hl]; omega) ((frc_gen _ _).trans (congrArg some (u8_set (tlA n mm i) (mm - 1 - i) (tlB n i))))) ?_
  refine Lx.nil <| Xx.bn <| ?_
  refine Xx.tn (k9 _ _ _ _ ?_)
  refine Cr <| Lx.y (Yx.val (add rfl rfl (by first | exact wrap64 (by omega) (by omega) | rfl)) (show _ = i64 ((i + 1 : Nat) : Int) by first | rfl | (congr 1; omega) | (simp; omega))) rfl <| Lx.y (mv rfl) rfl <| Lx.nil <| ?_
  exact Xx.againK ⟨i + 1, by omega, rfl, rfl, rfl, rfl⟩ (by omega) (Sc 14 rfl (Sc 0 rfl (Sc 2 rfl (Sc 3 rfl (Sc 5 rfl (Sc 6 rfl (Sc 7 rfl (Sc 8 rfl (Sc 9 rfl (Sc 10 rfl (Sc 11 rfl (Sc 12 rfl (Sc 13 rfl (Sub.nil _))))))))))))))
 ·
  have h8 := h8
  obtain rfl : i = 8 := by omega
  refine Cx.exit <| Xx.te <| Xx.te <| Xx.bh <| ?_
  refine Xx.tn (k4 _ _ _ _ ?_)
  refine Cq (fun K11 k11 => ?_)
  refine Cr <| Lx.y (mv rfl) rfl <| Lx.y (b2sR U107 U5 U9 rfl rfl (by rw [u8s_len, tlA_len])) rfl <| Lx.y (asg rfl) rfl <| Lx.nil <| ?_
  refine Xx.tn (k11 _ _ _ _ ?_)
  refine Cx.ret ?_
  refine Xx.dropB bm ?_
  exact Xx.rB1 rfl rfl ⟨rfl, rfl⟩ (Fl _) rfl
end VhD
end Go.Proofs.YthlfffbcligocaaGreat
namespace Go.Proofs.YthlfffbcligocaaGreat
open Go.SL Go.RowKit
set_option maxRecDepth 100000
open VhA VhB VhC VhD
namespace VhE
theorem sz3 : (Tryz.prog.info? 3).map (·.size) = some 1 := by kernel_rfl
theorem sz5 : (Tryz.prog.info? 5).map (·.size) = some 1 := by kernel_rfl
theorem sz9 : (Tryz.prog.info? 9).map (·.size) = some 1 := by kernel_rfl
theorem sz104 : (Tryz.prog.info? 104).map (·.size) = some 1 := by kernel_rfl
theorem sz190 : (Tryz.prog.info? 190).map (·.size) = some 8 := by kernel_rfl
theorem ti5 : TI Tryz.prog 5 [.int .u8 0] 1 1 := TI.of (by kernel_rfl) rfl rfl
theorem ti190 : TI Tryz.prog 190 [.int .u32 0, .int .u32 0, .int .u32 0, .int .u32 0, .int .u32 0, .int .u32 0, .int .u32 0, .int .u32 0] 8 32 := TI.of (by kernel_rfl) rfl rfl
def foldA (s : List UInt8) : Nat → List (BitVec 32)
  | 0 => startL
  | k + 1 => mixF (foldA s k) ((s.take (64 * k + 64)).drop (64 * k))
def foldB (h : List (BitVec 32)) (rest : List UInt8) : Nat → List (BitVec 32)
  | 0 => h
  | k + 1 => mixF (foldB h rest k) ((rest.drop (64 * k)).take 64)
theorem foldA_len (s : List UInt8) (k : Nat) : (foldA s k).length = 8 := by
  induction k with
  | zero => rfl
  | succ k ih => exact mixF_len ih _
theorem foldB_len {h : List (BitVec 32)} (hh : h.length = 8) (s : List UInt8) (k : Nat) : (foldB h s k).length = 8 := by
  induction k with
  | zero => exact hh
  | succ k ih => exact mixF_len ih _
def be4 (x : BitVec 32) : List UInt8 := [toB ((x >>> 24).toNat : Nat), toB ((x >>> 16).toNat : Nat), toB ((x >>> 8).toNat : Nat), toB (x.toNat : Nat)]
def outL (h : List (BitVec 32)) : Nat → List UInt8
  | 0 => []
  | i + 1 => outL h i ++ be4 (h.getD i 0)
theorem outL_len (h : List (BitVec 32)) (i : Nat) : (outL h i).length = 4 * i := by
  induction i with
  | zero => rfl
  | succ i ih => unfold outL; rw [List.length_append, ih]; show 4 * i + 4 = _; omega
def restF (s : List UInt8) : List UInt8 := s.drop (64 * (s.length / 64)) ++ tailL s.length
theorem restF_len (s : List UInt8) : (restF s).length = 64 * ((restF s).length / 64) ∧ (restF s).length ≤ 128 := by
  unfold restF
  rw [List.length_append, List.length_drop, tail_len]
  omega
def sumF (s : List UInt8) : List UInt8 := outL (foldB (foldA s (s.length / 64)) (restF s) ((restF s).length / 64)) 8
theorem sumF_len (s : List UInt8) : (sumF s).length = 32 := outL_len _ 8
theorem w32_idx {l : List (BitVec 32)} {j : Nat} (h : j < l.length) : (w32s l)[j]? = some (u32 (l.getD j 0)) := by
  have h9 := w32_at h
  rwa [Nat.zero_add, Nat.mul_one] at h9
set_option maxHeartbeats 4000000 in
theorem Sum_ct (s : List UInt8) (B : Frag) (hn : s.length ≤ 4611686018427387904) : CtP Tryz.prog 79 [str s] B (str (sumF s)) := by
 obtain ⟨nb, hnb⟩ : ∃ nb, nb = s.length / 64 := ⟨_, rfl⟩
 obtain ⟨rest, hre⟩ : ∃ rest, rest = restF s := ⟨_, rfl⟩
 obtain ⟨q, hq⟩ : ∃ q, q = rest.length / 64 := ⟨_, rfl⟩
 have hrl := restF_len s
 rw [← hre, ← hq] at hrl
 have hsum : sumF s = outL (foldB (foldA s nb) rest q) 8 := by rw [hq, hre, hnb]; rfl
 rw [hsum]
 have hrd : s.drop (64 * nb) ++ tailL s.length = rest := by rw [hre, hnb]; rfl
 refine CtB.of_body Tryz.func79 rfl (nt := 64) rfl (by kernel_rfl) rfl ?_
 intro N0 w0 R
 refine Cq (fun K1 k1 => ?_)
 refine Cr <| Lx.y (asg rfl) rfl <| Lx.nil <| ?_
 refine Xx.tn (k1 _ _ _ _ ?_)
 refine Cq (fun K2 k2 => ?_)
 refine Cr ?_
 refine Lx.cp rfl rfl rfl (Start_ct _) rfl ?_
 refine Lx.new (allocO ti190) rfl (fun b3 => ?_)
 refine Lx.st (stA (d := .bool) (cs' := w32s (foldA s 0)) sz190 rfl rfl rfl rfl (by show 0 + 8 ≤ 8; omega) rfl) ?_
 refine Lx.nil ?_
 refine Xx.tn (k2 _ _ _ _ ?_)
 refine Cq (fun K3 k3 => ?_)
 refine Cr <| Lx.y (mv rfl) rfl <| Lx.y (lenS U9 rfl) rfl <| Lx.y (Yx.val (quoN rfl rfl (by omega) (by omega) (show IntKind.i64.wrap _ = ((s.length / 64 : Nat) : Int) by rw [wrap64 (by omega) (by omega)]; omega)) (show _ = i64 ((nb : Nat) : Int) by rw [hnb])) rfl <| Lx.y (Yx.val (mul rfl rfl (wrap64 (by omega) (by omega))) (show _ = i64 ((64 * nb : Nat) : Int) by congr 1; omega)) rfl <| Lx.y (asg rfl) rfl <| Lx.nil <| ?_
 refine Xx.tn (k3 _ _ _ _ ?_)
 refine Cq (fun K4 k4 => ?_)
 refine Cq (fun K5 k5 => ?_)
 refine Cr <| Lx.y (asg rfl) rfl <| Lx.nil <| ?_
 refine Xx.tn (k5 _ _ _ _ ?_)
 refine Cx.block ?_
 refine Cx.loopK (Sc 0 rfl (Sc 2 rfl (Sc 3 rfl (Sc 4 rfl (Sc 10 rfl (Sc 11 rfl (Sc 12 rfl (Sc 13 rfl (Sc 14 rfl (Sub.nil _)))))))))) (fun m ρ' B' H' => ∃ (k : Nat), (k ≤ nb) ∧ m = nb - k ∧ ρ' = [(5, i64 ((64 * k : Nat) : Int))] ∧ B = B' ∧ row b3 190 (w32s (foldA s k)) * R = H') ⟨0, Nat.zero_le _, rfl, rfl, rfl, rfl⟩ (Sc 5 rfl (Sc 0 rfl (Sc 2 rfl (Sc 3 rfl (Sc 4 rfl (Sc 10 rfl (Sc 11 rfl (Sc 12 rfl (Sc 13 rfl (Sc 14 rfl (Sub.nil _))))))))))) ?_
 rintro m ρ' B' H' ⟨k, hk, rfl, rfl, rfl, rfl⟩
 refine Cq (fun K6 k6 => ?_)
 refine Cq (fun K7 k7 => ?_)
 refine Cr <| Lx.y (mv rfl) rfl <| Lx.y (mv rfl) rfl <| Lx.y (lss rfl rfl) rfl <| Lx.nil <| ?_
 refine Xx.tn (k7 _ _ _ _ ?_)
 refine Cx.condD rfl (fun h8 => ?_) (fun h8 => ?_)
 ·
  have hlt := h8
  have hlt : k < nb := by omega
  have hl := foldA_len s k
  have hl2 := foldA_len s (k + 1)
  have h64 : ((s.take (64 * k + 64)).drop (64 * k)).length = 64 := by rw [List.length_drop, List.length_take]; omega
  refine Cx.skip ?_
  refine Xx.tn (k6 _ _ _ _ ?_)
  refine Cq (fun K9 k9 => ?_)
  refine Cx.block ?_
  refine Cx.drawn (by kernel_rfl) ?_
  refine Dx.r (i := 0) rfl (by kernel_rfl) (ldA U190 rfl sz190 rfl (Co (n := 8) Pe (show ((w32s (foldA s k)).drop 0).take 8 = w32s (foldA s k) by rw [List.drop_zero, List.take_of_length_le (by rw [w32_len, hl]; exact Nat.le_refl _)])) (by rw [w32_len, hl])) rfl ?_
  refine Dx.p (i := 1) rfl (by kernel_rfl) (mv rfl) rfl ?_
  refine Dx.p (i := 2) rfl (by kernel_rfl) (mv rfl) rfl ?_
  refine Dx.p (i := 3) rfl (by kernel_rfl) (mv rfl) rfl ?_
  refine Dx.p (i := 4) rfl (by kernel_rfl) (Yx.val (add rfl rfl (by first | exact wrap64 (by omega) (by omega) | rfl)) (show _ = i64 ((64 * k + 64 : Nat) : Int) by first | rfl | (congr 1; omega) | (simp; omega))) rfl ?_
  refine Dx.p (i := 5) rfl (by kernel_rfl) (sl3S U9 rfl rfl rfl (Int.toNat_natCast _) (Int.toNat_natCast _) (by omega) (by omega) (by omega)) rfl ?_
  refine Dx.one (i := 6) (by kernel_rfl) ?_
  refine Dstep.o (i := 6) rfl (Ox.cb rfl rfl rfl (Mix_ct (foldA s k) ((s.take (64 * k + 64)).drop (64 * k)) _ h64 hl)) rfl (fun v B' H' hΦ hB => ?_)
  obtain ⟨rfl, rfl, Y⟩ := hΦ; have E := Y.symm; subst E; clear hB
  refine ⟨Je (Jt) (by kernel_rfl), ?_⟩
  refine Dx.one (i := 7) (by kernel_rfl) ?_
  refine Dstep.o0 (i := 7) rfl (stA (d := .bool) (cs' := w32s (foldA s (k + 1))) sz190 rfl rfl (by rw [w32_len]; exact hl2) (w32_all _) (by rw [w32_len, w32_len, hl]; exact Nat.le_of_eq ((Nat.zero_add _).trans hl2)) (st_full (by rw [w32_len, w32_len, hl]; exact (hl2).symm))) (fun v B' H' hΦ hB => ?_)
  obtain ⟨Y, rfl⟩ := hΦ; have E := Y.symm; subst E; clear hB v
  refine ⟨Je (Jt) (by kernel_rfl), ?_⟩
  refine Dx.done (by kernel_rfl) ?_
  refine Xx.bn ?_
  refine Xx.tn (k9 _ _ _ _ ?_)
  refine Cr <| Lx.y (mv rfl) rfl <| Lx.y (Yx.val (add rfl rfl (by first | exact wrap64 (by omega) (by omega) | rfl)) (show _ = i64 ((64 * (k + 1) : Nat) : Int) by first | rfl | (congr 1; omega) | (simp; omega))) rfl <| Lx.y (asg rfl) rfl <| Lx.nil <| ?_
  exact Xx.againK ⟨k + 1, by omega, rfl, rfl, rfl, rfl⟩ (by omega) (Sc 5 rfl (Sc 0 rfl (Sc 2 rfl (Sc 3 rfl (Sc 4 rfl (Sc 10 rfl (Sc 11 rfl (Sc 12 rfl (Sc 13 rfl (Sc 14 rfl (Sub.nil _)))))))))))
 ·
  have hlt := h8
  have hke : nb = k := by omega
  subst hke
  have hl := foldA_len s nb
  refine Cx.exit <| Xx.te <| Xx.te <| Xx.bh <| ?_
  refine Xx.tn (k4 _ _ _ _ ?_)
  refine Cq (fun K10 k10 => ?_)
  refine Cx.drawn (by kernel_rfl) ?_
  refine Dx.p (i := 0) rfl (by kernel_rfl) (mv rfl) rfl ?_
  refine Dx.p (i := 1) rfl (by kernel_rfl) (mv rfl) rfl ?_
  refine Dx.p (i := 2) rfl (by kernel_rfl) (sl1S U9 rfl rfl (Int.toNat_natCast _) (by omega) (by omega)) rfl ?_
  refine Dx.p (i := 3) rfl (by kernel_rfl) (mv rfl) rfl ?_
  refine Dx.p (i := 4) rfl (by kernel_rfl) (lenS U9 rfl) rfl ?_
  refine Dx.one (i := 5) (by kernel_rfl) ?_
  refine Dstep.o (i := 5) rfl (Ox.cb rfl rfl rfl (tail_ct s.length _ hn)) rfl (fun v B' H' hΦ hB => ?_)
  obtain ⟨rfl, rfl, Y⟩ := hΦ; have E := Y.symm; subst E; clear hB
  refine ⟨Jt, ?_⟩
  refine Dx.p (i := 6) rfl (by kernel_rfl) (Yx.val (catS rfl rfl (by rw [List.length_drop, tail_len]; omega)) (show _ = str rest by rw [hrd])) rfl ?_
  refine Dx.p (i := 7) rfl (by kernel_rfl) (asg rfl) rfl ?_
  refine Dx.done (by kernel_rfl) ?_
  refine Xx.tn (k10 _ _ _ _ ?_)
  refine Cq (fun K11 k11 => ?_)
  refine Cx.block ?_
  refine Cx.loopK (Sc 0 rfl (Sc 2 rfl (Sc 3 rfl (Sc 4 rfl (Sc 5 rfl (Sc 10 rfl (Sc 11 rfl (Sc 12 rfl (Sc 13 rfl (Sc 14 rfl (Sc 15 rfl (Sc 16 rfl (Sc 17 rfl (Sc 27 rfl (Sc 28 rfl (Sc 29 rfl (Sc 30 rfl (Sc 31 rfl (Sc 32 rfl (Sc 33 rfl (Sub.nil _))))))))))))))))))))) (fun m ρ' B' H' => ∃ (k : Nat), (k ≤ q) ∧ m = q - k ∧ ρ' = [(6, str (rest.drop (64 * k)))] ∧ B = B' ∧ row b3 190 (w32s (foldB (foldA s nb) rest k)) * R = H') ⟨0, Nat.zero_le _, rfl, rfl, rfl, rfl⟩ (Sc 6 rfl (Sc 0 rfl (Sc 2 rfl (Sc 3 rfl (Sc 4 rfl (Sc 5 rfl (Sc 10 rfl (Sc 11 rfl (Sc 12 rfl (Sc 13 rfl (Sc 14 rfl (Sc 15 rfl (Sc 16 rfl (Sc 17 rfl (Sc 27 rfl (Sc 28 rfl (Sc 29 rfl (Sc 30 rfl (Sc 31 rfl (Sc 32 rfl (Sc 33 rfl (Sub.nil _)))))))))))))))))))))) ?_
  rintro m ρ' B' H' ⟨k, hk, rfl, rfl, rfl, rfl⟩
  refine Cq (fun K12 k12 => ?_)
  refine Cq (fun K13 k13 => ?_)
  refine Cr <| Lx.y (mv rfl) rfl <| Lx.y (neS rfl rfl) rfl <| Lx.nil <| ?_
  refine Xx.tn (k13 _ _ _ _ ?_)
  refine Cx.condN rfl (fun h14 => ?_) (fun h14 => ?_)
  ·
   have hne := h14
   have hlt : k < q := by
    by_cases h9 : k < q
    ·exact h9
    ·exfalso
     have h8 : rest.drop (64 * k) = [] := List.drop_of_length_le (by omega)
     simp [h8] at hne
   have hl := foldB_len (foldA_len s nb) rest k
   have hl2 := foldB_len (foldA_len s nb) rest (k + 1)
   have h64 : ((rest.drop (64 * k)).take 64).length = 64 := by rw [List.length_take, List.length_drop]; omega
   refine Cx.skip ?_
   refine Xx.tn (k12 _ _ _ _ ?_)
   refine Cq (fun K15 k15 => ?_)
   refine Cx.block ?_
   refine Cx.drawn (by kernel_rfl) ?_
   refine Dx.r (i := 0) rfl (by kernel_rfl) (ldA U190 rfl sz190 rfl (Co (n := 8) Pe (show ((w32s (foldB (foldA s nb) rest k)).drop 0).take 8 = w32s (foldB (foldA s nb) rest k) by rw [List.drop_zero, List.take_of_length_le (by rw [w32_len, hl]; exact Nat.le_refl _)])) (by rw [w32_len, hl])) rfl ?_
   refine Dx.p (i := 1) rfl (by kernel_rfl) (mv rfl) rfl ?_
   refine Dx.p (i := 2) rfl (by kernel_rfl) (sl2S U9 rfl rfl (show Int.toNat _ = 64 from rfl) (by decide) (by rw [List.length_drop]; omega)) rfl ?_
   refine Dx.one (i := 3) (by kernel_rfl) ?_
   refine Dstep.o (i := 3) rfl (Ox.cb rfl rfl rfl (Mix_ct (foldB (foldA s nb) rest k) ((rest.drop (64 * k)).take 64) _ h64 hl)) rfl (fun v B' H' hΦ hB => ?_)
   obtain ⟨rfl, rfl, Y⟩ := hΦ; have E := Y.symm; subst E; clear hB
   refine ⟨Je (Jt) (by kernel_rfl), ?_⟩
   refine Dx.one (i := 4) (by kernel_rfl) ?_
   refine Dstep.o0 (i := 4) rfl (stA (d := .bool) (cs' := w32s (foldB (foldA s nb) rest (k + 1))) sz190 rfl rfl (by rw [w32_len]; exact hl2) (w32_all _) (by rw [w32_len, w32_len, hl]; exact Nat.le_of_eq ((Nat.zero_add _).trans hl2)) (st_full (by rw [w32_len, w32_len, hl]; exact (hl2).symm))) (fun v B' H' hΦ hB => ?_)
   obtain ⟨Y, rfl⟩ := hΦ; have E := Y.symm; subst E; clear hB v
   refine ⟨Je (Jt) (by kernel_rfl), ?_⟩
   refine Dx.done (by kernel_rfl) ?_
   refine Xx.bn ?_
   refine Xx.tn (k15 _ _ _ _ ?_)
   refine Cr <| Lx.y (mv rfl) rfl <| Lx.y (Yx.val (sl1S U9 rfl rfl (show Int.toNat _ = 64 from rfl) (by decide) (by rw [List.length_drop]; omega)) (show _ = str (rest.drop (64 * (k + 1))) by rw [List.drop_drop]; rfl)) rfl <| Lx.y (asg rfl) rfl <| Lx.nil <| ?_
   exact Xx.againK ⟨k + 1, by omega, rfl, rfl, rfl, rfl⟩ (by omega) (Sc 6 rfl (Sc 0 rfl (Sc 2 rfl (Sc 3 rfl (Sc 4 rfl (Sc 5 rfl (Sc 10 rfl (Sc 11 rfl (Sc 12 rfl (Sc 13 rfl (Sc 14 rfl (Sc 15 rfl (Sc 16 rfl (Sc 17 rfl (Sc 27 rfl (Sc 28 rfl (Sc 29 rfl (Sc 30 rfl (Sc 31 rfl (Sc 32 rfl (Sc 33 rfl (Sub.nil _))))))))))))))))))))))
  ·
   have hne := h14
   have hke : q = k := by
    by_cases h9 : k < q
    ·have h8 : (rest.drop (64 * k)).length = 0 := by rw [show rest.drop (64 * k) = [] by simpa using hne]; rfl
     rw [List.length_drop] at h8; omega
    ·omega
   subst hke
   have hl := foldB_len (foldA_len s nb) rest q
   obtain ⟨h, hh⟩ : ∃ h, h = foldB (foldA s nb) rest q := ⟨_, rfl⟩
   rw [← hh] at hl ⊢
   refine Cx.exit <| Xx.te <| Xx.te <| Xx.bh <| ?_
   refine Xx.tn (k11 _ _ _ _ ?_)
   refine Cq (fun K16 k16 => ?_)
   refine Cr ?_
   refine Lx.o (mksO U107 ti5 rfl rfl (by decide) (by decide) (by decide) (by decide)) rfl (fun v B' H' hΦ hB => ?_)
   obtain ⟨bm, rfl, hBB, rfl⟩ := hΦ
   have hBB2 := hBB.symm
   subst hBB2
   clear hB
   refine Xx.closeT bm [] (List.replicate 32 (.int .u8 0)) 1 0 32 rfl rfl (by decide) rfl ?_
   refine Lx.y (asg rfl) rfl <| Lx.nil <| ?_
   refine Xx.tn (k16 _ _ _ _ ?_)
   refine Cq (fun K17 k17 => ?_)
   refine Cq (fun K18 k18 => ?_)
   refine Cr <| Lx.y (ldA U190 rfl sz190 rfl (Co (n := 8) Pe (show ((w32s (h)).drop 0).take 8 = w32s (h) by rw [List.drop_zero, List.take_of_length_le (by rw [w32_len, hl]; exact Nat.le_refl _)])) (by rw [w32_len, hl])) rfl <| Lx.y (mv rfl) rfl <| Lx.nil <| ?_
   refine Xx.tn (k18 _ _ _ _ ?_)
   refine Cx.block ?_
   refine Cx.loopK (Sc 0 rfl (Sc 2 rfl (Sc 3 rfl (Sc 4 rfl (Sc 5 rfl (Sc 6 rfl (Sc 10 rfl (Sc 11 rfl (Sc 12 rfl (Sc 13 rfl (Sc 14 rfl (Sc 15 rfl (Sc 16 rfl (Sc 17 rfl (Sc 27 rfl (Sc 28 rfl (Sc 29 rfl (Sc 30 rfl (Sc 31 rfl (Sc 32 rfl (Sc 33 rfl (Sc 34 rfl (Sc 35 rfl (Sc 42 rfl (Sc 43 rfl (Sub.nil _)))))))))))))))))))))))))) (fun m ρ' B' H' => ∃ (i : Nat) (Ao : Option Addr) (co : Nat), (i ≤ 8) ∧ m = 8 - i ∧ ρ' = [(7, .slice Ao (4 * i) co), (44, i64 i)] ∧ B = B' ∧ sbuf 5 1 Ao (4 * i) co (u8s (outL h i)) * (row b3 190 (w32s h) * R) = H') ⟨0, _, _, Nat.zero_le _, rfl, rfl, rfl, rfl⟩ (Sc 7 rfl (Sc 44 rfl (Sc 0 rfl (Sc 2 rfl (Sc 3 rfl (Sc 4 rfl (Sc 5 rfl (Sc 6 rfl (Sc 10 rfl (Sc 11 rfl (Sc 12 rfl (Sc 13 rfl (Sc 14 rfl (Sc 15 rfl (Sc 16 rfl (Sc 17 rfl (Sc 27 rfl (Sc 28 rfl (Sc 29 rfl (Sc 30 rfl (Sc 31 rfl (Sc 32 rfl (Sc 33 rfl (Sc 34 rfl (Sc 35 rfl (Sc 42 rfl (Sc 43 rfl (Sub.nil _)))))))))))))))))))))))))))) ?_
   rintro m ρ' B' H' ⟨i, Ao, co, hi, rfl, rfl, rfl, rfl⟩
   refine Cq (fun K19 k19 => ?_)
   refine Cr <| Lx.y (lss rfl rfl) rfl <| Lx.nil <| ?_
   refine Xx.tn (k19 _ _ _ _ ?_)
   refine Cq (fun K20 k20 => ?_)
   refine Cx.condD rfl (fun h21 => ?_) (fun h21 => ?_)
   ·
    have h8 := h21
    have h8 : i < 8 := by omega
    have hol := outL_len h i
    refine Cx.skip ?_
    refine Xx.tn (k20 _ _ _ _ ?_)
    refine Cq (fun K22 k22 => ?_)
    refine Cx.block ?_
    refine Cq (fun K23 k23 => ?_)
    refine Cr <| Lx.y (ixArr U190 sz104 U104 rfl rfl rfl (by omega) (by omega) (by rw [Int.toNat_natCast]; exact w32_idx (by rw [hl]; exact h8))) rfl <| Lx.y (asg rfl) rfl <| Lx.nil <| ?_
    refine Xx.tn (k23 _ _ _ _ ?_)
    refine Cr <| Lx.y (mv rfl) rfl <| Lx.y (mv rfl) rfl <| Lx.y (shrW32 (c := 24) rfl rfl rfl) rfl <| Lx.y (cvI rfl U104 U5 (wrap_u8 _)) rfl <| Lx.y (mv rfl) rfl <| Lx.y (shrW32 (c := 16) rfl rfl rfl) rfl <| Lx.y (cvI rfl U104 U5 (wrap_u8 _)) rfl <| Lx.y (mv rfl) rfl <| Lx.y (shrW32 (c := 8) rfl rfl rfl) rfl <| Lx.y (cvI rfl U104 U5 (wrap_u8 _)) rfl <| Lx.y (mv rfl) rfl <| ?_
    refine Lx.y (cvI rfl U104 U5 (wrap_u8 _)) rfl ?_
    refine Lx.bsl (bsl1 U107 ti5 rfl rfl rfl (by decide)) rfl (fun bp => ?_)
    refine Lx.o (appN (A := Ao) (4 * (i + 1)) (u8s (be4 (h.getD i 0))) (u8s (outL h (i + 1))) U107 U107 ti5 rfl rfl rfl rfl rfl (by omega) (by omega) (by omega) (show u8s (outL h i) ++ u8s (be4 (h.getD i 0)) = u8s (outL h i ++ be4 (h.getD i 0)) by unfold u8s; rw [List.map_append])) rfl (fun v B' H' hΦ hB => ?_)
    obtain ⟨A2, c2, rfl, hA2, hl2, hc2, hBB, rfl⟩ := hΦ
    have hBB2 := hBB.symm
    subst hBB2
    clear hB
    refine Lx.y (asg rfl) rfl <| Lx.nil <| Xx.bn <| ?_
    refine Xx.tn (k22 _ _ _ _ ?_)
    refine Cr <| Lx.y (Yx.val (add rfl rfl (by first | exact wrap64 (by omega) (by omega) | rfl)) (show _ = i64 ((i + 1 : Nat) : Int) by first | rfl | (congr 1; omega) | (simp; omega))) rfl <| Lx.y (mv rfl) rfl <| Lx.nil <| ?_
    refine Xx.dropB bp ?_
    exact Xx.againK ⟨i + 1, A2, c2, by omega, rfl, rfl, rfl, (by ac_rfl)⟩ (by omega) (Sub.consE (s := 7) rfl (rfl) (Sc 44 rfl (Sc 0 rfl (Sc 2 rfl (Sc 3 rfl (Sc 4 rfl (Sc 5 rfl (Sc 6 rfl (Sc 10 rfl (Sc 11 rfl (Sc 12 rfl (Sc 13 rfl (Sc 14 rfl (Sc 15 rfl (Sc 16 rfl (Sc 17 rfl (Sc 27 rfl (Sc 28 rfl (Sc 29 rfl (Sc 30 rfl (Sc 31 rfl (Sc 32 rfl (Sc 33 rfl (Sc 34 rfl (Sc 35 rfl (Sc 42 rfl (Sc 43 rfl (Sub.nil _))))))))))))))))))))))))))))
   ·
    have h8 := h21
    obtain rfl : i = 8 := by omega
    refine Xx.srcT Ao fun hsr => ?_
    refine Cx.exit <| Xx.te <| Xx.te <| Xx.bh <| ?_
    refine Xx.tn (k17 _ _ _ _ ?_)
    refine Cq (fun K24 k24 => ?_)
    refine Cr <| Lx.y (mv rfl) rfl <| Lx.y (b2s U107 U5 U9 rfl (l := outL h 8) (Src'.sbuf hsr) PickS.eq) rfl <| Lx.y (asg rfl) rfl <| Lx.nil <| ?_
    refine Xx.tn (k24 _ _ _ _ ?_)
    refine Cx.ret ?_
    refine Xx.dropT Ao ?_
    refine Xx.dropB b3 ?_
    exact Xx.rB1 rfl rfl ⟨by rw [hh], rfl⟩ (Fl _) rfl
end VhE
end Go.Proofs.YthlfffbcligocaaGreat
namespace Go.Proofs.YthlfffbcligocaaGreat
open Go.SL Go.RowKit
set_option maxRecDepth 100000
open VhA VhB VhC VhD VhE
namespace VhF
theorem sz9 : (Tryz.prog.info? 9).map (·.size) = some 1 := by kernel_rfl
def leafF (s : List UInt8) : List UInt8 := sumF ([0] ++ s)
def nodeF (a b : List UInt8) : List UInt8 := sumF ([1] ++ a ++ b)
theorem leafF_len (s : List UInt8) : (leafF s).length = 32 := sumF_len _
theorem nodeF_len (a b : List UInt8) : (nodeF a b).length = 32 := sumF_len _
set_option maxHeartbeats 1000000 in
theorem Leaf_ct (s : List UInt8) (B : Frag) (hn : s.length ≤ 4611686018427387900) : CtP Tryz.prog 93 [str s] B (str (leafF s)) := by
 refine CtB.of_body Tryz.func93 rfl (nt := 6) rfl (by kernel_rfl) rfl ?_
 intro N0 w0 R
 refine Cq (fun K1 k1 => ?_)
 refine Cr <| Lx.y (asg rfl) rfl <| Lx.nil <| ?_
 refine Xx.tn (k1 _ _ _ _ ?_)
 refine Cq (fun K2 k2 => ?_)
 refine Cr <| Lx.y (mv rfl) rfl <| Lx.y (catS (l := [0]) rfl rfl (by simp; omega)) rfl <| ?_
 refine Lx.cp rfl rfl rfl (Sum_ct ([0] ++ s) _ (by simp; omega)) rfl ?_
 refine Lx.y (asg rfl) rfl <| Lx.nil <| ?_
 refine Xx.tn (k2 _ _ _ _ ?_)
 refine Cx.ret ?_
 exact Xx.rB1 rfl rfl ⟨rfl, rfl⟩ (Fl _) rfl
set_option maxHeartbeats 1000000 in
theorem Node_ct (a b : List UInt8) (B : Frag) (ha : a.length ≤ 1000) (hb : b.length ≤ 1000) : CtP Tryz.prog 81 [str a, str b] B (str (nodeF a b)) := by
 refine CtB.of_body Tryz.func81 rfl (nt := 10) rfl (by kernel_rfl) rfl ?_
 intro N0 w0 R
 refine Cq (fun K1 k1 => ?_)
 refine Cr <| Lx.y (asg rfl) rfl <| Lx.nil <| ?_
 refine Xx.tn (k1 _ _ _ _ ?_)
 refine Cq (fun K2 k2 => ?_)
 refine Cr <| Lx.y (mv rfl) rfl <| Lx.y (catS (l := [1]) rfl rfl (by simp; omega)) rfl <| Lx.y (mv rfl) rfl <| Lx.y (catS (l := [1] ++ a) rfl rfl (by simp; omega)) rfl <| ?_
 refine Lx.cp rfl rfl rfl (Sum_ct ([1] ++ a ++ b) _ (by simp; omega)) rfl ?_
 refine Lx.y (asg rfl) rfl <| Lx.nil <| ?_
 refine Xx.tn (k2 _ _ _ _ ?_)
 refine Cx.ret ?_
 exact Xx.rB1 rfl rfl ⟨rfl, rfl⟩ (Fl _) rfl
end VhF
end Go.Proofs.YthlfffbcligocaaGreat
