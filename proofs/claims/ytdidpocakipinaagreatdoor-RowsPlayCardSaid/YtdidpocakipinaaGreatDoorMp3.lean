/-
  Texts of this seat, one behind the other: KeG, KeI, Sln, Slo, Slp, Slq, Slr, Sls, Slt, RgA, BtB, BtC.
-/
import Derived.Test.YtdidpocakipinaaGreatDoorProg
import Derived.SizedLaws
import Derived.Shelf.Vars
import Derived.Laws.CopyRow
import Derived.Lib.AppendZeros
import Derived.Lib.Overlaps
import Derived.Lib.Bytealg
import Derived.LoopNIn
import Derived.Test.YtdidpocakipinaaGreatDoorMp2
set_option linter.unusedSimpArgs false
set_option linter.unusedVariables false
namespace Go.Proofs.YtdidpocakipinaaGreatDoor
open Go.SL Go.RowKit
set_option maxRecDepth 100000
open Ke1 Ke3 Ke4 Ke5 Ke6 Ke7 Ke8 Ke9 KeA KeB KeC KeD KeE KeF
namespace KeG
theorem sz9 : (Tryz.prog.info? 9).map (·.size) = some 1 := by kernel_rfl
theorem sz25 : (Tryz.prog.info? 25).map (·.size) = some 6 := by kernel_rfl
theorem sz39 : (Tryz.prog.info? 39).map (·.size) = some 6 := by kernel_rfl
theorem ti5 : TI Tryz.prog 5 [.int .u8 0] 1 1 := TI.of (by kernel_rfl) rfl rfl
theorem fo39_0 : FO Tryz.prog 39 0 0 1 false := FO.of U39 rfl rfl (by kernel_rfl) U3 rfl rfl
theorem fo39_1 : FO Tryz.prog 39 1 1 1 false := FO.of U39 rfl rfl (by kernel_rfl) U4 rfl rfl
theorem fo39_2 : FO Tryz.prog 39 2 2 1 false := FO.of U39 rfl rfl (by kernel_rfl) U2 rfl rfl
theorem fo39_3 : FO Tryz.prog 39 3 3 1 false := FO.of U39 rfl rfl (by kernel_rfl) U9 rfl rfl
theorem fo39_4 : FO Tryz.prog 39 4 4 1 false := FO.of U39 rfl rfl (by kernel_rfl) U37 rfl rfl
theorem fo39_5 : FO Tryz.prog 39 5 5 1 false := FO.of U39 rfl rfl (by kernel_rfl) U23 rfl rfl
theorem numK_add (n : Int) : numL (BitVec.ofInt 64 n + 9223372036854775808#64) = numK n := by unfold numK; rw [xor_top]
set_option maxHeartbeats 1000000 in
theorem RKey_step (d : Nat) (ih : ∀ (v : V) (cs : List Value) (deep : Int) (B : Frag), ValR B d v cs → checkF d v deep = 0 → (bytesF d v).length ≤ 1048576 → CtP Tryz.prog 93 [.agg cs.toArray] B (str (keyF d v))) (v : V) (cs : List Value) (deep : Int) (B : Frag) (h : ValR B (d + 1) v cs) (hok : checkF (d + 1) v deep = 0) (hb : (bytesF (d + 1) v).length ≤ 1048576) : CtP Tryz.prog 93 [.agg cs.toArray] B (str (keyF (d + 1) v)) := by
 have hkl := keyF_len _ _ _ _ h
 obtain ⟨hnm6, hnm0⟩ := names_many hok
 obtain ⟨_, _, _, _, _, _, hokp⟩ := chk_ok hok
 have hpk : ∀ i (hi : i < v.parts.length), (keyF d v.parts[i]).length + 1 ≤ 12 * (bytesF d v.parts[i]).length := by
  intro i hi
  obtain ⟨_, _, _, _, _, _, _, _, _, _, hps⟩ := h
  obtain ⟨b, o, l, et, fz, xs, _, _, _, hv⟩ := hps i hi
  exact keyF_len _ _ _ _ hv
 obtain ⟨Ap, cp, An, cn, rfl, ⟨hsl, hn1, hn2, hcn, hcp⟩, hpl, hnl, hns, hnx, hps⟩ := h
 refine CtB.of_body Tryz.func93 rfl (nt := 78) rfl (by kernel_rfl) rfl ?_
 intro N0 w0 R
 refine Cx.seq (fun K1 k1 => ?_)
 refine Cx.region ?_
 refine Lx.new (boxA rfl) rfl (fun b1 => ?_)
 refine Lx.y (asg rfl) rfl <| Lx.nil <| ?_
 refine Xx.tn (k1 _ _ _ _ ?_)
 refine Cx.seq (fun K2 k2 => ?_)
 refine Cx.region <| Lx.y (fa' fo39_0 rfl) rfl <| Lx.y (ld U3 rfl rfl rfl) rfl <| Lx.y (cvI rfl U3 U5 (wrap_u8 _)) rfl <| ?_
 refine Lx.bsl (bsl1 U106 ti5 rfl rfl rfl (by decide)) rfl (fun b9 => ?_)
 refine Lx.y (b2sR U106 U5 U9 rfl (u8s_cons u8s_nil) rfl) rfl <| Lx.y (asg rfl) rfl <| ?_
 refine Xx.dropB b9 ?_
 refine Lx.nil ?_
 refine Xx.tn (k2 _ _ _ _ ?_)
 refine Cx.seq (fun K3 k3 => ?_)
 refine Cx.seq (fun K4 k4 => ?_)
 refine Cx.region <| Lx.y (fa' fo39_0 rfl) rfl <| Lx.y (ld U3 rfl rfl rfl) rfl <| Lx.nil <| ?_
 refine Xx.tn (k4 _ _ _ _ ?_)
 refine Cx.block ?_
 refine Cx.seq (fun K5 k5 => ?_)
 refine Cx.region <| Lx.y (eqI rfl rfl) rfl <| Lx.y (asg rfl) rfl <| Lx.nil <| ?_
 refine Xx.tn (k5 _ _ _ _ ?_)
 refine Cx.condD rfl (fun h6 => ?_) (fun h6 => ?_)
 ·
  have z1 := h6
  refine Cx.seq (fun K7 k7 => ?_)
  refine Cx.seq (fun K8 k8 => ?_)
  refine Cx.region <| Lx.y (fa' fo39_1 rfl) rfl <| Lx.y (ld U4 rfl rfl rfl) rfl <| Lx.nil <| ?_
  refine Xx.tn (k8 _ _ _ _ ?_)
  refine Cx.condB rfl (fun h9 => ?_) (fun h9 => ?_)
  ·
   have zb := h9
   refine Cx.seq (fun K10 k10 => ?_)
   refine Cx.region <| Lx.y (mv rfl) rfl <| Lx.y (catS rfl rfl (by first | omega | (simp <;> omega))) rfl <| Lx.y (asg rfl) rfl <| Lx.nil <| ?_
   refine Xx.tn (k10 _ _ _ _ ?_)
   refine Cx.ret <| Xx.tr <| ?_
   refine Xx.br ?_
   refine Xx.tr ?_
   refine Xx.dropB b1 (Xx.rB1 rfl rfl ⟨congrArg str ?_, rfl⟩ (Frag.le_refl _) rfl)
   first | exact hkf.symm | (unfold keyF; rw [if_pos z1, zb]; rfl) | (unfold keyF; rw [if_neg z1, if_pos z2, ← numK_add]; done) | (unfold keyF; rw [if_neg z1, if_neg z2, if_pos z3]; done) | (unfold keyF; rw [if_neg z1, if_neg z2, if_neg z3, if_neg z4])
  ·
   have zb := h9
   refine Cx.skip ?_
   refine Xx.tn (k7 _ _ _ _ ?_)
   refine Cx.seq (fun K11 k11 => ?_)
   refine Cx.region <| Lx.y (mv rfl) rfl <| Lx.y (catS rfl rfl (by first | omega | (simp <;> omega))) rfl <| Lx.y (asg rfl) rfl <| Lx.nil <| ?_
   refine Xx.tn (k11 _ _ _ _ ?_)
   refine Cx.ret ?_
   refine Xx.br ?_
   refine Xx.tr ?_
   refine Xx.dropB b1 (Xx.rB1 rfl rfl ⟨congrArg str ?_, rfl⟩ (Frag.le_refl _) rfl)
   first | exact hkf.symm | (unfold keyF; rw [if_pos z1, zb]; rfl) | (unfold keyF; rw [if_neg z1, if_pos z2, ← numK_add]; done) | (unfold keyF; rw [if_neg z1, if_neg z2, if_pos z3]; done) | (unfold keyF; rw [if_neg z1, if_neg z2, if_neg z3, if_neg z4])
 ·
  have z1 := h6
  refine Cx.seq (fun K12 k12 => ?_)
  refine Cx.region <| Lx.y (eqI rfl rfl) rfl <| Lx.y (asg rfl) rfl <| Lx.nil <| ?_
  refine Xx.tn (k12 _ _ _ _ ?_)
  refine Cx.condD rfl (fun h13 => ?_) (fun h13 => ?_)
  ·
   have z2 := h13
   refine Cx.seq (fun K14 k14 => ?_)
   refine Cx.region <| Lx.y (mv rfl) rfl <| Lx.y (fa' fo39_2 rfl) rfl <| Lx.y (ld U2 rfl rfl rfl) rfl <| Lx.y (cvW64 rfl U2 U34) rfl <| Lx.y (addW64 (b := 9223372036854775808#64) rfl rfl) rfl <| ?_
   refine Lx.cp rfl rfl rfl (eight_ct _ _) rfl ?_
   refine Lx.y (catS rfl rfl (by first | omega | (simp <;> omega))) rfl <| Lx.y (asg rfl) rfl <| Lx.nil <| ?_
   refine Xx.tn (k14 _ _ _ _ ?_)
   refine Cx.ret ?_
   refine Xx.br ?_
   refine Xx.tr ?_
   refine Xx.dropB b1 (Xx.rB1 rfl rfl ⟨congrArg str ?_, rfl⟩ (Frag.le_refl _) rfl)
   first | exact hkf.symm | (unfold keyF; rw [if_pos z1, zb]; rfl) | (unfold keyF; rw [if_neg z1, if_pos z2, ← numK_add]; done) | (unfold keyF; rw [if_neg z1, if_neg z2, if_pos z3]; done) | (unfold keyF; rw [if_neg z1, if_neg z2, if_neg z3, if_neg z4])
  ·
   have z2 := h13
   refine Cx.cutK (ds' := []) (Sc 0 rfl (Sc 1 rfl (Sc 2 rfl (Sc 3 rfl (Sc 5 rfl (Sc 6 rfl (Sc 7 rfl (Sc 8 rfl (Sc 9 rfl (Sc 10 rfl (Sc 11 rfl (Sc 12 rfl (Sc 13 rfl (Sc 20 rfl (Sc 21 rfl (Sub.nil _)))))))))))))))) (fun ρ' B' H' => ρ' = [(29, .bool (decide (v.kind = 3 ∨ v.kind = 4)))] ∧ B = B' ∧ row b1 39 (vcs v Ap cp An cn) * R = H') ?_ ?_
   ·
    refine Cx.seq (fun K15 k15 => ?_)
    refine Cx.region <| Lx.y (eqI rfl rfl) rfl <| Lx.y (asg rfl) rfl <| Lx.nil <| ?_
    refine Xx.tn (k15 _ _ _ _ ?_)
    refine Cx.condD rfl (fun h16 => ?_) (fun h16 => ?_)
    ·
     have z3 := h16
     refine Cx.skip ?_
     exact Xx.mkK (⟨rfl, rfl, rfl⟩) (Sub.consE (s := 29) rfl (by first | exact congrArg Value.bool (decide_eq_true (by omega)).symm | exact congrArg Value.bool (decide_eq_decide.2 (by omega))) (Sc 0 rfl (Sc 1 rfl (Sc 2 rfl (Sc 3 rfl (Sc 5 rfl (Sc 6 rfl (Sc 7 rfl (Sc 8 rfl (Sc 9 rfl (Sc 10 rfl (Sc 11 rfl (Sc 12 rfl (Sc 13 rfl (Sc 20 rfl (Sc 21 rfl (Sub.nil _)))))))))))))))))
    ·
     have z3 := h16
     refine Cx.region <| Lx.y (eqI rfl rfl) rfl <| Lx.y (asg rfl) rfl <| Lx.nil <| ?_
     exact Xx.mkK (⟨rfl, rfl, rfl⟩) (Sub.consE (s := 29) rfl (by first | exact congrArg Value.bool (decide_eq_true (by omega)).symm | exact congrArg Value.bool (decide_eq_decide.2 (by omega))) (Sc 0 rfl (Sc 1 rfl (Sc 2 rfl (Sc 3 rfl (Sc 5 rfl (Sc 6 rfl (Sc 7 rfl (Sc 8 rfl (Sc 9 rfl (Sc 10 rfl (Sc 11 rfl (Sc 12 rfl (Sc 13 rfl (Sc 20 rfl (Sc 21 rfl (Sub.nil _)))))))))))))))))
   ·rintro ρ' B' H' ⟨rfl, rfl, rfl⟩
    refine Cx.condD rfl (fun h17 => ?_) (fun h17 => ?_)
    ·
     have z3 := h17
     refine Cx.seq (fun K18 k18 => ?_)
     have hsb : v.s.length ≤ 1048576 := by unfold bytesF at hb; rw [if_neg z1, if_neg z2, if_pos z3] at hb; unfold txtL at hb; simp only [List.length_append] at hb; omega
     have htl := textL_len v.s
     refine Cx.region <| Lx.y (mv rfl) rfl <| Lx.y (fa' fo39_3 rfl) rfl <| Lx.y (ld U9 rfl rfl rfl) rfl <| ?_
     refine Lx.cp rfl rfl rfl (RefText_ct _ _ (by omega)) rfl ?_
     refine Lx.y (catS rfl rfl (by first | omega | (simp <;> omega))) rfl <| Lx.y (asg rfl) rfl <| Lx.nil <| ?_
     refine Xx.tn (k18 _ _ _ _ ?_)
     refine Cx.ret ?_
     refine Xx.br ?_
     refine Xx.tr ?_
     refine Xx.dropB b1 (Xx.rB1 rfl rfl ⟨congrArg str ?_, rfl⟩ (Frag.le_refl _) rfl)
     first | exact hkf.symm | (unfold keyF; rw [if_pos z1, zb]; rfl) | (unfold keyF; rw [if_neg z1, if_pos z2, ← numK_add]; done) | (unfold keyF; rw [if_neg z1, if_neg z2, if_pos z3]; done) | (unfold keyF; rw [if_neg z1, if_neg z2, if_neg z3, if_neg z4])
    ·
     have z3 := h17
     refine Cx.cutK (ds' := []) (Sc 0 rfl (Sc 1 rfl (Sc 2 rfl (Sc 3 rfl (Sc 5 rfl (Sc 6 rfl (Sc 7 rfl (Sc 8 rfl (Sc 9 rfl (Sc 10 rfl (Sc 11 rfl (Sc 12 rfl (Sc 13 rfl (Sc 20 rfl (Sc 21 rfl (Sc 29 rfl (Sub.nil _))))))))))))))))) (fun ρ' B' H' => ρ' = [(37, .bool (decide (v.kind = 5 ∨ v.kind = 6)))] ∧ B = B' ∧ row b1 39 (vcs v Ap cp An cn) * R = H') ?_ ?_
     ·
      refine Cx.seq (fun K19 k19 => ?_)
      refine Cx.region <| Lx.y (eqI rfl rfl) rfl <| Lx.y (asg rfl) rfl <| Lx.nil <| ?_
      refine Xx.tn (k19 _ _ _ _ ?_)
      refine Cx.condD rfl (fun h20 => ?_) (fun h20 => ?_)
      ·
       have z4 := h20
       refine Cx.skip ?_
       exact Xx.mkK (⟨rfl, rfl, rfl⟩) (Sub.consE (s := 37) rfl (by first | exact congrArg Value.bool (decide_eq_true (by omega)).symm | exact congrArg Value.bool (decide_eq_decide.2 (by omega))) (Sc 0 rfl (Sc 1 rfl (Sc 2 rfl (Sc 3 rfl (Sc 5 rfl (Sc 6 rfl (Sc 7 rfl (Sc 8 rfl (Sc 9 rfl (Sc 10 rfl (Sc 11 rfl (Sc 12 rfl (Sc 13 rfl (Sc 20 rfl (Sc 21 rfl (Sc 29 rfl (Sub.nil _))))))))))))))))))
      ·
       have z4 := h20
       refine Cx.region <| Lx.y (eqI rfl rfl) rfl <| Lx.y (asg rfl) rfl <| Lx.nil <| ?_
       exact Xx.mkK (⟨rfl, rfl, rfl⟩) (Sub.consE (s := 37) rfl (by first | exact congrArg Value.bool (decide_eq_true (by omega)).symm | exact congrArg Value.bool (decide_eq_decide.2 (by omega))) (Sc 0 rfl (Sc 1 rfl (Sc 2 rfl (Sc 3 rfl (Sc 5 rfl (Sc 6 rfl (Sc 7 rfl (Sc 8 rfl (Sc 9 rfl (Sc 10 rfl (Sc 11 rfl (Sc 12 rfl (Sc 13 rfl (Sc 20 rfl (Sc 21 rfl (Sc 29 rfl (Sub.nil _))))))))))))))))))
     ·rintro ρ' B' H' ⟨rfl, rfl, rfl⟩
      refine Cx.condD rfl (fun h21 => ?_) (fun h21 => ?_)
      ·
       have z4 := h21
       refine Cx.seq (fun K22 k22 => ?_)
       refine Cx.seq (fun K23 k23 => ?_)
       have hbf : bytesF (d + 1) v = preB (bytesF d) v v.parts.length := by unfold bytesF; rw [if_neg (by omega), if_neg (by omega), if_neg (by omega), if_pos z4]
       rw [hbf] at hb
       have hkf : keyF (d + 1) v = preK (keyF d) v v.parts.length ++ [0] := by unfold keyF; rw [if_neg (by omega), if_neg (by omega), if_neg (by omega), if_pos z4]
       refine Cx.region <| Lx.y (asg rfl) rfl <| Lx.nil <| ?_
       refine Xx.tn (k23 _ _ _ _ ?_)
       refine Cx.block ?_
       refine Cx.loopK (Sc 0 rfl (Sc 1 rfl (Sc 2 rfl (Sc 5 rfl (Sc 6 rfl (Sc 7 rfl (Sc 8 rfl (Sc 9 rfl (Sc 10 rfl (Sc 11 rfl (Sc 12 rfl (Sc 13 rfl (Sc 20 rfl (Sc 21 rfl (Sc 29 rfl (Sc 37 rfl (Sub.nil _))))))))))))))))) (fun m ρ' B' H' => ∃ (i : Nat), (i ≤ v.parts.length) ∧ m = v.parts.length - i ∧ ρ' = [(3, str (preK (keyF d) v i)), (4, i64 i)] ∧ B = B' ∧ row b1 39 (vcs v Ap cp An cn) * R = H') ⟨0, Nat.zero_le _, rfl, rfl, rfl, rfl⟩ (Sub.consE (s := 3) rfl (by simp [preK]) (Sc 4 rfl (Sc 0 rfl (Sc 1 rfl (Sc 2 rfl (Sc 5 rfl (Sc 6 rfl (Sc 7 rfl (Sc 8 rfl (Sc 9 rfl (Sc 10 rfl (Sc 11 rfl (Sc 12 rfl (Sc 13 rfl (Sc 20 rfl (Sc 21 rfl (Sc 29 rfl (Sc 37 rfl (Sub.nil _))))))))))))))))))) ?_
       rintro m ρ' B' H' ⟨i, hi, rfl, rfl, rfl, rfl⟩
       have hmi := preB_mono (bytesF d) v (show i ≤ v.parts.length by omega)
       have hki := preK_len (keyF d) (bytesF d) v hpk i (by omega)
       refine Cx.seq (fun K24 k24 => ?_)
       refine Cx.seq (fun K25 k25 => ?_)
       refine Cx.region <| Lx.y (mv rfl) rfl <| Lx.y (fa' fo39_4 rfl) rfl <| Lx.y (ld U37 rfl rfl rfl) rfl <| Lx.y (lenV (ty' := 0) U37 rfl) rfl <| Lx.y (lss rfl rfl) rfl <| Lx.nil <| ?_
       refine Xx.tn (k25 _ _ _ _ ?_)
       refine Cx.condD rfl (fun h26 => ?_) (fun h26 => ?_)
       ·
        refine Cx.skip ?_
        refine Xx.tn (k24 _ _ _ _ ?_)
        refine Cx.seq (fun K27 k27 => ?_)
        refine Cx.block ?_
        refine Cx.seq (fun K28 k28 => ?_)
        have hil : i < v.parts.length := by omega
        have hpi := hpk i hil
        have hm2 := preB_mono (bytesF d) v (show i + 1 ≤ v.parts.length by omega)
        rw [preB_succ, List.length_append] at hm2
        obtain ⟨bq, oq, lq, eq, fq, xs, rfl, hBq, hxs, hv2⟩ := hps i hil
        obtain ⟨Ap2, cp2, An2, cn2, rfl⟩ := ValR.shape hv2
        refine Cx.region <| Lx.y (mv rfl) rfl <| Lx.y (catS rfl rfl (by first | omega | (simp <;> omega))) rfl <| Lx.y (asg rfl) rfl <| Lx.nil <| ?_
        refine Xx.tn (k28 _ _ _ _ ?_)
        refine Cx.seq (fun K29 k29 => ?_)
        refine Cx.seq (fun K30 k30 => ?_)
        refine Cx.region <| Lx.y (fa' fo39_0 rfl) rfl <| Lx.y (ld U3 rfl rfl rfl) rfl <| Lx.y (eqI rfl rfl) rfl <| Lx.y (mv rfl) rfl <| ?_
        refine Xx.ifD (t := 52) rfl (fun h31 => ?_) (fun h31 => ?_)
        ·
         have k6 := h31
         refine Lx.gT rfl rfl rfl <| Lx.y (mv rfl) rfl <| Lx.gT rfl rfl rfl <| Lx.y (fa' fo39_5 rfl) rfl <| Lx.gT rfl rfl rfl <| Lx.y (ld U23 rfl rfl rfl) rfl <| Lx.gT rfl rfl rfl <| Lx.y (lenV (ty' := 0) U23 rfl) rfl <| Lx.gT rfl rfl rfl <| Lx.y (lss rfl rfl) rfl <| Lx.y (pickT rfl rfl) rfl <| Lx.nil <| ?_
         refine Xx.tn (k30 _ _ _ _ ?_)
         refine Cx.condD rfl (fun h32 => ?_) (fun h32 => ?_)
         ·
          have hin : i < v.names.length := by have := h32; omega
          have hpt : partK (keyF d) v i = [1] ++ textL (v.names.getD i []) ++ keyF d v.parts[i] := by unfold partK; rw [if_pos hin, getDp hil]
          have hpb : partB (bytesF d) v i = txtL (v.names.getD i []) ++ bytesF d v.parts[i] := by unfold partB; rw [if_pos hin, getDp hil]
          rw [hpb, List.length_append] at hm2
          unfold txtL at hm2
          rw [List.length_append] at hm2
          obtain ⟨bn, on, ln, en, fn, rfl, hBn, hln⟩ := hns.at1 (k := i) hin
          rw [get_map hin] at hln
          generalize v.names.getD i [] = nm at *
          have htn := textL_len nm
          refine Cx.region <| Lx.y (mv rfl) rfl <| Lx.y (fa' fo39_5 rfl) rfl <| Lx.y (ld U23 rfl rfl rfl) rfl <| Lx.y (mv rfl) rfl <| Lx.y (ia U23 sz9 rfl rfl (by first | exact Int.toNat_natCast _ | rfl) (by omega) (by omega)) rfl <| Lx.y (ldB U9 rfl rfl hBn hln) rfl <| ?_
          refine Lx.cp rfl rfl rfl (RefText_ct _ _ (by omega)) rfl ?_
          refine Lx.y (catS rfl rfl (by first | omega | (simp <;> omega))) rfl <| Lx.y (asg rfl) rfl <| Lx.nil <| ?_
          refine Xx.tn (k29 _ _ _ _ ?_)
          refine Cx.region <| Lx.y (mv rfl) rfl <| Lx.y (fa' fo39_4 rfl) rfl <| Lx.y (ld U37 rfl rfl rfl) rfl <| Lx.y (mv rfl) rfl <| Lx.y (ia U37 sz39 rfl rfl (by first | exact Int.toNat_natCast _ | rfl) (by omega) (by omega)) rfl <| Lx.y (ldA U39 rfl sz39 rfl (Cells.base (n := 6) hBq hxs) rfl) rfl <| ?_
          refine Lx.cp rfl rfl rfl (ih _ _ _ _ hv2 (hokp i hil) (by omega)) rfl ?_
          refine Lx.y (catS rfl rfl (by first | omega | (simp <;> omega))) rfl <| Lx.y (asg rfl) rfl <| Lx.nil <| Xx.bn <| ?_
          refine Xx.tn (k27 _ _ _ _ ?_)
          refine Cx.region <| Lx.y (mv rfl) rfl <| Lx.y (add rfl rfl (by first | exact wrap64 (by omega) (by omega) | rfl)) rfl <| Lx.y (asg rfl) rfl <| Lx.nil <| ?_
          exact Xx.againK ⟨i + 1, by omega, rfl, rfl, rfl, rfl⟩ (by omega) (Sub.consE (s := 3) rfl (by rw [preK_succ, hpt]; simp) (Sc 4 rfl (Sc 0 rfl (Sc 1 rfl (Sc 2 rfl (Sc 5 rfl (Sc 6 rfl (Sc 7 rfl (Sc 8 rfl (Sc 9 rfl (Sc 10 rfl (Sc 11 rfl (Sc 12 rfl (Sc 13 rfl (Sc 20 rfl (Sc 21 rfl (Sc 29 rfl (Sc 37 rfl (Sub.nil _)))))))))))))))))))
         ·
          exact absurd h32 (by have := hnm6 k6; omega)
        ·
         have k6 : ¬ v.kind = 6 := h31
         have hin : ¬ i < v.names.length := by have := hnm0 k6; omega
         have hpt : partK (keyF d) v i = [1] ++ [] ++ keyF d v.parts[i] := by unfold partK; rw [if_neg hin, getDp hil]
         have hpb : partB (bytesF d) v i = bytesF d v.parts[i] := by unfold partB; rw [if_neg hin, getDp hil]; rfl
         rw [hpb] at hm2
         refine Lx.gF rfl rfl rfl rfl <| Lx.gF rfl rfl rfl rfl <| Lx.gF rfl rfl rfl rfl <| Lx.gF rfl rfl rfl rfl <| Lx.gF rfl rfl rfl rfl <| Lx.y (pickF rfl rfl) rfl <| Lx.nil <| ?_
         refine Xx.tn (k30 _ _ _ _ ?_)
         refine Cx.condF rfl <| Cx.skip <| ?_
         refine Xx.tn (k29 _ _ _ _ ?_)
         refine Cx.region <| Lx.y (mv rfl) rfl <| Lx.y (fa' fo39_4 rfl) rfl <| Lx.y (ld U37 rfl rfl rfl) rfl <| Lx.y (mv rfl) rfl <| Lx.y (ia U37 sz39 rfl rfl (by first | exact Int.toNat_natCast _ | rfl) (by omega) (by omega)) rfl <| Lx.y (ldA U39 rfl sz39 rfl (Cells.base (n := 6) hBq hxs) rfl) rfl <| ?_
         refine Lx.cp rfl rfl rfl (ih _ _ _ _ hv2 (hokp i hil) (by omega)) rfl ?_
         refine Lx.y (catS rfl rfl (by first | omega | (simp <;> omega))) rfl <| Lx.y (asg rfl) rfl <| Lx.nil <| Xx.bn <| ?_
         refine Xx.tn (k27 _ _ _ _ ?_)
         refine Cx.region <| Lx.y (mv rfl) rfl <| Lx.y (add rfl rfl (by first | exact wrap64 (by omega) (by omega) | rfl)) rfl <| Lx.y (asg rfl) rfl <| Lx.nil <| ?_
         exact Xx.againK ⟨i + 1, by omega, rfl, rfl, rfl, rfl⟩ (by omega) (Sub.consE (s := 3) rfl (by rw [preK_succ, hpt]; simp) (Sc 4 rfl (Sc 0 rfl (Sc 1 rfl (Sc 2 rfl (Sc 5 rfl (Sc 6 rfl (Sc 7 rfl (Sc 8 rfl (Sc 9 rfl (Sc 10 rfl (Sc 11 rfl (Sc 12 rfl (Sc 13 rfl (Sc 20 rfl (Sc 21 rfl (Sc 29 rfl (Sc 37 rfl (Sub.nil _)))))))))))))))))))
       ·
        obtain rfl : i = v.parts.length := by omega
        refine Cx.exit <| Xx.te <| Xx.te <| Xx.bh <| ?_
        refine Xx.tn (k22 _ _ _ _ ?_)
        refine Cx.seq (fun K33 k33 => ?_)
        refine Cx.region <| Lx.y (mv rfl) rfl <| Lx.y (catS rfl rfl (by first | omega | (simp <;> omega))) rfl <| Lx.y (asg rfl) rfl <| Lx.nil <| ?_
        refine Xx.tn (k33 _ _ _ _ ?_)
        refine Cx.ret ?_
        refine Xx.br ?_
        refine Xx.tr ?_
        refine Xx.dropB b1 (Xx.rB1 rfl rfl ⟨congrArg str ?_, rfl⟩ (Frag.le_refl _) rfl)
        first | exact hkf.symm | (unfold keyF; rw [if_pos z1, zb]; rfl) | (unfold keyF; rw [if_neg z1, if_pos z2, ← numK_add]; done) | (unfold keyF; rw [if_neg z1, if_neg z2, if_pos z3]; done) | (unfold keyF; rw [if_neg z1, if_neg z2, if_neg z3, if_neg z4])
      ·
       have z4 := h21
       refine Cx.skip <| Xx.bn <| ?_
       refine Xx.tn (k3 _ _ _ _ ?_)
       refine Cx.seq (fun K34 k34 => ?_)
       refine Cx.region <| Lx.y (mv rfl) rfl <| Lx.y (asg rfl) rfl <| Lx.nil <| ?_
       refine Xx.tn (k34 _ _ _ _ ?_)
       refine Cx.ret ?_
       refine Xx.dropB b1 (Xx.rB1 rfl rfl ⟨congrArg str ?_, rfl⟩ (Frag.le_refl _) rfl)
       first | exact hkf.symm | (unfold keyF; rw [if_pos z1, zb]; rfl) | (unfold keyF; rw [if_neg z1, if_pos z2, ← numK_add]; done) | (unfold keyF; rw [if_neg z1, if_neg z2, if_pos z3]; done) | (unfold keyF; rw [if_neg z1, if_neg z2, if_neg z3, if_neg z4])
theorem RKey_ct : ∀ (d : Nat) (v : V) (cs : List Value) (deep : Int) (B : Frag), ValR B d v cs → checkF d v deep = 0 → (bytesF d v).length ≤ 1048576 → CtP Tryz.prog 93 [.agg cs.toArray] B (str (keyF d v)) := by
  intro d
  induction d with
  | zero => intro v cs deep B h; exact h.elim
  | succ d ih => intro v cs deep B h hok hb; exact RKey_step d ih v cs deep B h hok hb
theorem cmpI_lt {m n : Int} : cmpI m n = .lt ↔ m < n := by
  unfold cmpI
  by_cases h1 : m < n
  · simp [h1]
  · by_cases h2 : n < m <;> simp [h1, h2]
theorem lexO_step {f : Nat → Ordering} {n m i : Nat} (h1 : i < n) (h2 : i < m) : lexO f (n - i) (m - i) i = (f i).then (lexO f (n - (i + 1)) (m - (i + 1)) (i + 1)) := by
  obtain ⟨c, hc⟩ : ∃ c, n - i = c + 1 := ⟨n - i - 1, by omega⟩
  obtain ⟨e, he⟩ : ∃ e, m - i = e + 1 := ⟨m - i - 1, by omega⟩
  have hc2 : n - (i + 1) = c := by omega
  have he2 : m - (i + 1) = e := by omega
  rw [hc, he, hc2, he2]; rfl
theorem lexO_end {f : Nat → Ordering} {n m i : Nat} (h1 : i ≤ n) (h2 : i ≤ m) (h : i = n ∨ i = m) : (lexO f (n - i) (m - i) i = .lt ↔ n < m) := by
  rcases h with rfl | rfl
  · rw [Nat.sub_self]
    by_cases e : m = i
    · subst e; rw [Nat.sub_self]; simp [lexO]
    · obtain ⟨c, hc⟩ : ∃ c, m - i = c + 1 := ⟨m - i - 1, by omega⟩
      rw [hc]; simp [lexO]; omega
  · rw [Nat.sub_self]
    by_cases e : n = i
    · subst e; rw [Nat.sub_self]; simp [lexO]
    · obtain ⟨c, hc⟩ : ∃ c, n - i = c + 1 := ⟨n - i - 1, by omega⟩
      rw [hc]; simp [lexO]; omega
theorem swap_lt {o : Ordering} : o.swap = .lt ↔ o = .gt := by cases o <;> simp [Ordering.swap]
set_option maxHeartbeats 1000000 in
theorem Before_step (d : Nat) (ih : ∀ (a b : V) (deep : Int) (ca cb : List Value) (B : Frag), ValR B d a ca → ValR B d b cb → checkF d a deep = 0 → checkF d b deep = 0 → CtP Tryz.prog 40 [.agg ca.toArray, .agg cb.toArray] B (.bool (decide (cmpF d a b = .lt)))) (a b : V) (deep : Int) (ca cb : List Value) (B : Frag) (ha : ValR B (d + 1) a ca) (hb : ValR B (d + 1) b cb) (hoka : checkF (d + 1) a deep = 0) (hokb : checkF (d + 1) b deep = 0) : CtP Tryz.prog 40 [.agg ca.toArray, .agg cb.toArray] B (.bool (decide (cmpF (d + 1) a b = .lt))) := by
 obtain ⟨ham6, ham0⟩ := names_many hoka
 obtain ⟨hbm6, hbm0⟩ := names_many hokb
 obtain ⟨_, _, _, _, hal, _, hap⟩ := chk_ok hoka
 obtain ⟨_, _, _, _, hbl, _, hbp⟩ := chk_ok hokb
 obtain ⟨Ap, cp, An, cn, rfl, ⟨hsl, hn1, hn2, hcn, hcp⟩, hpl, hnl, hns, hnx, hps⟩ := ha
 obtain ⟨Ap2, cp2, An2, cn2, rfl, ⟨hsl2, hn12, hn22, hcn2, hcp2⟩, hpl2, hnl2, hns2, hnx2, hps2⟩ := hb
 refine CtB.of_body Tryz.func40 rfl (nt := 136) rfl (by kernel_rfl) rfl ?_
 intro N0 w0 R
 refine Cx.seq (fun K1 k1 => ?_)
 refine Cx.region ?_
 refine Lx.new (boxA rfl) rfl (fun b2 => ?_)
 refine Lx.new (boxA rfl) rfl (fun b3 => ?_)
 refine Lx.y (asg rfl) rfl <| Lx.nil <| ?_
 refine Xx.tn (k1 _ _ _ _ ?_)
 refine Cx.seq (fun K2 k2 => ?_)
 refine Cx.seq (fun K3 k3 => ?_)
 refine Cx.region <| Lx.y (fa' fo39_0 rfl) rfl <| Lx.y (ld U3 rfl rfl rfl) rfl <| Lx.y (fa' fo39_0 rfl) rfl <| Lx.y (ld U3 rfl rfl rfl) rfl <| Lx.y (neI rfl rfl) rfl <| Lx.nil <| ?_
 refine Xx.tn (k3 _ _ _ _ ?_)
 refine Cx.condN rfl (fun h4 => ?_) (fun h4 => ?_)
 ·
  have hr : decide (a.kind < b.kind) = decide (cmpF (d + 1) a b = .lt) := decide_eq_decide.2 (by rw [cmpF_diff h4]; exact cmpI_lt.symm)
  refine Cx.seq (fun K5 k5 => ?_)
  refine Cx.region <| Lx.y (fa' fo39_0 rfl) rfl <| Lx.y (ld U3 rfl rfl rfl) rfl <| Lx.y (fa' fo39_0 rfl) rfl <| Lx.y (ld U3 rfl rfl rfl) rfl <| Lx.y (lss rfl rfl) rfl <| Lx.y (asg rfl) rfl <| Lx.nil <| ?_
  refine Xx.tn (k5 _ _ _ _ ?_)
  refine Cx.ret <| Xx.tr <| ?_
  exact Xx.dropB b2 (Xx.dropB b3 (Xx.rB1 rfl rfl ⟨congrArg Value.bool hr, rfl⟩ (Frag.le_refl _) rfl))
 ·
  have zk : a.kind = b.kind := h4
  refine Cx.skip ?_
  refine Xx.tn (k2 _ _ _ _ ?_)
  refine Cx.seq (fun K6 k6 => ?_)
  refine Cx.seq (fun K7 k7 => ?_)
  refine Cx.region <| Lx.y (fa' fo39_0 rfl) rfl <| Lx.y (ld U3 rfl rfl rfl) rfl <| Lx.nil <| ?_
  refine Xx.tn (k7 _ _ _ _ ?_)
  refine Cx.block ?_
  refine Cx.seq (fun K8 k8 => ?_)
  refine Cx.region <| Lx.y (eqI rfl rfl) rfl <| Lx.y (asg rfl) rfl <| Lx.nil <| ?_
  refine Xx.tn (k8 _ _ _ _ ?_)
  refine Cx.condD rfl (fun h9 => ?_) (fun h9 => ?_)
  ·
   have z1 : a.kind = 1 := h9
   refine Cx.seq (fun K10 k10 => ?_)
   refine Cx.region <| Lx.y (fa' fo39_1 rfl) rfl <| Lx.y (ld U4 rfl rfl rfl) rfl <| Lx.y (not' rfl) rfl <| Lx.y (mv rfl) rfl <| ?_
   refine Xx.ifB (t := 23) rfl (fun h11 => ?_) (fun h11 => ?_)
   ·
    have hr : b.b = decide (cmpF (d + 1) a b = .lt) := by
     rw [cmpF_same zk, if_pos z1]
     have hq : a.b = false := by simpa using h11
     rw [hq]; cases b.b <;> rfl
    refine Lx.gT rfl rfl rfl <| Lx.y (fa' fo39_1 rfl) rfl <| Lx.gT rfl rfl rfl <| Lx.y (ld U4 rfl rfl rfl) rfl <| Lx.y (pickT rfl rfl) rfl <| Lx.y (asg rfl) rfl <| Lx.nil <| ?_
    refine Xx.tn (k10 _ _ _ _ ?_)
    refine Cx.ret ?_
    refine Xx.br ?_
    refine Xx.tr ?_
    exact Xx.dropB b2 (Xx.dropB b3 (Xx.rB1 rfl rfl ⟨congrArg Value.bool hr, rfl⟩ (Frag.le_refl _) rfl))
   ·
    have hr : false = decide (cmpF (d + 1) a b = .lt) := by
     rw [cmpF_same zk, if_pos z1]
     have hq : a.b = true := by simpa using h11
     rw [hq]; cases b.b <;> rfl
    refine Lx.gF rfl rfl rfl rfl <| Lx.gF rfl rfl rfl rfl <| Lx.y (pickF rfl rfl) rfl <| Lx.y (asg rfl) rfl <| Lx.nil <| ?_
    refine Xx.tn (k10 _ _ _ _ ?_)
    refine Cx.ret ?_
    refine Xx.br ?_
    refine Xx.tr ?_
    exact Xx.dropB b2 (Xx.dropB b3 (Xx.rB1 rfl rfl ⟨congrArg Value.bool hr, rfl⟩ (Frag.le_refl _) rfl))
  ·
   have z1 : ¬ a.kind = 1 := h9
   refine Cx.seq (fun K12 k12 => ?_)
   refine Cx.region <| Lx.y (eqI rfl rfl) rfl <| Lx.y (asg rfl) rfl <| Lx.nil <| ?_
   refine Xx.tn (k12 _ _ _ _ ?_)
   refine Cx.condD rfl (fun h13 => ?_) (fun h13 => ?_)
   ·
    have z2 : a.kind = 2 := h13
    have hr : decide (a.n < b.n) = decide (cmpF (d + 1) a b = .lt) := decide_eq_decide.2 (by rw [cmpF_same zk, if_neg z1, if_pos z2]; exact cmpI_lt.symm)
    refine Cx.seq (fun K14 k14 => ?_)
    refine Cx.region <| Lx.y (fa' fo39_2 rfl) rfl <| Lx.y (ld U2 rfl rfl rfl) rfl <| Lx.y (fa' fo39_2 rfl) rfl <| Lx.y (ld U2 rfl rfl rfl) rfl <| Lx.y (lss rfl rfl) rfl <| Lx.y (asg rfl) rfl <| Lx.nil <| ?_
    refine Xx.tn (k14 _ _ _ _ ?_)
    refine Cx.ret ?_
    refine Xx.br ?_
    refine Xx.tr ?_
    exact Xx.dropB b2 (Xx.dropB b3 (Xx.rB1 rfl rfl ⟨congrArg Value.bool hr, rfl⟩ (Frag.le_refl _) rfl))
   ·
    have z2 : ¬ a.kind = 2 := h13
    refine Cx.cutK (ds' := []) (Sc 0 rfl (Sc 1 rfl (Sc 2 rfl (Sc 3 rfl (Sc 4 rfl (Sc 6 rfl (Sc 7 rfl (Sc 8 rfl (Sc 9 rfl (Sc 10 rfl (Sc 16 rfl (Sc 17 rfl (Sc 18 rfl (Sc 19 rfl (Sc 27 rfl (Sc 28 rfl (Sub.nil _))))))))))))))))) (fun ρ' B' H' => ρ' = [(34, .bool (decide (a.kind = 3 ∨ a.kind = 4)))] ∧ B = B' ∧ row b3 39 (vcs b Ap2 cp2 An2 cn2) * (row b2 39 (vcs a Ap cp An cn) * R) = H') ?_ ?_
    ·
     refine Cx.seq (fun K15 k15 => ?_)
     refine Cx.region <| Lx.y (eqI rfl rfl) rfl <| Lx.y (asg rfl) rfl <| Lx.nil <| ?_
     refine Xx.tn (k15 _ _ _ _ ?_)
     refine Cx.condD rfl (fun h16 => ?_) (fun h16 => ?_)
     ·
      have z3 := h16
      refine Cx.skip ?_
      exact Xx.mkK (⟨rfl, rfl, rfl⟩) (Sub.consE (s := 34) rfl (by first | exact congrArg Value.bool (decide_eq_true (by omega)).symm | exact congrArg Value.bool (decide_eq_decide.2 (by omega))) (Sc 0 rfl (Sc 1 rfl (Sc 2 rfl (Sc 3 rfl (Sc 4 rfl (Sc 6 rfl (Sc 7 rfl (Sc 8 rfl (Sc 9 rfl (Sc 10 rfl (Sc 16 rfl (Sc 17 rfl (Sc 18 rfl (Sc 19 rfl (Sc 27 rfl (Sc 28 rfl (Sub.nil _))))))))))))))))))
     ·
      have z3 := h16
      refine Cx.region <| Lx.y (eqI rfl rfl) rfl <| Lx.y (asg rfl) rfl <| Lx.nil <| ?_
      exact Xx.mkK (⟨rfl, rfl, rfl⟩) (Sub.consE (s := 34) rfl (by first | exact congrArg Value.bool (decide_eq_true (by omega)).symm | exact congrArg Value.bool (decide_eq_decide.2 (by omega))) (Sc 0 rfl (Sc 1 rfl (Sc 2 rfl (Sc 3 rfl (Sc 4 rfl (Sc 6 rfl (Sc 7 rfl (Sc 8 rfl (Sc 9 rfl (Sc 10 rfl (Sc 16 rfl (Sc 17 rfl (Sc 18 rfl (Sc 19 rfl (Sc 27 rfl (Sc 28 rfl (Sub.nil _))))))))))))))))))
    ·rintro ρ' B' H' ⟨rfl, rfl, rfl⟩
     refine Cx.condD rfl (fun h17 => ?_) (fun h17 => ?_)
     ·
      have z3 := h17
      refine Cx.seq (fun K18 k18 => ?_)
      have hr : bless a.s b.s = decide (cmpF (d + 1) a b = .lt) := by
       rw [cmpF_same zk, if_neg z1, if_neg z2, if_pos z3]
       rw [show decide (cmpL a.s b.s = .lt) = decide (bless a.s b.s = true) from decide_eq_decide.2 cmpL_lt]
       simp
      refine Cx.region <| Lx.y (fa' fo39_3 rfl) rfl <| Lx.y (ld U9 rfl rfl rfl) rfl <| Lx.y (fa' fo39_3 rfl) rfl <| Lx.y (ld U9 rfl rfl rfl) rfl <| Lx.y (lssS rfl rfl) rfl <| Lx.y (asg rfl) rfl <| Lx.nil <| ?_
      refine Xx.tn (k18 _ _ _ _ ?_)
      refine Cx.ret ?_
      refine Xx.br ?_
      refine Xx.tr ?_
      exact Xx.dropB b2 (Xx.dropB b3 (Xx.rB1 rfl rfl ⟨congrArg Value.bool hr, rfl⟩ (Frag.le_refl _) rfl))
     ·
      have z3 := h17
      refine Cx.skip <| Xx.bn <| ?_
      refine Xx.tn (k6 _ _ _ _ ?_)
      refine Cx.seq (fun K19 k19 => ?_)
      refine Cx.seq (fun K20 k20 => ?_)
      refine Cx.region <| Lx.y (asg rfl) rfl <| Lx.nil <| ?_
      refine Xx.tn (k20 _ _ _ _ ?_)
      refine Cx.block ?_
      refine Cx.loopK (Sc 0 rfl (Sc 1 rfl (Sc 2 rfl (Sc 3 rfl (Sc 6 rfl (Sc 7 rfl (Sc 8 rfl (Sc 9 rfl (Sc 10 rfl (Sc 16 rfl (Sc 17 rfl (Sc 18 rfl (Sc 19 rfl (Sc 27 rfl (Sc 28 rfl (Sc 34 rfl (Sub.nil _))))))))))))))))) (fun m ρ' B' H' => ∃ (i : Nat), (i ≤ a.parts.length ∧ i ≤ b.parts.length ∧ cmpF (d + 1) a b = lexO (prtO (cmpF d) a b) (a.parts.length - i) (b.parts.length - i) i) ∧ m = a.parts.length - i ∧ ρ' = [(5, i64 i)] ∧ B = B' ∧ row b3 39 (vcs b Ap2 cp2 An2 cn2) * (row b2 39 (vcs a Ap cp An cn) * R) = H') ⟨0, ⟨by omega, by omega, by rw [cmpF_same zk, if_neg z1, if_neg z2, if_neg z3]; rfl⟩, rfl, rfl, rfl, rfl⟩ (Sc 5 rfl (Sc 0 rfl (Sc 1 rfl (Sc 2 rfl (Sc 3 rfl (Sc 6 rfl (Sc 7 rfl (Sc 8 rfl (Sc 9 rfl (Sc 10 rfl (Sc 16 rfl (Sc 17 rfl (Sc 18 rfl (Sc 19 rfl (Sc 27 rfl (Sc 28 rfl (Sc 34 rfl (Sub.nil _)))))))))))))))))) ?_
      rintro m ρ' B' H' ⟨i, ⟨hi1, hi2, hlex⟩, rfl, rfl, rfl, rfl⟩
      refine Cx.seq (fun K21 k21 => ?_)
      refine Cx.seq (fun K22 k22 => ?_)
      refine Cx.region <| Lx.y (mv rfl) rfl <| Lx.y (fa' fo39_4 rfl) rfl <| Lx.y (ld U37 rfl rfl rfl) rfl <| Lx.y (lenV (ty' := 0) U37 rfl) rfl <| Lx.y (lss rfl rfl) rfl <| Lx.y (mv rfl) rfl <| ?_
      refine Xx.ifD (t := 47) rfl (fun h23 => ?_) (fun h23 => ?_)
      ·
       have hj1 := h23
       refine Lx.gT rfl rfl rfl <| Lx.y (mv rfl) rfl <| Lx.gT rfl rfl rfl <| Lx.y (fa' fo39_4 rfl) rfl <| Lx.gT rfl rfl rfl <| Lx.y (ld U37 rfl rfl rfl) rfl <| Lx.gT rfl rfl rfl <| Lx.y (lenV (ty' := 0) U37 rfl) rfl <| Lx.gT rfl rfl rfl <| Lx.y (lss rfl rfl) rfl <| Lx.y (pickT rfl rfl) rfl <| Lx.nil <| ?_
       refine Xx.tn (k22 _ _ _ _ ?_)
       refine Cx.condD rfl (fun h24 => ?_) (fun h24 => ?_)
       ·
        have hj2 := h24
        have hia : i < a.parts.length := by omega
        have hib : i < b.parts.length := by omega
        have hstep := hlex.trans (lexO_step hia hib)
        obtain ⟨bq, oq, lq, eq, fq, xs, hAp, hBq, hxs, hv2⟩ := hps i hia
        subst hAp
        obtain ⟨Ap3, cp3, An3, cn3, rfl⟩ := ValR.shape hv2
        obtain ⟨bq2, oq2, lq2, eq2, fq2, xs2, hAp2, hBq2, hxs2, hv22⟩ := hps2 i hib
        subst hAp2
        obtain ⟨Ap4, cp4, An4, cn4, rfl⟩ := ValR.shape hv22
        refine Cx.skip ?_
        refine Xx.tn (k21 _ _ _ _ ?_)
        refine Cx.seq (fun K25 k25 => ?_)
        refine Cx.block ?_
        refine Cx.cutK (ds' := []) (Sc 0 rfl (Sc 1 rfl (Sc 2 rfl (Sc 3 rfl (Sc 5 rfl (Sc 6 rfl (Sc 7 rfl (Sc 8 rfl (Sc 9 rfl (Sc 10 rfl (Sc 16 rfl (Sc 17 rfl (Sc 18 rfl (Sc 19 rfl (Sc 27 rfl (Sc 28 rfl (Sc 34 rfl (Sc 42 rfl (Sc 43 rfl (Sc 44 rfl (Sc 45 rfl (Sc 46 rfl (Sc 47 rfl (Sc 48 rfl (Sc 49 rfl (Sc 50 rfl (Sc 51 rfl (Sc 52 rfl (Sc 53 rfl (Sub.nil _)))))))))))))))))))))))))))))) (fun ρ' B' H' => ρ' = [] ∧ B = B' ∧ row b3 39 (vcs b (some ⟨bq2, oq2, none⟩) cp2 An2 cn2) * (row b2 39 (vcs a (some ⟨bq, oq, none⟩) cp An cn) * R) = H') ?_ ?_
        ·
         refine Cx.seq (fun K26 k26 => ?_)
         refine Cx.region <| Lx.y (fa' fo39_0 rfl) rfl <| Lx.y (ld U3 rfl rfl rfl) rfl <| Lx.y (eqI rfl rfl) rfl <| Lx.y (mv rfl) rfl <| ?_
         refine Xx.ifD (t := 59) rfl (fun h27 => ?_) (fun h27 => ?_)
         ·
          have k6 : a.kind = 6 := h27
          have hna := ham6 k6
          have hnb := hbm6 (by omega)
          refine Lx.gT rfl rfl rfl <| Lx.y (mv rfl) rfl <| Lx.gT rfl rfl rfl <| Lx.y (fa' fo39_5 rfl) rfl <| Lx.gT rfl rfl rfl <| Lx.y (ld U23 rfl rfl rfl) rfl <| Lx.gT rfl rfl rfl <| Lx.y (lenV (ty' := 0) U23 rfl) rfl <| Lx.gT rfl rfl rfl <| Lx.y (geq rfl rfl) rfl <| Lx.gT rfl rfl rfl <| Lx.y (mv rfl) rfl <| ?_
          refine Xx.ifD (t := 65) rfl (fun h28 => ?_) (fun h28 => ?_)
          ·
           exact absurd h28 (by omega)
          ·
           refine Lx.gT rfl rfl rfl <| Lx.y (mv rfl) rfl <| Lx.gT rfl rfl rfl <| Lx.y (fa' fo39_5 rfl) rfl <| Lx.gT rfl rfl rfl <| Lx.y (ld U23 rfl rfl rfl) rfl <| Lx.gT rfl rfl rfl <| Lx.y (lenV (ty' := 0) U23 rfl) rfl <| Lx.gT rfl rfl rfl <| Lx.y (geq rfl rfl) rfl <| Lx.gT rfl rfl rfl <| Lx.y (pickF rfl rfl) rfl <| ?_
           refine Lx.y (pickT rfl rfl) rfl <| Lx.nil <| ?_
           refine Xx.tn (k26 _ _ _ _ ?_)
           refine Cx.condD rfl (fun h29 => ?_) (fun h29 => ?_)
           ·
            exact absurd h29 (by omega)
           ·
            refine Cx.skip ?_
            exact Xx.mkK (⟨rfl, rfl, rfl⟩) (Sc 0 rfl (Sc 1 rfl (Sc 2 rfl (Sc 3 rfl (Sc 5 rfl (Sc 6 rfl (Sc 7 rfl (Sc 8 rfl (Sc 9 rfl (Sc 10 rfl (Sc 16 rfl (Sc 17 rfl (Sc 18 rfl (Sc 19 rfl (Sc 27 rfl (Sc 28 rfl (Sc 34 rfl (Sc 42 rfl (Sc 43 rfl (Sc 44 rfl (Sc 45 rfl (Sc 46 rfl (Sc 47 rfl (Sc 48 rfl (Sc 49 rfl (Sc 50 rfl (Sc 51 rfl (Sc 52 rfl (Sc 53 rfl (Sub.nil _))))))))))))))))))))))))))))))
         ·
          have k6 : ¬ a.kind = 6 := h27
          refine Lx.gF rfl rfl rfl rfl <| Lx.gF rfl rfl rfl rfl <| Lx.gF rfl rfl rfl rfl <| Lx.gF rfl rfl rfl rfl <| Lx.gF rfl rfl rfl rfl <| Lx.gF rfl rfl rfl rfl <| Lx.gU rfl rfl rfl rfl <| Lx.gU rfl rfl rfl rfl <| Lx.gU rfl rfl rfl rfl <| Lx.gU rfl rfl rfl rfl <| Lx.gU rfl rfl rfl rfl <| Lx.gF rfl rfl rfl rfl <| ?_
          refine Lx.y (pickF rfl rfl) rfl <| Lx.nil <| ?_
          refine Xx.tn (k26 _ _ _ _ ?_)
          refine Cx.condF rfl <| Cx.skip <| ?_
          exact Xx.mkK (⟨rfl, rfl, rfl⟩) (Sc 0 rfl (Sc 1 rfl (Sc 2 rfl (Sc 3 rfl (Sc 5 rfl (Sc 6 rfl (Sc 7 rfl (Sc 8 rfl (Sc 9 rfl (Sc 10 rfl (Sc 16 rfl (Sc 17 rfl (Sc 18 rfl (Sc 19 rfl (Sc 27 rfl (Sc 28 rfl (Sc 34 rfl (Sc 42 rfl (Sc 43 rfl (Sc 44 rfl (Sc 45 rfl (Sc 46 rfl (Sc 47 rfl (Sc 48 rfl (Sc 49 rfl (Sc 50 rfl (Sc 51 rfl (Sc 52 rfl (Sc 53 rfl (Sub.nil _))))))))))))))))))))))))))))))
        ·rintro ρ' B' H' ⟨rfl, rfl, rfl⟩
         refine Cx.seq (fun K30 k30 => ?_)
         refine Cx.seq (fun K31 k31 => ?_)
         refine Cx.drawn (by kernel_rfl) ?_
         refine Dx.p (i := 0) rfl (by kernel_rfl) (fa' fo39_0 rfl) rfl ?_
         refine Dx.r (i := 1) rfl (by kernel_rfl) (ld U3 rfl rfl rfl) rfl ?_
         refine Dx.p (i := 2) rfl (by kernel_rfl) (eqI rfl rfl) rfl ?_
         refine Dx.p (i := 3) rfl (by kernel_rfl) (mv rfl) rfl ?_
         refine Xx.ifD (t := 83) rfl (fun h32 => ?_) (fun h32 => ?_)
         ·
          have k6 : a.kind = 6 := h32
          have hna := ham6 k6
          have hnb := hbm6 (by omega)
          obtain ⟨bn, on, ln, en, fn, hAn, hBn, hln⟩ := hns.at1 (k := i) (by omega)
          subst hAn
          rw [get_map (by omega)] at hln
          obtain ⟨bn2, on2, ln2, en2, fn2, hAn2, hBn2, hln2⟩ := hns2.at1 (k := i) (by omega)
          subst hAn2
          rw [get_map (by omega)] at hln2
          refine Dx.pT (i := 4) rfl rfl rfl rfl (by kernel_rfl) (fa' fo39_5 rfl) rfl ?_
          refine Dx.rT (i := 5) rfl rfl rfl rfl (by kernel_rfl) (ld U23 rfl rfl rfl) rfl ?_
          refine Dx.pT (i := 6) rfl rfl rfl rfl (by kernel_rfl) (mv rfl) rfl ?_
          refine Dx.pT (i := 7) rfl rfl rfl rfl (by kernel_rfl) (ia U23 sz9 rfl rfl (by first | exact Int.toNat_natCast _ | rfl) (by omega) (by omega)) rfl ?_
          refine Dx.rT (i := 8) rfl rfl rfl rfl (by kernel_rfl) (ldB U9 rfl rfl hBn hln) rfl ?_
          refine Dx.pT (i := 9) rfl rfl rfl rfl (by kernel_rfl) (fa' fo39_5 rfl) rfl ?_
          refine Dx.rT (i := 10) rfl rfl rfl rfl (by kernel_rfl) (ld U23 rfl rfl rfl) rfl ?_
          refine Dx.pT (i := 11) rfl rfl rfl rfl (by kernel_rfl) (mv rfl) rfl ?_
          refine Dx.pT (i := 12) rfl rfl rfl rfl (by kernel_rfl) (ia U23 sz9 rfl rfl (by first | exact Int.toNat_natCast _ | rfl) (by omega) (by omega)) rfl ?_
          refine Dx.rT (i := 13) rfl rfl rfl rfl (by kernel_rfl) (ldB U9 rfl rfl hBn2 hln2) rfl ?_
          refine Dx.pT (i := 14) rfl rfl rfl rfl (by kernel_rfl) (neS rfl rfl) rfl ?_
          refine Dx.p (i := 15) rfl (by kernel_rfl) (pickT rfl rfl) rfl ?_
          refine Dx.done (by kernel_rfl) ?_
          refine Xx.tn (k31 _ _ _ _ ?_)
          refine Cx.condN rfl (fun h33 => ?_) (fun h33 => ?_)
          ·
           have hne := h33
           have hr : bless (a.names.getD i []) (b.names.getD i []) = decide (cmpF (d + 1) a b = .lt) := by
            rw [hstep]
            unfold prtO
            rw [if_pos k6]
            cases hc : cmpL (a.names.getD i []) (b.names.getD i []) with
            | lt => rw [cmpL_lt.1 hc]; rfl
            | eq => exact absurd (cmpL_eq.1 hc) hne
            | gt =>
             cases hb9 : bless (a.names.getD i []) (b.names.getD i []) with
             | false => rfl
             | true => rw [cmpL_lt.2 hb9] at hc; cases hc
           refine Cx.seq (fun K34 k34 => ?_)
           refine Cx.drawn (by kernel_rfl) ?_
           refine Dx.p (i := 0) rfl (by kernel_rfl) (fa' fo39_5 rfl) rfl ?_
           refine Dx.r (i := 1) rfl (by kernel_rfl) (ld U23 rfl rfl rfl) rfl ?_
           refine Dx.p (i := 2) rfl (by kernel_rfl) (mv rfl) rfl ?_
           refine Dx.p (i := 3) rfl (by kernel_rfl) (ia U23 sz9 rfl rfl (by first | exact Int.toNat_natCast _ | rfl) (by omega) (by omega)) rfl ?_
           refine Dx.r (i := 4) rfl (by kernel_rfl) (ldB U9 rfl rfl hBn hln) rfl ?_
           refine Dx.p (i := 5) rfl (by kernel_rfl) (fa' fo39_5 rfl) rfl ?_
           refine Dx.r (i := 6) rfl (by kernel_rfl) (ld U23 rfl rfl rfl) rfl ?_
           refine Dx.p (i := 7) rfl (by kernel_rfl) (mv rfl) rfl ?_
           refine Dx.p (i := 8) rfl (by kernel_rfl) (ia U23 sz9 rfl rfl (by first | exact Int.toNat_natCast _ | rfl) (by omega) (by omega)) rfl ?_
           refine Dx.r (i := 9) rfl (by kernel_rfl) (ldB U9 rfl rfl hBn2 hln2) rfl ?_
           refine Dx.p (i := 10) rfl (by kernel_rfl) (lssS rfl rfl) rfl ?_
           refine Dx.p (i := 11) rfl (by kernel_rfl) (asg rfl) rfl ?_
           refine Dx.done (by kernel_rfl) ?_
           refine Xx.tn (k34 _ _ _ _ ?_)
           refine Cx.ret <| Xx.tr <| ?_
           refine Xx.br ?_
           refine Xx.tr <| Xx.tr <| ?_
           refine Xx.br ?_
           refine Xx.tr ?_
           exact Xx.dropB b2 (Xx.dropB b3 (Xx.rB1 rfl rfl ⟨congrArg Value.bool hr, rfl⟩ (Frag.le_refl _) rfl))
          ·
           have hpo : prtO (cmpF d) a b i = cmpF d a.parts[i] b.parts[i] := by unfold prtO; rw [if_pos k6, cmpL_eq.2 h33, getDp hia, getDp hib]; rfl
           refine Cx.skip ?_
           refine Xx.tn (k30 _ _ _ _ ?_)
           refine Cx.seq (fun K35 k35 => ?_)
           refine Cx.seq (fun K36 k36 => ?_)
           refine Cx.drawn (by kernel_rfl) ?_
           refine Dx.p (i := 0) rfl (by kernel_rfl) (fa' fo39_4 rfl) rfl ?_
           refine Dx.r (i := 1) rfl (by kernel_rfl) (ld U37 rfl rfl rfl) rfl ?_
           refine Dx.p (i := 2) rfl (by kernel_rfl) (mv rfl) rfl ?_
           refine Dx.p (i := 3) rfl (by kernel_rfl) (ia U37 sz39 rfl rfl (by first | exact Int.toNat_natCast _ | rfl) (by omega) (by omega)) rfl ?_
           refine Dx.r (i := 4) rfl (by kernel_rfl) (ldA U39 rfl sz39 rfl (Cells.base (n := 6) hBq hxs) rfl) rfl ?_
           refine Dx.p (i := 5) rfl (by kernel_rfl) (fa' fo39_4 rfl) rfl ?_
           refine Dx.r (i := 6) rfl (by kernel_rfl) (ld U37 rfl rfl rfl) rfl ?_
           refine Dx.p (i := 7) rfl (by kernel_rfl) (mv rfl) rfl ?_
           refine Dx.p (i := 8) rfl (by kernel_rfl) (ia U37 sz39 rfl rfl (by first | exact Int.toNat_natCast _ | rfl) (by omega) (by omega)) rfl ?_
           refine Dx.r (i := 9) rfl (by kernel_rfl) (ldA U39 rfl sz39 rfl (Cells.base (n := 6) hBq2 hxs2) rfl) rfl ?_
           refine Dx.one (i := 10) (by kernel_rfl) ?_
           refine Dstep.o (i := 10) rfl (Ox.cb rfl rfl rfl (ih _ _ _ _ _ _ hv2 hv22 (hap i hia) (hbp i hib))) rfl (fun v B' H' hΦ hB => ?_)
           obtain ⟨rfl, rfl, rfl⟩ := hΦ; clear hB
           refine ⟨JOk.edge (JOk.yes (JOk.edge (JOk.yes (JOk.top) (ld U37 rfl rfl rfl)) (by kernel_rfl)) (ld U37 rfl rfl rfl)) (by kernel_rfl), ?_⟩
           refine Dx.done (by kernel_rfl) ?_
           refine Xx.tn (k36 _ _ _ _ ?_)
           refine Cx.condB rfl (fun h37 => ?_) (fun h37 => ?_)
           ·
            have c1 := of_decide_eq_true h37
            have hr : true = decide (cmpF (d + 1) a b = .lt) := by rw [hstep, hpo, c1]; rfl
            refine Cx.seq (fun K38 k38 => ?_)
            refine Cx.region <| Lx.y (asg rfl) rfl <| Lx.nil <| ?_
            refine Xx.tn (k38 _ _ _ _ ?_)
            refine Cx.ret <| Xx.tr <| ?_
            refine Xx.br ?_
            refine Xx.tr <| Xx.tr <| ?_
            refine Xx.br ?_
            refine Xx.tr ?_
            exact Xx.dropB b2 (Xx.dropB b3 (Xx.rB1 rfl rfl ⟨congrArg Value.bool hr, rfl⟩ (Frag.le_refl _) rfl))
           ·
            have c1 := of_decide_eq_false h37
            refine Cx.skip ?_
            refine Xx.tn (k35 _ _ _ _ ?_)
            refine Cx.seq (fun K39 k39 => ?_)
            refine Cx.drawn (by kernel_rfl) ?_
            refine Dx.p (i := 0) rfl (by kernel_rfl) (fa' fo39_4 rfl) rfl ?_
            refine Dx.r (i := 1) rfl (by kernel_rfl) (ld U37 rfl rfl rfl) rfl ?_
            refine Dx.p (i := 2) rfl (by kernel_rfl) (mv rfl) rfl ?_
            refine Dx.p (i := 3) rfl (by kernel_rfl) (ia U37 sz39 rfl rfl (by first | exact Int.toNat_natCast _ | rfl) (by omega) (by omega)) rfl ?_
            refine Dx.r (i := 4) rfl (by kernel_rfl) (ldA U39 rfl sz39 rfl (Cells.base (n := 6) hBq2 hxs2) rfl) rfl ?_
            refine Dx.p (i := 5) rfl (by kernel_rfl) (fa' fo39_4 rfl) rfl ?_
            refine Dx.r (i := 6) rfl (by kernel_rfl) (ld U37 rfl rfl rfl) rfl ?_
            refine Dx.p (i := 7) rfl (by kernel_rfl) (mv rfl) rfl ?_
            refine Dx.p (i := 8) rfl (by kernel_rfl) (ia U37 sz39 rfl rfl (by first | exact Int.toNat_natCast _ | rfl) (by omega) (by omega)) rfl ?_
            refine Dx.r (i := 9) rfl (by kernel_rfl) (ldA U39 rfl sz39 rfl (Cells.base (n := 6) hBq hxs) rfl) rfl ?_
            refine Dx.one (i := 10) (by kernel_rfl) ?_
            refine Dstep.o (i := 10) rfl (Ox.cb rfl rfl rfl (ih _ _ _ _ _ _ hv22 hv2 (hbp i hib) (hap i hia))) rfl (fun v B' H' hΦ hB => ?_)
            obtain ⟨rfl, rfl, rfl⟩ := hΦ; clear hB
            refine ⟨JOk.edge (JOk.yes (JOk.edge (JOk.yes (JOk.top) (ld U37 rfl rfl rfl)) (by kernel_rfl)) (ld U37 rfl rfl rfl)) (by kernel_rfl), ?_⟩
            refine Dx.done (by kernel_rfl) ?_
            refine Xx.tn (k39 _ _ _ _ ?_)
            refine Cx.condB rfl (fun h40 => ?_) (fun h40 => ?_)
            ·
             have c2 := of_decide_eq_true h40
             rw [cmpF_swap d a.parts[i] b.parts[i]] at c2
             have hr : false = decide (cmpF (d + 1) a b = .lt) := by rw [hstep, hpo, swap_lt.1 c2]; rfl
             refine Cx.seq (fun K41 k41 => ?_)
             refine Cx.region <| Lx.y (asg rfl) rfl <| Lx.nil <| ?_
             refine Xx.tn (k41 _ _ _ _ ?_)
             refine Cx.ret ?_
             refine Xx.br ?_
             refine Xx.tr <| Xx.tr <| ?_
             refine Xx.br ?_
             refine Xx.tr ?_
             exact Xx.dropB b2 (Xx.dropB b3 (Xx.rB1 rfl rfl ⟨congrArg Value.bool hr, rfl⟩ (Frag.le_refl _) rfl))
            ·
             have c2 := of_decide_eq_false h40
             have c3 : cmpF d a.parts[i] b.parts[i] = .eq := by
              rw [cmpF_swap d a.parts[i] b.parts[i]] at c2
              cases hc : cmpF d a.parts[i] b.parts[i] with
              | eq => rfl
              | lt => exact absurd hc c1
              | gt => exact absurd (by rw [hc]; rfl) c2
             refine Cx.skip <| Xx.bn <| ?_
             refine Xx.tn (k25 _ _ _ _ ?_)
             refine Cx.region <| Lx.y (mv rfl) rfl <| Lx.y (add rfl rfl (by first | exact wrap64 (by omega) (by omega) | rfl)) rfl <| Lx.y (asg rfl) rfl <| Lx.nil <| ?_
             exact Xx.againK ⟨i + 1, ⟨by omega, by omega, by rw [hstep, hpo, c3]; rfl⟩, rfl, rfl, rfl, rfl⟩ (by omega) (Sc 5 rfl (Sc 0 rfl (Sc 1 rfl (Sc 2 rfl (Sc 3 rfl (Sc 6 rfl (Sc 7 rfl (Sc 8 rfl (Sc 9 rfl (Sc 10 rfl (Sc 16 rfl (Sc 17 rfl (Sc 18 rfl (Sc 19 rfl (Sc 27 rfl (Sc 28 rfl (Sc 34 rfl (Sub.nil _))))))))))))))))))
         ·
          have k6 : ¬ a.kind = 6 := h32
          have hpo : prtO (cmpF d) a b i = cmpF d a.parts[i] b.parts[i] := by unfold prtO; rw [if_neg k6, getDp hia, getDp hib]; rfl
          refine Dx.pF (i := 4) rfl (fun _ h => by cases h) rfl rfl rfl (by kernel_rfl) rfl ?_
          refine Dx.pF (i := 5) rfl (fun _ h => by cases h) rfl rfl rfl (by kernel_rfl) rfl ?_
          refine Dx.pF (i := 6) rfl (fun _ h => by cases h) rfl rfl rfl (by kernel_rfl) rfl ?_
          refine Dx.pF (i := 7) rfl (fun _ h => by cases h) rfl rfl rfl (by kernel_rfl) rfl ?_
          refine Dx.pF (i := 8) rfl (fun _ h => by cases h) rfl rfl rfl (by kernel_rfl) rfl ?_
          refine Dx.pF (i := 9) rfl (fun _ h => by cases h) rfl rfl rfl (by kernel_rfl) rfl ?_
          refine Dx.pF (i := 10) rfl (fun _ h => by cases h) rfl rfl rfl (by kernel_rfl) rfl ?_
          refine Dx.pF (i := 11) rfl (fun _ h => by cases h) rfl rfl rfl (by kernel_rfl) rfl ?_
          refine Dx.pF (i := 12) rfl (fun _ h => by cases h) rfl rfl rfl (by kernel_rfl) rfl ?_
          refine Dx.pF (i := 13) rfl (fun _ h => by cases h) rfl rfl rfl (by kernel_rfl) rfl ?_
          refine Dx.pF (i := 14) rfl (fun _ h => by cases h) rfl rfl rfl (by kernel_rfl) rfl ?_
          refine Dx.p (i := 15) rfl (by kernel_rfl) (pickF rfl rfl) rfl ?_
          refine Dx.done (by kernel_rfl) ?_
          refine Xx.tn (k31 _ _ _ _ ?_)
          refine Cx.condF rfl <| Cx.skip <| ?_
          refine Xx.tn (k30 _ _ _ _ ?_)
          refine Cx.seq (fun K42 k42 => ?_)
          refine Cx.seq (fun K43 k43 => ?_)
          refine Cx.drawn (by kernel_rfl) ?_
          refine Dx.p (i := 0) rfl (by kernel_rfl) (fa' fo39_4 rfl) rfl ?_
          refine Dx.r (i := 1) rfl (by kernel_rfl) (ld U37 rfl rfl rfl) rfl ?_
          refine Dx.p (i := 2) rfl (by kernel_rfl) (mv rfl) rfl ?_
          refine Dx.p (i := 3) rfl (by kernel_rfl) (ia U37 sz39 rfl rfl (by first | exact Int.toNat_natCast _ | rfl) (by omega) (by omega)) rfl ?_
          refine Dx.r (i := 4) rfl (by kernel_rfl) (ldA U39 rfl sz39 rfl (Cells.base (n := 6) hBq hxs) rfl) rfl ?_
          refine Dx.p (i := 5) rfl (by kernel_rfl) (fa' fo39_4 rfl) rfl ?_
          refine Dx.r (i := 6) rfl (by kernel_rfl) (ld U37 rfl rfl rfl) rfl ?_
          refine Dx.p (i := 7) rfl (by kernel_rfl) (mv rfl) rfl ?_
          refine Dx.p (i := 8) rfl (by kernel_rfl) (ia U37 sz39 rfl rfl (by first | exact Int.toNat_natCast _ | rfl) (by omega) (by omega)) rfl ?_
          refine Dx.r (i := 9) rfl (by kernel_rfl) (ldA U39 rfl sz39 rfl (Cells.base (n := 6) hBq2 hxs2) rfl) rfl ?_
          refine Dx.one (i := 10) (by kernel_rfl) ?_
          refine Dstep.o (i := 10) rfl (Ox.cb rfl rfl rfl (ih _ _ _ _ _ _ hv2 hv22 (hap i hia) (hbp i hib))) rfl (fun v B' H' hΦ hB => ?_)
          obtain ⟨rfl, rfl, rfl⟩ := hΦ; clear hB
          refine ⟨JOk.edge (JOk.yes (JOk.edge (JOk.yes (JOk.top) (ld U37 rfl rfl rfl)) (by kernel_rfl)) (ld U37 rfl rfl rfl)) (by kernel_rfl), ?_⟩
          refine Dx.done (by kernel_rfl) ?_
          refine Xx.tn (k43 _ _ _ _ ?_)
          refine Cx.condB rfl (fun h44 => ?_) (fun h44 => ?_)
          ·
           have c1 := of_decide_eq_true h44
           have hr : true = decide (cmpF (d + 1) a b = .lt) := by rw [hstep, hpo, c1]; rfl
           refine Cx.seq (fun K45 k45 => ?_)
           refine Cx.region <| Lx.y (asg rfl) rfl <| Lx.nil <| ?_
           refine Xx.tn (k45 _ _ _ _ ?_)
           refine Cx.ret <| Xx.tr <| ?_
           refine Xx.br ?_
           refine Xx.tr <| Xx.tr <| ?_
           refine Xx.br ?_
           refine Xx.tr ?_
           exact Xx.dropB b2 (Xx.dropB b3 (Xx.rB1 rfl rfl ⟨congrArg Value.bool hr, rfl⟩ (Frag.le_refl _) rfl))
          ·
           have c1 := of_decide_eq_false h44
           refine Cx.skip ?_
           refine Xx.tn (k42 _ _ _ _ ?_)
           refine Cx.seq (fun K46 k46 => ?_)
           refine Cx.drawn (by kernel_rfl) ?_
           refine Dx.p (i := 0) rfl (by kernel_rfl) (fa' fo39_4 rfl) rfl ?_
           refine Dx.r (i := 1) rfl (by kernel_rfl) (ld U37 rfl rfl rfl) rfl ?_
           refine Dx.p (i := 2) rfl (by kernel_rfl) (mv rfl) rfl ?_
           refine Dx.p (i := 3) rfl (by kernel_rfl) (ia U37 sz39 rfl rfl (by first | exact Int.toNat_natCast _ | rfl) (by omega) (by omega)) rfl ?_
           refine Dx.r (i := 4) rfl (by kernel_rfl) (ldA U39 rfl sz39 rfl (Cells.base (n := 6) hBq2 hxs2) rfl) rfl ?_
           refine Dx.p (i := 5) rfl (by kernel_rfl) (fa' fo39_4 rfl) rfl ?_
           refine Dx.r (i := 6) rfl (by kernel_rfl) (ld U37 rfl rfl rfl) rfl ?_
           refine Dx.p (i := 7) rfl (by kernel_rfl) (mv rfl) rfl ?_
           refine Dx.p (i := 8) rfl (by kernel_rfl) (ia U37 sz39 rfl rfl (by first | exact Int.toNat_natCast _ | rfl) (by omega) (by omega)) rfl ?_
           refine Dx.r (i := 9) rfl (by kernel_rfl) (ldA U39 rfl sz39 rfl (Cells.base (n := 6) hBq hxs) rfl) rfl ?_
           refine Dx.one (i := 10) (by kernel_rfl) ?_
           refine Dstep.o (i := 10) rfl (Ox.cb rfl rfl rfl (ih _ _ _ _ _ _ hv22 hv2 (hbp i hib) (hap i hia))) rfl (fun v B' H' hΦ hB => ?_)
           obtain ⟨rfl, rfl, rfl⟩ := hΦ; clear hB
           refine ⟨JOk.edge (JOk.yes (JOk.edge (JOk.yes (JOk.top) (ld U37 rfl rfl rfl)) (by kernel_rfl)) (ld U37 rfl rfl rfl)) (by kernel_rfl), ?_⟩
           refine Dx.done (by kernel_rfl) ?_
           refine Xx.tn (k46 _ _ _ _ ?_)
           refine Cx.condB rfl (fun h47 => ?_) (fun h47 => ?_)
           ·
            have c2 := of_decide_eq_true h47
            rw [cmpF_swap d a.parts[i] b.parts[i]] at c2
            have hr : false = decide (cmpF (d + 1) a b = .lt) := by rw [hstep, hpo, swap_lt.1 c2]; rfl
            refine Cx.seq (fun K48 k48 => ?_)
            refine Cx.region <| Lx.y (asg rfl) rfl <| Lx.nil <| ?_
            refine Xx.tn (k48 _ _ _ _ ?_)
            refine Cx.ret ?_
            refine Xx.br ?_
            refine Xx.tr <| Xx.tr <| ?_
            refine Xx.br ?_
            refine Xx.tr ?_
            exact Xx.dropB b2 (Xx.dropB b3 (Xx.rB1 rfl rfl ⟨congrArg Value.bool hr, rfl⟩ (Frag.le_refl _) rfl))
           ·
            have c2 := of_decide_eq_false h47
            have c3 : cmpF d a.parts[i] b.parts[i] = .eq := by
             rw [cmpF_swap d a.parts[i] b.parts[i]] at c2
             cases hc : cmpF d a.parts[i] b.parts[i] with
             | eq => rfl
             | lt => exact absurd hc c1
             | gt => exact absurd (by rw [hc]; rfl) c2
            refine Cx.skip <| Xx.bn <| ?_
            refine Xx.tn (k25 _ _ _ _ ?_)
            refine Cx.region <| Lx.y (mv rfl) rfl <| Lx.y (add rfl rfl (by first | exact wrap64 (by omega) (by omega) | rfl)) rfl <| Lx.y (asg rfl) rfl <| Lx.nil <| ?_
            exact Xx.againK ⟨i + 1, ⟨by omega, by omega, by rw [hstep, hpo, c3]; rfl⟩, rfl, rfl, rfl, rfl⟩ (by omega) (Sc 5 rfl (Sc 0 rfl (Sc 1 rfl (Sc 2 rfl (Sc 3 rfl (Sc 6 rfl (Sc 7 rfl (Sc 8 rfl (Sc 9 rfl (Sc 10 rfl (Sc 16 rfl (Sc 17 rfl (Sc 18 rfl (Sc 19 rfl (Sc 27 rfl (Sc 28 rfl (Sc 34 rfl (Sub.nil _))))))))))))))))))
       ·
        have hj2 := h24
        refine Cx.exit <| Xx.te <| Xx.te <| Xx.bh <| ?_
        refine Xx.tn (k19 _ _ _ _ ?_)
        refine Cx.seq (fun K49 k49 => ?_)
        have hr : decide (((a.parts.length : Nat) : Int) < ((b.parts.length : Nat) : Int)) = decide (cmpF (d + 1) a b = .lt) := decide_eq_decide.2 (by rw [hlex, lexO_end hi1 hi2 (by omega)]; omega)
        refine Cx.region <| Lx.y (fa' fo39_4 rfl) rfl <| Lx.y (ld U37 rfl rfl rfl) rfl <| Lx.y (lenV (ty' := 0) U37 rfl) rfl <| Lx.y (fa' fo39_4 rfl) rfl <| Lx.y (ld U37 rfl rfl rfl) rfl <| Lx.y (lenV (ty' := 0) U37 rfl) rfl <| Lx.y (lss rfl rfl) rfl <| Lx.y (asg rfl) rfl <| Lx.nil <| ?_
        refine Xx.tn (k49 _ _ _ _ ?_)
        refine Cx.ret ?_
        exact Xx.dropB b2 (Xx.dropB b3 (Xx.rB1 rfl rfl ⟨congrArg Value.bool hr, rfl⟩ (Frag.le_refl _) rfl))
      ·
       have hj1 := h23
       refine Lx.gF rfl rfl rfl rfl <| Lx.gF rfl rfl rfl rfl <| Lx.gF rfl rfl rfl rfl <| Lx.gF rfl rfl rfl rfl <| Lx.gF rfl rfl rfl rfl <| Lx.y (pickF rfl rfl) rfl <| Lx.nil <| ?_
       refine Xx.tn (k22 _ _ _ _ ?_)
       refine Cx.condF rfl <| Cx.exit <| Xx.te <| Xx.te <| Xx.bh <| ?_
       refine Xx.tn (k19 _ _ _ _ ?_)
       refine Cx.seq (fun K50 k50 => ?_)
       have hr : decide (((a.parts.length : Nat) : Int) < ((b.parts.length : Nat) : Int)) = decide (cmpF (d + 1) a b = .lt) := decide_eq_decide.2 (by rw [hlex, lexO_end hi1 hi2 (by omega)]; omega)
       refine Cx.region <| Lx.y (fa' fo39_4 rfl) rfl <| Lx.y (ld U37 rfl rfl rfl) rfl <| Lx.y (lenV (ty' := 0) U37 rfl) rfl <| Lx.y (fa' fo39_4 rfl) rfl <| Lx.y (ld U37 rfl rfl rfl) rfl <| Lx.y (lenV (ty' := 0) U37 rfl) rfl <| Lx.y (lss rfl rfl) rfl <| Lx.y (asg rfl) rfl <| Lx.nil <| ?_
       refine Xx.tn (k50 _ _ _ _ ?_)
       refine Cx.ret ?_
       exact Xx.dropB b2 (Xx.dropB b3 (Xx.rB1 rfl rfl ⟨congrArg Value.bool hr, rfl⟩ (Frag.le_refl _) rfl))
theorem Before_ct : ∀ (d : Nat) (a b : V) (deep : Int) (ca cb : List Value) (B : Frag), ValR B d a ca → ValR B d b cb → checkF d a deep = 0 → checkF d b deep = 0 → CtP Tryz.prog 40 [.agg ca.toArray, .agg cb.toArray] B (.bool (decide (cmpF d a b = .lt))) := by
  intro d
  induction d with
  | zero => intro a b deep ca cb B h; exact h.elim
  | succ d ih => intro a b deep ca cb B ha hb h1 h2; exact Before_step d ih a b deep ca cb B ha hb h1 h2
set_option maxHeartbeats 1000000 in
theorem Same_ct (d : Nat) (a b : V) (deep : Int) (ca cb : List Value) (B : Frag) (ha : ValR B d a ca) (hb : ValR B d b cb) (h1 : checkF d a deep = 0) (h2 : checkF d b deep = 0) : CtP Tryz.prog 16 [.agg ca.toArray, .agg cb.toArray] B (.bool (decide (cmpF d a b = .eq))) := by
 obtain ⟨Ap, cp, An, cn, rfl⟩ := ValR.shape ha
 obtain ⟨Ap2, cp2, An2, cn2, rfl⟩ := ValR.shape hb
 refine CtB.of_body Tryz.func16 rfl (nt := 15) rfl (by kernel_rfl) rfl ?_
 intro N0 w0 R
 refine Cx.seq (fun K1 k1 => ?_)
 refine Cx.region ?_
 refine Lx.new (boxA rfl) rfl (fun b2 => ?_)
 refine Lx.new (boxA rfl) rfl (fun b3 => ?_)
 refine Lx.y (asg rfl) rfl <| Lx.nil <| ?_
 refine Xx.tn (k1 _ _ _ _ ?_)
 refine Cx.seq (fun K2 k2 => ?_)
 refine Cx.region <| Lx.y (ldA U39 rfl sz39 rfl (Cells.own (n := 6) PickB.eq rfl) rfl) rfl <| Lx.y (ldA U39 rfl sz39 rfl (Cells.own (n := 6) PickB.eq rfl) rfl) rfl <| ?_
 refine Lx.cp rfl rfl rfl (Before_ct d _ _ _ _ _ _ ha hb h1 h2) rfl ?_
 refine Lx.y (not' rfl) rfl <| Lx.y (mv rfl) rfl <| ?_
 refine Xx.ifB (t := 9) rfl (fun h3 => ?_) (fun h3 => ?_)
 ·
  have c1 := of_decide_eq_false ((Bool.not_eq_true' _).mp h3)
  have hr : (!decide (cmpF d b a = .lt)) = decide (cmpF d a b = .eq) := by
   rw [cmpF_swap d a b]
   cases hc : cmpF d a b with
   | eq => rfl
   | lt => exact absurd hc c1
   | gt => rfl
  refine Lx.gT rfl rfl rfl <| Lx.y (ldA U39 rfl sz39 rfl (Cells.own (n := 6) PickB.eq rfl) rfl) rfl <| Lx.gT rfl rfl rfl <| Lx.y (ldA U39 rfl sz39 rfl (Cells.own (n := 6) PickB.eq rfl) rfl) rfl <| Lx.gT rfl rfl rfl <| ?_
  refine Lx.cp rfl rfl rfl (Before_ct d _ _ _ _ _ _ hb ha h2 h1) rfl ?_
  refine Lx.gT rfl rfl rfl <| Lx.y (not' rfl) rfl <| Lx.y (pickT rfl rfl) rfl <| Lx.y (asg rfl) rfl <| Lx.nil <| ?_
  refine Xx.tn (k2 _ _ _ _ ?_)
  refine Cx.ret ?_
  exact Xx.dropB b2 (Xx.dropB b3 (Xx.rB1 rfl rfl ⟨congrArg Value.bool hr, rfl⟩ (Frag.le_refl _) rfl))
 ·
  have c1 := of_decide_eq_true ((Bool.not_eq_false' _).mp h3)
  have hr : false = decide (cmpF d a b = .eq) := by rw [c1]; rfl
  refine Lx.gF rfl rfl rfl rfl <| Lx.gF rfl rfl rfl rfl <| Lx.gF rfl rfl rfl rfl <| Lx.gF rfl rfl rfl rfl <| Lx.y (pickF rfl rfl) rfl <| Lx.y (asg rfl) rfl <| Lx.nil <| ?_
  refine Xx.tn (k2 _ _ _ _ ?_)
  refine Cx.ret ?_
  exact Xx.dropB b2 (Xx.dropB b3 (Xx.rB1 rfl rfl ⟨congrArg Value.bool hr, rfl⟩ (Frag.le_refl _) rfl))
set_option maxHeartbeats 1000000 in
theorem Pair_ct (d : Nat) (v : V) (n : BitVec 64) (cs : List Value) (B : Frag) (h : ValR B d v cs) (hM : MaxLenIn B) (hb : (bytesF d v).length ≤ 1048576) : CtP Tryz.prog 38 [.agg cs.toArray, u64 n] B (str (keyF d v ++ numL n)) := by
 have hkl := keyF_len _ _ _ _ h
 obtain ⟨Ap, cp, An, cn, rfl⟩ := ValR.shape h
 refine CtB.of_body Tryz.func38 rfl (nt := 10) rfl (by kernel_rfl) rfl ?_
 intro N0 w0 R
 refine Cx.seq (fun K1 k1 => ?_)
 refine Cx.region ?_
 refine Lx.new (boxA rfl) rfl (fun b2 => ?_)
 refine Lx.y (asg rfl) rfl <| Lx.nil <| ?_
 refine Xx.tn (k1 _ _ _ _ ?_)
 refine Cx.seq (fun K2 k2 => ?_)
 refine Cx.region <| Lx.y (ldA U25 rfl sz25 rfl (Cells.own (n := 6) PickB.eq rfl) rfl) rfl <| ?_
 refine Lx.cp rfl rfl rfl (Of_ct d v _ _ h hM hb) rfl ?_
 refine Lx.y (mv rfl) rfl ?_
 refine Lx.cp rfl rfl rfl (Number_ct _ _) rfl ?_
 refine Lx.y (catS rfl rfl (by first | omega | (simp <;> omega))) rfl <| Lx.y (asg rfl) rfl <| Lx.nil <| ?_
 refine Xx.tn (k2 _ _ _ _ ?_)
 refine Cx.ret ?_
 exact Xx.dropB b2 (Xx.rB1 rfl rfl ⟨rfl, rfl⟩ (Frag.le_refl _) rfl)
def Sh : Nat → V → Prop
  | 0, _ => True
  | d + 1, v => v.s.length ≤ 1100 ∧ ∀ p ∈ v.parts, Sh d p
theorem cutF_sh : ∀ (deep w d : Nat) (v : V), Sh d (cutF deep w v) := by
  intro deep
  induction deep with
  | zero => intro w d v; cases d with
    | zero => exact trivial
    | succ d => exact ⟨by rw [cutF_s]; simp; omega, fun p hp => by cases hp⟩
  | succ k ih => intro w d v; cases d with
    | zero => exact trivial
    | succ d =>
      refine ⟨by rw [cutF_s]; simp; omega, fun p hp => ?_⟩
      have hp' : p ∈ (v.parts.take w).map (cutF k 4) := hp
      obtain ⟨q, _, rfl⟩ := List.mem_map.1 hp'
      exact ih 4 d q
theorem preB_le {f : V → List UInt8} {v : V} {X : Nat} (h1 : ∀ i, i < v.names.length → (v.names.getD i []).length ≤ 16) (h2 : ∀ i (hi : i < v.parts.length), (f v.parts[i]).length ≤ X) : ∀ i, i ≤ v.parts.length → (preB f v i).length ≤ 12 + i * (27 + X) := by
  intro i
  induction i with
  | zero => intro _; unfold preB; have : (uvL (BitVec.ofInt 64 (v.parts.length : Nat))).length ≤ 11 := uvF_len 10 _; simp at this ⊢; omega
  | succ i ih =>
    intro hi
    have h3 := ih (by omega)
    have h4 := h2 i (by omega)
    rw [preB_succ, List.length_append, Nat.succ_mul]
    have h5 : (partB f v i).length ≤ 27 + X := by
      unfold partB
      rw [getDp (by omega), List.length_append]
      by_cases hn : i < v.names.length
      · rw [if_pos hn]
        have h6 := h1 i hn
        unfold txtL
        have : (uvL (BitVec.ofInt 64 ((v.names.getD i []).length : Nat))).length ≤ 11 := uvF_len 10 _
        rw [List.length_append]; omega
      · rw [if_neg hn]; simp; omega
    omega
theorem bytes_le : ∀ (d : Nat) (v : V) (deep : Int), deep ≤ 9 → checkF d v deep = 0 → Sh d v → (bytesF d v).length ≤ 1200 * 34 ^ (9 - deep).toNat := by
  intro d
  induction d with
  | zero => intro v deep _ _ _; show 0 ≤ _; omega
  | succ d ih =>
    intro v deep hd hok hsh
    obtain ⟨h8, _, _, _, hpl, hnb, hps⟩ := chk_ok hok
    obtain ⟨hn6, hn0⟩ := names_many hok
    obtain ⟨k, hk⟩ : ∃ k, (9 - deep).toNat = k + 1 := ⟨(9 - deep).toNat - 1, by omega⟩
    have hk2 : (9 - (deep + 1)).toNat = k := by omega
    rw [hk, Nat.pow_succ]
    have hp := preB_le (f := bytesF d) (v := v) (X := 1200 * 34 ^ k) (fun i hi => by
      have := ((namesP hnb).1 i hi).1
      exact this.2.2) (fun i hi => by have := ih v.parts[i] (deep + 1) (by omega) (hps i hi) (hsh.2 _ (List.getElem_mem hi)); rw [hk2] at this; exact this) v.parts.length (Nat.le_refl _)
    have hm : v.parts.length * (27 + 1200 * 34 ^ k) ≤ 32 * (27 + 1200 * 34 ^ k) := Nat.mul_le_mul_right _ hpl
    have hpos : 0 < 34 ^ k := Nat.pow_pos (by decide)
    have hs := hsh.1
    have u1 : (uvL (BitVec.ofInt 64 (v.s.length : Nat))).length ≤ 11 := uvF_len 10 _
    have u2 : (uvL (BitVec.ofInt 64 v.n <<< 1 ^^^ BitVec.ofInt 64 (v.n / 9223372036854775808))).length ≤ 11 := uvF_len 10 _
    generalize 34 ^ k = z at *
    unfold bytesF
    repeat' split
    all_goals first | (unfold intL; simp only [List.length_append, List.length_cons, List.length_nil]; omega) | (unfold txtL; simp only [List.length_append, List.length_cons, List.length_nil]; omega) | omega | (simp only [List.length_append, List.length_cons, List.length_nil]; omega)
theorem cut_bytes {d deep w : Nat} {v : V} (h : checkF d (cutF deep w v) 1 = 0) : (bytesF d (cutF deep w v)).length ≤ 1152921504606846976 := by
  have := bytes_le d _ 1 (by decide) h (cutF_sh deep w d v)
  exact Nat.le_trans this (by decide)
theorem CheckF_zero {d : Nat} {v : V} (h : CheckF d v = 0) : checkF d v 1 = 0 ∧ (bytesF d v).length ≤ 1024 := by
  unfold CheckF at h
  by_cases h1 : checkF d v 1 = 0
  · rw [if_pos h1] at h
    by_cases h2 : 1024 < (bytesF d v).length
    · rw [if_pos h2] at h; omega
    · exact ⟨h1, by omega⟩
  · rw [if_neg h1] at h; exact absurd h h1
theorem tri_lt {o : Ordering} {p q : List UInt8} (h : Tri o p q) : bless p q = decide (o = .lt) := by
  cases o with
  | lt => exact Lt.less h
  | eq => have e : p = q := h; subst e; exact bless_irrefl _
  | gt => exact bless_asymm (Lt.less h)
theorem tri_eq {o : Ordering} {p q : List UInt8} (h : Tri o p q) : decide (p = q) = decide (o = .eq) := by
  cases o with
  | lt => exact decide_eq_false fun e => by subst e; have := Lt.less h; rw [bless_irrefl] at this; cases this
  | eq => exact decide_eq_true h
  | gt => exact decide_eq_false fun e => by subst e; have := Lt.less h; rw [bless_irrefl] at this; cases this
end KeG
end Go.Proofs.YtdidpocakipinaaGreatDoor
namespace Go.Proofs.YtdidpocakipinaaGreatDoor
open Go.SL Go.RowKit
set_option maxRecDepth 100000
open Ke1 Ke3 Ke4 Ke5 Ke6 Ke7 Ke8 Ke9 KeA KeB KeC KeD KeE KeF KeG
open Go.ChangeShapes Go.WideShapes Go.ChangeAt
namespace KeI
section
variable {H : Type} {enc : TypeId × Value → H}
theorem choose_list {n : Nat} {Q : Nat → V → Prop} (h : ∀ i, i < n → ∃ x, Q i x) : ∃ l : List V, l.length = n ∧ ∀ i (hi : i < l.length), Q i l[i] := by
  classical
  refine ⟨(List.range n).map fun i => if h' : i < n then Classical.choose (h i h') else default, by simp, fun i hi => ?_⟩
  have hin : i < n := by simpa using hi
  simp only [List.getElem_map, List.getElem_range, dif_pos hin]
  exact Classical.choose_spec (h i hin)
theorem ValR.up {B : Frag} : ∀ {d : Nat} {v : V} {cs : List Value}, ValR B d v cs → ValR B (d + 1) v cs := by
  intro d
  induction d with
  | zero => intro v cs h; exact h.elim
  | succ d ih =>
    rintro v cs ⟨Ap, cp, An, cn, h1, h2, h3, h4, h5, h6, h7⟩
    exact ⟨Ap, cp, An, cn, h1, h2, h3, h4, h5, h6, fun i hi => let ⟨b, o, l, et, fz, xs, g1, g2, g3, g4⟩ := h7 i hi; ⟨b, o, l, et, fz, xs, g1, g2, g3, ih g4⟩⟩
theorem weightsAll_mem {P : Program} {e : TypeId} : ∀ {l : List (DataW H)} {d : DataW H} {n : Nat}, d ∈ l → n ∈ d.weights P e → n ∈ DataW.weightsAll P e l := by
  intro l
  induction l with
  | nil => intro d n h; cases h
  | cons x l ih =>
    intro d n h hn
    simp only [DataW.weightsAll, List.mem_append]
    rcases List.mem_cons.1 h with rfl | h
    · exact .inl hn
    · exact .inr (ih h hn)
theorem add_block (a : Addr) (k : Nat) : (a.add k).block = a.block := by unfold Addr.add; split <;> rfl
theorem add_off (a : Addr) (k : Nat) : (a.add k).off = a.off + k := by unfold Addr.add; split <;> simp_all
theorem cells_row {W : World} {b0 : Nat} {a : Addr} {n : Nat} {cs : List Value} (h : W.cells? b0 a n = some cs) (hn : 0 < n) : a.spot = none ∧ ∃ l et fz, W.heap[a.block]? = some (.cells (List.toArray l) et fz) ∧ (l.drop a.off).take n = cs := by
  obtain ⟨_, hl, hc⟩ := World.cells?_some h
  have hb : ∀ k, (a.add k).block = a.block := fun k => by unfold Addr.add; split <;> rfl
  have h0 := cell_obj ((hc 0 hn).trans (List.getElem?_eq_getElem (by omega)))
  have hs : a.spot = none := by have := h0.1; simpa [Addr.add] using this
  obtain ⟨l, et, fz, hh, _⟩ := h0.2
  rw [hb] at hh
  have ho : ∀ k, (a.add k).off = a.off + k := fun k => by unfold Addr.add; split <;> simp_all
  refine ⟨hs, l, et, fz, hh, ?_⟩
  apply List.ext_getElem?
  intro k
  by_cases hk : k < n
  · rw [List.getElem?_take, if_pos hk, List.getElem?_drop]
    obtain ⟨l2, et2, fz2, hh2, hv2⟩ := (cell_obj ((hc k hk).trans (List.getElem?_eq_getElem (by omega)))).2
    rw [hb, hh] at hh2
    rw [ho] at hv2
    injection hh2 with hh2
    injection hh2 with e1
    have e2 : l = l2 := by simpa using congrArg Array.toList e1
    subst e2
    rw [hv2, List.getElem?_eq_getElem]
  · rw [List.getElem?_take, if_neg hk, List.getElem?_eq_none (by omega)]
theorem wf_i64 {n : Int} (h : (Lit.int .i64 n).wf = true) : -9223372036854775808 ≤ n ∧ n ≤ 9223372036854775807 := by
  unfold Lit.wf at h
  rw [Bool.and_eq_true] at h
  exact ⟨of_decide_eq_true h.1, of_decide_eq_true h.2⟩
theorem wf_u64 {n : Int} (h : (Lit.int .u64 n).wf = true) : 0 ≤ n ∧ n ≤ 18446744073709551615 := by
  unfold Lit.wf at h
  rw [Bool.and_eq_true] at h
  exact ⟨of_decide_eq_true h.1, of_decide_eq_true h.2⟩
theorem u64_of {n : Int} (h : (Lit.int .u64 n).wf = true) : ∃ b : BitVec 64, Value.int .u64 n = u64 b := by
  obtain ⟨h1, h2⟩ := wf_u64 h
  refine ⟨BitVec.ofNat 64 n.toNat, ?_⟩
  show _ = Value.int .u64 _
  congr 1
  rw [BitVec.toNat_ofNat]
  omega
theorem open_val0 {W : World} {b0 : Nat} {sp : Nat → Bool} {hd : Bool} : ∀ (fuel : Nat) (cs : List Value) (x : DataW H × List MemPlace), DataW.trod enc Tryz.prog W b0 sp hd fuel 25 cs = some x → (∀ n ∈ x.1.weights Tryz.prog 25, n ≤ reachBytes) → ∃ v, ValR (base W) fuel v cs := by
  intro fuel
  induction fuel using Nat.strongRecOn with
  | _ fuel ih =>
    intro cs x h hw
    have c3 : Tryz.prog.cellsOf 3 = 1 := by kernel_rfl
    have c4 : Tryz.prog.cellsOf 4 = 1 := by kernel_rfl
    have c2 : Tryz.prog.cellsOf 2 = 1 := by kernel_rfl
    have c9 : Tryz.prog.cellsOf 9 = 1 := by kernel_rfl
    have c32 : Tryz.prog.cellsOf 22 = 1 := by kernel_rfl
    have c33 : Tryz.prog.cellsOf 23 = 1 := by kernel_rfl
    have c35 : Tryz.prog.cellsOf 25 = 6 := by kernel_rfl
    have b35 : Tryz.prog.bytesOf 25 = 88 := by kernel_rfl
    obtain ⟨xs, n, rfl, rfl, hl, hlen, hf⟩ := DataW.trod_struct U25 h
    rw [c35] at hl
    match cs, hl, xs, hlen with
    | [k0, k1, k2, k3, k4, k5], _, [y0, y1, y2, y3, y4, y5], _ =>
      have e0 : DataW.trod enc Tryz.prog W b0 sp hd n 3 [k0] = some y0 := by
        have := hf 0 _ rfl
        have e : DataW.trod enc Tryz.prog W b0 sp hd n 3 (List.take (Tryz.prog.cellsOf 3) [k0, k1, k2, k3, k4, k5]) = some y0 := this
        rw [c3] at e; exact e
      have e1 : DataW.trod enc Tryz.prog W b0 sp hd n 4 [k1] = some y1 := by
        have := hf 1 _ rfl
        have e : DataW.trod enc Tryz.prog W b0 sp hd n 4 (List.take (Tryz.prog.cellsOf 4) [k1, k2, k3, k4, k5]) = some y1 := this
        rw [c4] at e; exact e
      have e2 : DataW.trod enc Tryz.prog W b0 sp hd n 2 [k2] = some y2 := by
        have := hf 2 _ rfl
        have e : DataW.trod enc Tryz.prog W b0 sp hd n 2 (List.take (Tryz.prog.cellsOf 2) [k2, k3, k4, k5]) = some y2 := this
        rw [c2] at e; exact e
      have e3 : DataW.trod enc Tryz.prog W b0 sp hd n 9 [k3] = some y3 := by
        have := hf 3 _ rfl
        have e : DataW.trod enc Tryz.prog W b0 sp hd n 9 (List.take (Tryz.prog.cellsOf 9) [k3, k4, k5]) = some y3 := this
        rw [c9] at e; exact e
      have e4 : DataW.trod enc Tryz.prog W b0 sp hd n 22 [k4] = some y4 := by
        have := hf 4 _ rfl
        have e : DataW.trod enc Tryz.prog W b0 sp hd n 22 (List.take (Tryz.prog.cellsOf 22) [k4, k5]) = some y4 := this
        rw [c32] at e; exact e
      have e5 : DataW.trod enc Tryz.prog W b0 sp hd n 23 [k5] = some y5 := by
        have := hf 5 _ rfl
        have e : DataW.trod enc Tryz.prog W b0 sp hd n 23 (List.take (Tryz.prog.cellsOf 23) [k5]) = some y5 := this
        rw [c33] at e; exact e
      have hwe : ∀ (j : Nat) (t : TypeId) (d : DataW H), [3, 4, 2, 9, 22, 23][j]? = some t → [y0.1, y1.1, y2.1, y3.1, y4.1, y5.1][j]? = some d → ∀ m ∈ d.weights Tryz.prog t, m ≤ reachBytes := fun j t d ht hd' m hm => hw m (by
        have : (DataW.agg (List.map (·.1) [y0, y1, y2, y3, y4, y5])).weights Tryz.prog 25 = DataW.weightsEach Tryz.prog [3, 4, 2, 9, 22, 23] [y0.1, y1.1, y2.1, y3.1, y4.1, y5.1] := by
          simp [DataW.weights, U25]
        rw [this]
        exact DataW.weights_mem_each ht hd' m hm)
      obtain ⟨m0, g0, _, _⟩ := DataW.trod_int U3 e0
      obtain ⟨m1, g1, _⟩ := DataW.trod_bool U4 e1
      obtain ⟨m2, g2, _, w2⟩ := DataW.trod_int U2 e2
      obtain ⟨m3, g3, hx3, _⟩ := DataW.trod_string U9 e3
      have w3 : m3.data.toList.length ≤ reachBytes := hwe 3 9 _ rfl rfl _ (by rw [hx3]; simp [DataW.weights])
      have hr : reachBytes ≤ 4611686018427387904 := by decide
      obtain ⟨n1, n2⟩ := wf_i64 w2
      injection g0 with g0 _
      injection g1 with g1 _
      injection g2 with g2 _
      injection g3 with g3 _
      subst g0 g1 g2 g3
      have hnm : ∃ (An : Option Addr) (cn : Nat) (nm : List (List UInt8)), k5 = .slice An nm.length cn ∧ nm.length ≤ cn ∧ nm.length ≤ 4611686018427387904 ∧ RoE (base W) An nm.length (nm.map str) ∧ ∀ s ∈ nm, s.length ≤ 4611686018427387904 := by
        rcases open_strings U23 U9 c9 e5 with ⟨hcs, _⟩ | ⟨a, len, cap, ss, hcs, _, hl5, hm5, hz5, hx5, hcell5, hsz5⟩
        · simp at hcs
          exact ⟨none, 0, [], hcs, Nat.le_refl _, by simp, ⟨rfl, fun k hk => absurd hk (by simp)⟩, fun s hs => by cases hs⟩
        · simp at hcs
          have hle : len ≤ ss.length := by rw [hz5]; split <;> omega
          have hwn : ∀ m ∈ y5.1.weights Tryz.prog 23, m ≤ reachBytes := hwe 5 23 _ rfl rfl
          rw [hx5] at hwn
          have hwl : ((strs (H := H) (ss.take len)).length + (strs (H := H) (ss.drop len)).length) * Tryz.prog.bytesOf 9 ≤ reachBytes := hwn _ (by simp [DataW.weights, U23])
          have b9 : Tryz.prog.bytesOf 9 = 16 := by kernel_rfl
          rw [b9] at hwl
          have hsl : (strs (H := H) (ss.take len)).length = len := by simp [strs]; omega
          have hnl : ((ss.take len).map (·.data.toList)).length = len := by simp; omega
          refine ⟨some a, cap, (ss.take len).map (·.data.toList), by rw [hcs, hnl], by omega, by omega, RoE.of_cells (by simp) ?_, ?_⟩
          · intro i v hv
            simp only [List.map_map, List.getElem?_map] at hv
            by_cases hi : i < len
            · rw [List.getElem?_take, if_pos hi, List.getElem?_eq_getElem (by omega)] at hv
              simp at hv
              rw [hcell5 i (by omega), ← hv]
              simp [List.getD, List.getElem?_eq_getElem (show i < ss.length by omega)]
            · rw [List.getElem?_take, if_neg hi] at hv; cases hv
          · intro s hs
            simp only [List.mem_map] at hs
            obtain ⟨y, hy, rfl⟩ := hs
            have : y.data.toList.length ≤ reachBytes := hwn _ (by
              simp only [DataW.weights, U23, List.mem_cons, List.mem_append]
              refine .inr (.inl (weightsAll_mem (d := .lit (.string y.data.toList)) ?_ (by simp [DataW.weights])))
              unfold strs
              exact List.mem_map.2 ⟨y, hy, rfl⟩)
            omega
      obtain ⟨An, cn, nm, rfl, hnc, hnl, hnr, hnx⟩ := hnm
      rcases DataW.trod_slice U22 e4 with ⟨hcs, _⟩ | ⟨a, len, cap, elems, rest, n', rfl, hcs, hx4, _, hl4, hm4, hlen4, hel, _, _⟩
      · simp at hcs
        subst hcs
        exact ⟨.mk m0 m1 m2 m3.data.toList [] nm, none, 0, An, cn, rfl, ⟨Nat.le_trans w3 hr, n1, n2, hnc, Nat.le_refl _⟩, by show 0 ≤ _; omega, hnl, hnr, hnx, fun i hi => absurd hi (by show ¬ i < 0; omega)⟩
      · simp at hcs
        subst hcs
        have hwn : ∀ m ∈ y4.1.weights Tryz.prog 22, m ≤ reachBytes := hwe 4 22 _ rfl rfl
        rw [hx4] at hwn
        have hwl : ((elems.map (·.1)).length + (rest.map (·.1)).length) * Tryz.prog.bytesOf 25 ≤ reachBytes := hwn _ (by simp [DataW.weights, U22])
        rw [b35, List.length_map] at hwl
        have hex : ∀ i, i < len → ∃ v, ∃ cs', W.cells? b0 (a.add (i * 6)) 6 = some cs' ∧ ValR (base W) n' v cs' := by
          intro i hi
          have h1 := hel i hi
          rw [c35, List.getElem?_eq_getElem (by omega), Option.bind_eq_some_iff] at h1
          obtain ⟨cs', h2, h3⟩ := h1
          obtain ⟨v, hv⟩ := ih n' (by omega) cs' _ h3 (fun m hm => hwn m (by
            simp only [DataW.weights, U22, List.mem_cons, List.mem_append]
            exact .inr (.inl (weightsAll_mem (List.mem_map.2 ⟨_, List.getElem_mem (by omega), rfl⟩) hm))))
          exact ⟨v, cs', h2, hv⟩
        obtain ⟨ps, hps, hall⟩ := choose_list hex
        refine ⟨.mk m0 m1 m2 m3.data.toList ps nm, some a, cap, An, cn, by rw [← hps]; rfl, ⟨Nat.le_trans w3 hr, n1, n2, hnc, by show ps.length ≤ _; omega⟩, by show ps.length ≤ _; omega, hnl, hnr, hnx, fun i hi => ?_⟩
        obtain ⟨cs', h2, hv⟩ := hall i hi
        obtain ⟨hs, l, et, fz, hh, hd6⟩ := cells_row h2 (by decide)
        have hsa : a.spot = none := by
          obtain ⟨_, h20, _⟩ := hall 0 (Nat.lt_of_le_of_lt (Nat.zero_le i) hi)
          have := (cells_row h20 (by decide)).1
          simpa [Addr.add] using this
        have hb : (a.add (i * 6)).block = a.block := add_block _ _
        have ho : (a.add (i * 6)).off = a.off + i * 6 := add_off _ _
        rw [hb] at hh
        rw [ho] at hd6
        exact ⟨a.block, a.off, l, et, fz, cs', by rw [← hsa], hh, hd6, ValR.up hv⟩
theorem maxLen_in {W : World} (h : W.ShapedOpen Tryz.prog) : MaxLenIn (base W) := by
  obtain ⟨m, hm⟩ := cell_of_shapedOpen_int (g := 0) h (of_decide_eq_true (by kernel_rfl)) (t := 3) (zero := #[.int .i64 0]) (by kernel_rfl) rfl (by kernel_rfl) (by kernel_rfl) U3
  obtain ⟨_, cs, et, fz, h1, h2⟩ := cell_obj hm
  exact ⟨cs, et, fz, m, h1, h2⟩
theorem weights_at {P : Program} {ts : List TypeId} {ds : List (DataW H)} (h : (DataW.weightsEach P ts ds).all (· ≤ reachBytes) = true) {j : Nat} {t : TypeId} {d : DataW H} (ht : ts[j]? = some t) (hd : ds[j]? = some d) : ∀ n ∈ d.weights P t, n ≤ reachBytes := fun n hn => by
  have := List.all_eq_true.1 h _ (DataW.weights_mem_each ht hd n hn)
  simpa using this
end
end KeI
end Go.Proofs.YtdidpocakipinaaGreatDoor
namespace Go.SL
open Go.RowKit
section
variable {P : Program} {ρ : Sl} {S : World → Prop} {ty : TypeId} {v v' : Value} {op : Op}
theorem Yx.val (h : Yx P op ty ρ S v) (e : v = v') : Yx P op ty ρ S v' := e ▸ h
theorem Yx.tt {b : Bool} (h : Yx P op ty ρ S (.bool b)) (e : b = true) : Yx P op ty ρ S (.bool true) := e ▸ h
theorem Yx.ff {b : Bool} (h : Yx P op ty ρ S (.bool b)) (e : b = false) : Yx P op ty ρ S (.bool false) := e ▸ h
end
end Go.SL
namespace Go.SL
open Go.RowKit
section
variable {e : Env} {ds : List Deferred} {Q : Exit → Act → World → Prop} {ρ : Sl} {B : Frag} {H : HP}
def Rn (e : Env) (c : Code) (Q : Exit → Act → World → Prop) (m : Nat) (a : Act) (w : World) : Prop := Code.roundsIn (FW e.r) 0 e.P c Q m a w
theorem Cx.unroll {c : Code} (m : Nat) (h : Xx e ds (Rn e c Q m) ρ B H) : Cx e ds (.loop c) Q ρ B H := fun a w f b s => wpIn_loop_rounds m (h a w f b s)
theorem Xx.rn {c : Code} {m : Nat} (h : Cx e ds c (Exit.then (Rn e c Q m) Q) ρ B H) : Xx e ds (Rn e c Q (m + 1)) ρ B H := fun a w f b s => h a w f b s
end
section
variable {P : Program} {ρ : Sl} {S : World → Prop} {ty t t2 : TypeId} {x y : Operand} {v : Value}
theorem extc {xs : Array Operand} {ts : Array TypeId} {fi : FuncId} {vs : List Value} (hf : ev ρ x = some (.func (.func fi) #[] #[])) (hx : evl ρ xs.toList = some vs) (h : ∀ w, S w → (callFunc fi vs.toArray).run P w = .ok (.value v) w) :
    Yx P (.call { callee := .value x, args := xs, argTypes := ts }) ty ρ S v := .of (fun _ h => by cases h) fun f w _ _ _ _ he s => by
  have hfv := he _ _ hf
  have hxv : xs.map f = vs.toArray := by
    have := he.map hx
    apply Array.toList_inj.1
    simp [this]
  have h1 := h w s
  simp only [execOp, resolve, hfv, Deferred.ofValue, hxv, Sem.run_bind, Sem.run_pure, Result.andThen, invoke]
  simpa using h1
theorem minI {k : IntKind} {m n : Int} (hx : ev ρ x = some (.int k m)) (hy : ev ρ y = some (.int k n)) : Yx P (.call { callee := .builtin .min, args := #[x, y], argTypes := #[t, t2] }) ty ρ S (.int k (if n < m then n else m)) := .of (fun _ h => by cases h) fun f w _ _ _ _ he _ => by
  simp [execOp, resolve, invoke, builtin, Builtin.min_, Builtin.min2, he _ _ hx, he _ _ hy]
end
section
variable {e : Env} {ds : List Deferred} {ρ : Sl} {B : Frag} {H R : HP} {t tx et et' ty tyx : TypeId} {x y : Operand} {size bytes nl nd c nx cx b o ox bx : Nat} {zs xs news cs cs' ncs olds : List Value} {A Ax : Option Addr} {fz : Nat × Nat}
def SrcH (N0 : Nat) (B : Frag) (H : HP) (Ax : Option Addr) (news : List Value) : Prop :=
  news = [] ∨ ∃ b o, Ax = some ⟨b, o, none⟩ ∧ ∀ w, St N0 B H w → ∀ j v, news[j]? = some v → w.cell? ⟨b, o + j, none⟩ = some v
theorem SrcH.own {N0 : Nat} [hp : PickB H b (.cells cs.toArray et fz) R] (n : Nat) (hx : (cs.drop o).take n = news) : SrcH N0 B H (some ⟨b, o, none⟩) news :=
  .inr ⟨b, o, rfl, fun w s j v hj => by
    have s' : St N0 B (blk b (.cells cs.toArray et fz) * R) w := hp.eq ▸ s
    refine cell_of_heap s'.blk.1 ?_
    rw [← hx] at hj
    simp only [List.getElem?_take, List.getElem?_drop] at hj
    split at hj
    · exact hj
    · cases hj⟩
theorem St.src {N0 : Nat} {P : Program} {w : World} (h : SrcH N0 B H Ax news) (hn : news.length = nx * size) (s : St N0 B H w) (len cap : Nat) : (Builtin.firstCells size nx (.slice Ax len cap)).run P w = .ok news.toArray w := by
  rcases h with rfl | ⟨b, o, rfl, h⟩
  · have h0 : nx * size = 0 := by simpa using hn.symm
    cases Ax with
    | none => simp [Builtin.firstCells]
    | some a => exact run_firstCells_some w size nx a len cap [] (by simpa using hn) (fun j v hj => by simp at hj)
  · exact run_firstCells_some w size nx _ len cap news hn fun j v hj => by rw [add_mk]; exact h w s j v hj
theorem cpO (k : Nat) (ht : e.P.underlying t = some (.slice et')) (hs : (e.P.info? et').map (·.size) = some size) (hx : ev ρ x = some (.slice (some ⟨b, o, none⟩) nd c)) (hy : ev ρ y = some (.slice Ax nx cx))
    [hp : PickB H b (.cells cs.toArray et (0, 0)) R] (hk : Nat.min nx nd = k) (hS : SrcH e.N0 B H Ax news) (hn : news.length = k * size) (h1 : news.all (·.oneCell') = true) (hfit : o + news.length ≤ cs.length) (hr : cs.take o ++ news ++ cs.drop (o + news.length) = cs') :
    Ox e ds (.call { callee := .builtin .copy, args := #[x, y], argTypes := #[t, tx] }) ty ρ B H (fun v B' H' => v = i64 k ∧ B' = B ∧ H' = row b et cs' * R) :=
  .of_run (fun _ h => by cases h) fun f w dst pos after guard he s => by
    subst hr hk
    have s' : St e.N0 B (blk b (.cells cs.toArray et (0, 0)) * R) w := hp.eq ▸ s
    have hfc := St.src (P := e.P) (nx := Nat.min nx nd) hS hn s nx cx
    have hst := run_storeCells_at (P := e.P) b o et news 0 cs.toArray w s'.blk.1 (by simpa using hfit) (by simpa using h1)
    simp only [List.toList_toArray, Nat.add_zero] at hst
    cases hq : e.P.info? et' with
    | none => simp [hq] at hs
    | some i =>
      have hi : i.size = size := by simpa [hq] using hs
      have hcp : (Builtin.copy_ #[t, tx] ty #[.slice (some ⟨b, o, none⟩) nd c, .slice Ax nx cx]).run e.P w = .ok (i64 (Nat.min nx nd : Nat)) (w.setRow b (cs.take o ++ news ++ cs.drop (o + news.length)).toArray) := by
        rw [← hi] at hfc
        simp only [Builtin.copy_, Sem.run_bind, run_underlying ht, Result.andThen, Builtin.lenOf, Sem.run_pure, sizeOf, typeInfo, run_program, hq, hfc, hst, List.getElem?_toArray, List.getElem?_cons_zero, List.getElem?_cons_succ]
        simp [hfc, hst, goInt]
      refine ⟨_, _, B, _, ?_, ⟨rfl, rfl, rfl⟩, Frag.le_refl _, (s'.setRow _).2, (s'.setRow _).1⟩
      simp [execOp, resolve, he _ _ hx, he _ _ hy, invoke, builtin, hcp]
theorem amO {k : IntKind} {m : Nat} (ht : e.P.underlying t = some (.slice et)) (htx : e.P.underlying tx = some (.int k)) (hz : TI e.P et zs size bytes) (hx : ev ρ x = some (.slice Ax nl c)) (hy : ev ρ y = some (i64 m))
    (hS : SrcH e.N0 B H Ax olds) (hl : olds.length = nl * size) (hg : c < nl + m) (hb : nl + m ≤ 9223372036854775807) (hbb : (nl + m) * bytes ≤ 140737488355328) :
    Ox e ds (.call { callee := .builtin .append, args := #[x, y], argTypes := #[t, tx] }) ty ρ B H
      (fun v B' H' => ∃ b' c' rest, v = .slice (some ⟨b', 0, none⟩) (nl + m) c' ∧ nl + m ≤ c' ∧ rest.length + nl * size = c' * size ∧ B' = B ∧ H' = row b' et (olds ++ rest) * H) :=
  .of_run (fun _ h => by cases h) fun f w dst pos after guard he s => by
    obtain ⟨i, zv, z1, z2, z3, z4, z5, z6, z7⟩ := hz
    have hfc := St.src (P := e.P) (nx := nl) hS hl s.drew nl c
    rw [← z4] at hfc
    have hcap := nextslicecap_le (need := nl + m) (old := c) hg
    have hge : nl + m ≤ grownCap w (nl + m) c et := by unfold grownCap Question.cut; simp
    have hw : IntKind.i64.wrap (m : Int) = m := by rw [IntKind.wrap_i64]; omega
    have hfit : Builtin.nextslicecap (nl + m) c * i.bytes ≤ 281474976710656 := by
      rw [z5]
      calc Builtin.nextslicecap (nl + m) c * bytes ≤ (2 * (nl + m)) * bytes := Nat.mul_le_mul_right _ hcap
        _ = 2 * ((nl + m) * bytes) := by rw [Nat.mul_assoc]
        _ ≤ 281474976710656 := by omega
    have h63' : ¬ (9223372036854775807 < ((nl : Int) + (m : Int))) := by omega
    have h48' : ¬ (281474976710656 < Builtin.nextslicecap (nl + m) c * i.bytes) := by omega
    have h48i : ¬ (281474976710656 < (m : Int) * (i.bytes : Int)) := by
      rw [← Int.natCast_mul, z5]
      have : m * bytes ≤ (nl + m) * bytes := Nat.mul_le_mul_right _ (by omega)
      omega
    have hneg : ¬ ((m : Int) < 0) := by omega
    have hn : ¬ (nl + m ≤ c) := by omega
    obtain ⟨zm, hzm, hzl⟩ : ∃ zm : List Value, (if m * i.size = 0 then #[] else Builtin.zeroCells zv.cells m) = zm.toArray ∧ zm.length = m * size := by
      by_cases h0 : m * i.size = 0
      · exact ⟨[], by rw [if_pos h0], by rw [z4] at h0; simpa using h0.symm⟩
      · exact ⟨(Builtin.zeroCells zv.cells m).toList, by rw [if_neg h0], by simp [Builtin.zeroCells, z3, z6]⟩
    obtain ⟨sp, hsp, hspl⟩ : ∃ sp : List Value, Builtin.zeroCells zv.cells (grownCap w (nl + m) c et - (nl + m)) = sp.toArray ∧ sp.length = (grownCap w (nl + m) c et - (nl + m)) * size :=
      ⟨(Builtin.zeroCells zv.cells (grownCap w (nl + m) c et - (nl + m))).toList, by simp, by simp [Builtin.zeroCells, z3, z6]⟩
    have hr : (Builtin.append_ #[t, tx] ty #[.slice Ax nl c, i64 m]).run e.P w = .ok (.slice (some ⟨w.heap.size, 0, none⟩) (nl + m) (grownCap w (nl + m) c et)) (w.drew.alloc (.cells (olds ++ (zm ++ sp)).toArray et (0, 0))) := by
      by_cases h0 : m * i.size = 0
      · rw [if_pos h0] at hzm
        have hzm' : zm = [] := by simpa using hzm.symm
        subst hzm'
        simp [Builtin.append_, run_underlying ht, run_underlying htx, sizeOf, typeInfo, zeroValue, z1, z2, asInt, asIntOf, hw, hneg, hn, h0, h63', h48', h48i, Question.forced, hfc, newRow, grownCap]
        have h9 := hsp
        simp [grownCap] at h9
        simp [h9]
      · rw [if_neg h0] at hzm
        simp [Builtin.append_, run_underlying ht, run_underlying htx, sizeOf, typeInfo, zeroValue, z1, z2, asInt, asIntOf, hw, hneg, hn, h0, h63', h48', h48i, Question.forced, hfc, newRow, grownCap]
        have h9 := hsp
        simp [grownCap] at h9
        simp [h9, hzm]
    refine ⟨_, _, B, _, ?_, ⟨_, _, zm ++ sp, rfl, hge, ?_, rfl, rfl⟩, Frag.le_refl _, ((Below.refl _ _).drew).alloc s.sz _, s.drew.alloc _⟩
    · simp [execOp, resolve, he _ _ hx, he _ _ hy, invoke, builtin, hr]
    · have h2 : (grownCap w (nl + m) c et) * size = (grownCap w (nl + m) c et - (nl + m)) * size + (nl + m) * size := by rw [← Nat.add_mul]; congr 1; omega
      simp [hzl, hspl, h2, Nat.add_mul]; omega
theorem ovP {f : FuncId} {fn : Func} {P : Program} {N0 : Nat} {tS tR eS : TypeId} {na ca nb cb oa ob : Nat} {csa csb : List Value} {ea eb : TypeId} {Ra : HP} (hf : P.funcs[f]? = some fn) (hname : (fn.name == "runtime.NumGoroutine") = false) (hb' : fn.body.isNone = true) (hn : Extern.findNext fn = none) (hfe : Extern.find fn = some (Extern.SlicesOverlaps.overlaps #[tS, tS] #[tR]))
    (ht : P.underlying tS = some (.slice eS)) (hz : (P.info? eS).map (·.size) = some size) (hne : bx ≠ b) (hH : H = row bx ea csa * (row b eb csb * Ra)) (hlb : csb ≠ []) (hoa : oa < csa.length ∨ oa = 0) :
    ∀ w, St N0 B H w → (callFunc f [.slice (some ⟨bx, oa, none⟩) na ca, .slice (some ⟨b, ob, none⟩) nb cb].toArray).run P w = .ok (.value (.bool false)) w := fun w s => by
  have s' : St N0 B (row bx ea csa * (row b eb csb * Ra)) w := hH ▸ s
  have ha := s'.blk.1
  have hbk := s'.drop.blk.1
  rw [run_callFunc_extern hf hname hb' hn hfe]
  have hsz : ∀ w, (Go.sizeOf eS).run P w = .ok size w := fun w => by
    cases hq : P.info? eS with
    | none => simp [hq] at hz
    | some i => have hi : i.size = size := by simpa [hq] using hz
                simp [sizeOf, typeInfo, hq, hi]
  have := Lib.run_overlaps_apart (P := P) w tS tR eS ht size hsz ⟨bx, oa, none⟩ ⟨b, ob, none⟩ na ca nb cb hne ea eb csa.length csb.length (by simp [World.shape?, ha]) (by simp [World.shape?, hbk]) (by simpa using hlb)
    (by simp [World.frozen?, ha]) (by simp [World.frozen?, ha])
  have e9 : (Extern.SlicesOverlaps.overlaps #[tS, tS] #[tR] [.slice (some ⟨bx, oa, none⟩) na ca, .slice (some ⟨b, ob, none⟩) nb cb].toArray).run P w = .ok (.bool false) w := this
  rw [e9]; rfl
end
end Go.SL
namespace Go.SL
open Go.RowKit
abbrev CtC (P : Program) (f : FuncId) (args : List Value) (B : Frag) (pre : HP) (v : Value) (post : HP) : Prop := Ct P f args B pre fun v' B' H' => v' = v ∧ B' = B ∧ H' = post
section
variable {e : Env} {ds : List Deferred} {Q : Exit → Act → World → Prop} {ρ : Sl} {B : Frag} {H pre post R : HP} {ops : Array Oper} {rest : List Oper}
theorem Ox.co {x : Operand} {xs : Array Operand} {ts : Array TypeId} {ty : TypeId} {fi : FuncId} {first caps : Array Value} {args vs : List Value} {v : Value}
    (hf : ev ρ x = some (.func (.func fi) first caps)) (hx : evl ρ xs.toList = some vs) (ha : first.toList ++ vs ++ caps.toList = args) (hc : CtC e.P fi args B pre v post) (hH : H = pre * R) :
    Ox e ds (.call { callee := .value x, args := xs, argTypes := ts }) ty ρ B H (fun v' B' H' => v' = v ∧ B' = B ∧ H' = post * R) :=
  ⟨fun _ h => (by cases h), fun a w dst pos after guard K Q f b s k => (Ox.call (ds := ds) hf hx ha hc hH).2 a w dst pos after guard K Q f b s
    fun v' B' H' w' ⟨H1, h1, h2, h3, h4⟩ hB hb hs => k v' B' H' w' ⟨h2, h3, by rw [h1, h4]⟩ hB hb hs⟩
theorem Lx.co {x : Operand} {xs : Array Operand} {ts : Array TypeId} {ty : TypeId} {pos : String} {af : Array Edge} {d : Nat} {fi : FuncId} {first caps : Array Value} {args vs : List Value} {v : Value}
    (hf : ev ρ x = some (.func (.func fi) first caps)) (hx : evl ρ xs.toList = some vs) (ha : first.toList ++ vs ++ caps.toList = args) (hc : CtC e.P fi args B pre v post) (hH : H = pre * R) (hd : Nat.blt d e.nt = true)
    (k : Lx e ds ops Q rest ((d, v) :: ρ) B (post * R)) : Lx e ds ops Q (⟨some d, .call { callee := .value x, args := xs, argTypes := ts }, ty, pos, af, none⟩ :: rest) ρ B H :=
  Lx.o (Ox.co hf hx ha hc hH) hd fun v' B' H' ⟨e1, e2, e3⟩ hB => by subst e1; subst e2; subst e3; exact k
theorem Xx.retA {P : Program} {fn : Func} {N0 nt size : Nat} {w0 : World} {r : Option Nat} {B0 : Frag} {H' R1 : HP} {Φ : Value → Frag → HP → Prop} {t : Tmp} {ty : TypeId} {d : TypeDesc} {vs : List Value} {b : Nat} {et : TypeId} {fz : Nat × Nat}
    (hr : fn.results = #[.cell t ty]) (ht : P.underlying ty = some d) (hd : aggB d = true) (hi : (P.info? ty).map (·.size) = some size) (hv : lk ρ t = some (.pointer (some ⟨b, 0, none⟩))) [hp : PickB H b (.cells vs.toArray et fz) R1] (hl : vs.length = size)
    (hΦ : Φ (.agg vs.toArray) B H') (hB : B0.le B) (hH : R1 = H' * R) : Xx ⟨P, r, N0, w0, nt⟩ [] (bodyPost P fn (Fin N0 w0 R B0 Φ) .ret) ρ B H := fun a w f bl s => by
  have s' : St N0 B (blk b (.cells vs.toArray et fz) * R1) w := hp.eq ▸ s
  have hl := run_loadVar_row (P := P) w b et ty vs.toArray fz d s'.blk.1 ht (by cases d <;> simp_all [aggB]) (by rw [hi]; simp [hl])
  have h1 := f.get t _ hv
  refine ⟨f.defers, .agg vs.toArray, ?_, _, B, H', rfl, hΦ, hB, bl, hH ▸ s'.drop⟩
  simp [results, hr, h1, asAddr, hl]
theorem appN {R1 : HP} {t tx et ty : TypeId} {x y : Operand} {size bytes nl c nx cx b : Nat} {zs xs cs : List Value} {A : Option Addr} {tyx et' : TypeId} {fz : Nat × Nat} (n' : Nat) (news xs' : List Value)
    (ht : e.P.underlying t = some (.slice et)) (htx : e.P.underlying tx = some (.slice tyx)) (hz : TI e.P et zs size bytes)
    (hx : ev ρ x = some (.slice A nl c)) (hy : ev ρ y = some (.slice (some ⟨b, 0, none⟩) nx cx)) [h1 : PickS H A et size nl c xs R1] [h2 : PickB R1 b (.cells cs.toArray et' fz) R] (hl : news.length = nx * size) (hn : (cs.drop 0).take (nx * size) = news) (h1 : news.all (·.oneCell') = true)
    (hb : nl + nx ≤ 9223372036854775807) (hbb : (nl + nx) * bytes ≤ 140737488355328) (hn' : nl + nx = n') (hx' : xs ++ news = xs') :
    Ox e ds (.call { callee := .builtin .append, args := #[x, y], argTypes := #[t, tx] }) ty ρ B H
      (fun v B' H' => ∃ A' c', v = .slice A' n' c' ∧ (0 < n' → ∃ b, A' = some ⟨b, 0, none⟩) ∧ xs.length = nl * size ∧ n' ≤ c' ∧ B' = B ∧ H' = sbuf et size A' n' c' xs' * (blk b (.cells cs.toArray et' fz) * R)) := by
  subst hn' hx'
  exact appR ht htx hz hx hy hl hn h1 hb hbb
end
end Go.SL
namespace Go.SL
open Go.RowKit
theorem St.ne {N0 : Nat} {B : Frag} {a b : Nat} {o u : Obj} {R : HP} {w : World} (h : St N0 B (SL.blk a o * (SL.blk b u * R)) w) : a ≠ b := by
  rintro rfl
  obtain ⟨_, _, k, _, x, y, dj, _, hx, y1, y2, _, hy, h1, _⟩ := h
  have e1 : x = Frag.one a o := hx
  have e2 : y1 = Frag.one a u := h1
  subst e1 e2
  have := dj a
  rw [hy] at this
  simp [Frag.one, Frag.un] at this
section
variable {e : Env} {ds : List Deferred} {ρ : Sl} {B : Frag} {H R : HP} {t tx et et' ty tyx : TypeId} {x y : Operand} {size bytes nl nd n c b o bx : Nat} {m : Int} {k : IntKind} {P : Program} {S : World → Prop}
theorem sl1A {lo : Operand} (j : Nat) (ht : P.underlying t = some (.slice et)) (hs : (P.info? et).map (·.size) = some size) (hx : ev ρ x = some (.slice (some ⟨b, o, none⟩) n c)) (hi : ev ρ lo = some (.int k m)) (hj : m = (j : Nat)) (h1 : j ≤ n) (h2 : j < c) :
    Yx P (.slice t x (some lo) none none) ty ρ S (.slice (some ⟨b, o + j * size, none⟩) (n - j) (c - j)) := by
  subst hj
  have h := sl1V (P := P) (S := S) (ty := ty) ht hs hx hi (j := j) (Int.toNat_natCast j) (by omega) (by omega)
  have e9 : subA (some ⟨b, o, none⟩) c j size = some ⟨b, o + j * size, none⟩ := by
    unfold subA; rw [if_neg (by omega)]; simp [add_mk]
  rw [e9] at h; exact h
theorem ovQ {f : FuncId} {fn : Func} {N0 : Nat} {tS tR eS : TypeId} {na ca nb cb ob : Nat} {csa csb : List Value} {ea eb : TypeId} {Ra : HP} (hf : P.funcs[f]? = some fn) (hname : (fn.name == "runtime.NumGoroutine") = false) (hb' : fn.body.isNone = true) (hn : Extern.findNext fn = none) (hfe : Extern.find fn = some (Extern.SlicesOverlaps.overlaps #[tS, tS] #[tR]))
    (ht : P.underlying tS = some (.slice eS)) (hz : (P.info? eS).map (·.size) = some size) (hH : H = row bx ea csa * (row b eb csb * Ra)) (hlb : csb ≠ []) :
    ∀ w, St N0 B H w → (callFunc f [.slice (some ⟨bx, 0, none⟩) na ca, .slice (some ⟨b, ob, none⟩) nb cb].toArray).run P w = .ok (.value (.bool false)) w := fun w s => by
  have s' : St N0 B (row bx ea csa * (row b eb csb * Ra)) w := hH ▸ s
  exact ovP hf hname hb' hn hfe ht hz s'.ne hH hlb (.inr rfl) w s
end
theorem ins_room {α : Type} {L xs news D : List α} {p s q : Nat} (hp : p ≤ xs.length) (hs : news.length = s) (hL : p + s ≤ L.length) (hx : L.take p = xs.take p) (hD : D = xs.drop p) (hq : q = p + s + D.length) :
    ((L.take (p + s) ++ D ++ L.drop q).take p ++ news ++ (L.take (p + s) ++ D ++ L.drop q).drop (p + news.length)) = xs.take p ++ news ++ xs.drop p ++ L.drop q := by
  have h1 : (L.take (p + s)).length = p + s := by simp; omega
  rw [List.append_assoc (L.take (p + s)), List.take_append_of_le_length (by omega), List.take_take, Nat.min_eq_left (by omega), hx, hs, List.drop_append, h1, Nat.sub_self, List.drop_of_length_le (by omega), hD]
  simp
theorem ins_grow1 {α : Type} {olds rest news : List α} {p s : Nat} (hp : olds.length = p) (hs : news.length = s) (hr : s ≤ rest.length) :
    (olds ++ rest).take p ++ news ++ (olds ++ rest).drop (p + news.length) = olds ++ news ++ rest.drop s := by
  rw [← hp, List.take_left, List.drop_append, hs]
  simp
theorem ins_grow2 {α : Type} {olds news rest D : List α} {p s : Nat} (hp : olds.length = p) (hs : news.length = s) :
    (olds ++ news ++ rest).take (p + s) ++ D ++ (olds ++ news ++ rest).drop (p + s + D.length) = olds ++ news ++ D ++ rest.drop D.length := by
  have h1 : (olds ++ news).length = p + s := by simp [hp, hs]
  rw [← h1, List.take_left, List.drop_append]
  simp
theorem Ct.of_sbuf {P : Program} {f : FuncId} {args : List Value} {B : Frag} {et : TypeId} {size n c : Nat} {A : Option Addr} {xs : List Value} {q : HP} {Φ : Value → Frag → HP → Prop} (hn : 0 < n)
    (h : ∀ b sp, A = some ⟨b, 0, none⟩ → xs.length = n * size → n ≤ c → (xs ++ sp).length = c * size → Ct P f args B (q * row b et (xs ++ sp)) Φ) (he : ∀ args w, (callFunc f args).run P w = .ok (.enter f args) w) : Ct P f args B (sbuf et size A n c xs * q) Φ :=
  ⟨he, fun N0 w R s => by
    rcases (s.of_eq (star_assoc _ _ _)).cases_sbuf with ⟨_, h2, _⟩ | ⟨b, sp, h1, h2, h3, h4, s'⟩
    · omega
    · exact (h b sp h1 h2 h3 h4).2 N0 w R (s'.of_eq (by rw [← star_assoc, star_comm (row b et (xs ++ sp)) q]))⟩
theorem row_sbuf {et : TypeId} {size b n c : Nat} {xs sp : List Value} (h1 : xs.length = n * size) (h2 : n ≤ c) (h3 : (xs ++ sp).length = c * size) {N0 : Nat} {B : Frag} {R : HP} {w : World} (s : St N0 B (row b et (xs ++ sp) * R) w) : St N0 B (sbuf et size (some ⟨b, 0, none⟩) n c xs * R) w := St.of_sbuf h1 h2 h3 s
section
variable {e : Env} {ds : List Deferred} {K : Act → World → Prop} {ρ : Sl} {B : Frag} {H R : HP}
theorem Xx.openT (A : Option Addr) {et : TypeId} {size n c : Nat} {xs : List Value} [hp : PickS H A et size n c xs R] (hn : 0 < n)
    (h : ∀ b sp, A = some ⟨b, 0, none⟩ → xs.length = n * size → n ≤ c → (xs ++ sp).length = c * size → Xx e ds K ρ B (row b et (xs ++ sp) * R)) : Xx e ds K ρ B H :=
  Xx.perm (fun a w f b s => by
    rcases s.cases_sbuf with ⟨_, h2, _⟩ | ⟨bb, sp, h1, h2, h3, h4, s'⟩
    · omega
    · exact h bb sp h1 h2 h3 h4 a w f b s') hp.eq
theorem Xx.closeT (b : Nat) {et : TypeId} {cs : List Value} (xs sp : List Value) (size n c : Nat) [hp : PickB H b (.cells cs.toArray et (0, 0)) R] (hcs : cs = xs ++ sp) (h1 : xs.length = n * size) (h2 : n ≤ c) (h3 : (xs ++ sp).length = c * size)
    (h : Xx e ds K ρ B (sbuf et size (some ⟨b, 0, none⟩) n c xs * R)) : Xx e ds K ρ B H := by
  subst hcs
  exact Xx.perm (fun a w f b s => h a w f b (St.of_sbuf h1 h2 h3 s)) hp.eq
end
end Go.SL
namespace Go.SL
open Go.RowKit
section
variable {e : Env} {ds : List Deferred} {Q : Exit → Act → World → Prop} {ρ : Sl} {B : Frag} {H : HP} {ops : Array Oper} {J : Nat → World → Prop} {fuel : Nat} {listed : Array Bool}
end
end Go.SL
namespace Go.SL
open Go.RowKit
def Frag.apart (k B : Frag) : Prop := ∀ b o, k b = some o → B b = Option.none
theorem Frag.un_right {B k : Frag} (h : k.apart B) {b : Nat} {o : Obj} (hb : k b = some o) : Frag.un B k b = some o := by
  simp [Frag.un, h b o hb, hb]
theorem Frag.le_un (B k : Frag) : B.le (Frag.un B k) := fun b o h => by simp [Frag.un, h]
theorem St.lend {N0 : Nat} {B : Frag} {p R : HP} {w : World} (h : St N0 B (p * R) w) :
    ∃ k : Frag, p k ∧ k.apart B ∧ St N0 (Frag.un B k) R w ∧ ∀ R' w', St N0 (Frag.un B k) R' w' → St N0 B (p * R') w' := by
  obtain ⟨hr, hz, f, hf, k, c, d, e, x, y⟩ := h
  have hk : ∀ b o, k b = some o → w.heap[b]? = some o ∧ B b = Option.none ∧ N0 ≤ b := fun b o hb => hf b o (by rw [e]; simp [Frag.un, hb])
  have hc : ∀ b o, c b = some o → k b = Option.none := fun b o hb => by
    rcases d b with z | z
    · exact z
    · rw [z] at hb; cases hb
  have hap : k.apart B := fun b o hb => (hk b o hb).2.1
  refine ⟨k, x, hap, ⟨fun b o hb => ?_, hz, c, fun b o hb => ?_, y⟩, fun R' w' s => ?_⟩
  · simp only [Frag.un] at hb
    cases hB : B b with
    | some u => rw [hB] at hb; simp at hb; subst hb; exact hr b u hB
    | none => rw [hB] at hb; simp at hb; exact (hk b o hb).1
  · have h1 := hf b o (by rw [e]; simp [Frag.un, hc b o hb, hb])
    exact ⟨h1.1, by simp [Frag.un, h1.2.1, hc b o hb], h1.2.2⟩
  · obtain ⟨hr', hz', f', hf', y'⟩ := s
    have hd : ∀ b o, f' b = some o → k b = Option.none := fun b o hb => by
      have := (hf' b o hb).2.1
      simp only [Frag.un, Option.or_eq_none_iff] at this
      exact this.2
    refine ⟨fun b o hb => hr' b o (Frag.le_un B k b o hb), hz', Frag.un k f', fun b o hb => ?_, k, f', fun b => ?_, rfl, x, y'⟩
    · simp only [Frag.un] at hb
      cases hkb : k b with
      | some u =>
        rw [hkb] at hb; simp at hb; subst hb
        exact ⟨hr' b u (Frag.un_right hap hkb), (hk b u hkb).2⟩
      | none =>
        rw [hkb] at hb; simp at hb
        obtain ⟨g1, g2, g3⟩ := hf' b o hb
        simp only [Frag.un, Option.or_eq_none_iff] at g2
        exact ⟨g1, g2.1, g3⟩
    · cases hfb : f' b with
      | none => exact .inr rfl
      | some u => exact .inl (hd b u hfb)
theorem CtC.lend {P : Program} {f : FuncId} {args : List Value} {B : Frag} {p : HP} {v : Value} (he : ∀ args w, (callFunc f args).run P w = .ok (.enter f args) w)
    (h : ∀ k : Frag, p k → k.apart B → CtP P f args (Frag.un B k) v) : CtC P f args B p v p :=
  ⟨he, fun N0 w R s => by
    obtain ⟨k, hk, hap, s', back⟩ := s.lend
    refine ((h k hk hap).2 N0 w R s').mono ?_
    rintro x w' ⟨v', B', hx, ⟨rfl, rfl⟩, _, hb, s2⟩
    exact ⟨v', B, p, hx, ⟨rfl, rfl, rfl⟩, Frag.le_refl _, hb, back R w' s2⟩⟩
theorem Ct.lend {P : Program} {f : FuncId} {args : List Value} {B : Frag} {p q : HP} {Φ : Value → HP → Prop} (he : ∀ args w, (callFunc f args).run P w = .ok (.enter f args) w)
    (h : ∀ k : Frag, p k → k.apart B → Ct P f args (Frag.un B k) q (fun v B' H' => B' = Frag.un B k ∧ Φ v H')) : Ct P f args B (p * q) (fun v B' H' => B' = B ∧ ∃ H0, Φ v H0 ∧ H' = p * H0) :=
  ⟨he, fun N0 w R s => by
    obtain ⟨k, hk, hap, s', back⟩ := (s.of_eq (star_assoc _ _ _)).lend
    refine ((h k hk hap).2 N0 w R s').mono ?_
    rintro x w' ⟨v', B', H', hx, ⟨rfl, hΦ⟩, _, hb, s2⟩
    exact ⟨v', B, _, hx, ⟨rfl, H', hΦ, rfl⟩, Frag.le_refl _, hb, (back _ w' s2).of_eq (star_assoc _ _ _).symm⟩⟩
theorem sbuf_ro {B k : Frag} {et : TypeId} {size n c : Nat} {A : Option Addr} {xs : List Value} (h : sbuf et size A n c xs k) (ha : k.apart B) : RoS (Frag.un B k) size A n xs ∧ n ≤ c := by
  rcases h with ⟨e1, e2, e3, e4, e5⟩ | ⟨b, sp, e1, e2, e3, e4, e5⟩
  · subst e1 e2 e3 e4; exact ⟨RoS.nil _ _, Nat.le_refl _⟩
  · subst e5
    refine ⟨⟨e2, .inr ⟨b, 0, xs ++ sp, et, (0, 0), e1, ?_, ?_⟩⟩, e3⟩
    · exact Frag.un_right ha (by simp [Frag.one])
    · rw [List.drop_zero, ← e2, List.take_left]
theorem RoS.cut {B : Frag} {size n b c j : Nat} {xs : List Value} (h : RoS B size (some ⟨b, 0, none⟩) n xs) (hj : j ≤ n) : RoS B size (some ⟨b, 0 + j * size, none⟩) (n - j) (xs.drop (j * size)) := by
  obtain ⟨h1, ⟨h2, _⟩ | ⟨b2, o, cs, et, fz, h3, h4, h5⟩⟩ := h
  · cases h2
  · injection h3 with h3
    injection h3 with g1 g2
    subst g1 g2
    have e : (n - j) * size = n * size - j * size := Nat.sub_mul _ _ _
    refine ⟨by rw [List.length_drop, h1, e], .inr ⟨b, 0 + j * size, cs, et, fz, rfl, h4, ?_⟩⟩
    rw [← h5, e, ← List.drop_drop, List.drop_take]
section
variable {e : Env} {ds : List Deferred} {K : Act → World → Prop} {ρ : Sl} {B : Frag} {H R : HP}
theorem Xx.addrT (A : Option Addr) {et : TypeId} {size n c : Nat} {xs : List Value} [hp : PickS H A et size n c xs R] (hn : 0 < n)
    (h : ∀ b, A = some ⟨b, 0, none⟩ → xs.length = n * size → n ≤ c → Xx e ds K ρ B H) : Xx e ds K ρ B H := fun a w f b s => by
  have s' := s.of_eq hp.eq
  rcases s'.cases_sbuf with ⟨_, h2, _⟩ | ⟨bb, sp, h1, h2, h3, _, _⟩
  · omega
  · exact h bb h1 h2 h3 a w f b s
theorem Cells.buf {N0 b n c size m o : Nat} {xs vs : List Value} {et : TypeId} [hp : PickS H (some ⟨b, 0, none⟩) et size n c xs R] (hv : (xs.drop o).take m = vs) (hm : o + m ≤ xs.length) : Cells N0 B H b o vs := by
  intro w s j v hj
  have s' := s.of_eq hp.eq
  rcases s'.cases_sbuf with ⟨h1, _⟩ | ⟨bb, sp, h1, h2, h3, h4, s2⟩
  · cases h1
  · injection h1 with h1
    injection h1 with h1
    subst h1
    have hv2 : ((xs ++ sp).drop o).take m = vs := by rw [List.drop_append_of_le_length (by omega), List.take_append_of_le_length (by rw [List.length_drop]; omega)]; exact hv
    exact Cells.own (H := blk b (.cells (xs ++ sp).toArray et (0, 0)) * R) rfl hv2 w s2 j v hj
theorem pickSB (A : Option Addr) (b : Nat) {et : TypeId} {size n c : Nat} {xs : List Value} {R1 : HP} {o : Obj} [h1 : PickS H A et size n c xs R1] [h2 : PickB R1 b o R] : H = (sbuf et size A n c xs * blk b o) * R := by
  rw [PickS.eq (H := H) (A := A), h2.eq, star_assoc]
theorem pickS (A : Option Addr) {et : TypeId} {size n c : Nat} {xs : List Value} [h1 : PickS H A et size n c xs R] : H = sbuf et size A n c xs * R := h1.eq
theorem Xx.lessT (b m : Nat) {et : TypeId} {size n c : Nat} {xs : List Value} [hp : PickS H (some ⟨b, 0, none⟩) et size n c xs R] (hm : m ≤ n)
    (h : Xx e ds K ρ B (sbuf et size (some ⟨b, 0, none⟩) m c (xs.take (m * size)) * R)) : Xx e ds K ρ B H :=
  Xx.perm (fun a w f b' s => by
    rcases s.cases_sbuf with ⟨h1, _⟩ | ⟨bb, sp, h1, h2, h3, h4, s2⟩
    · cases h1
    · injection h1 with h1
      injection h1 with h1
      subst h1
      have hle : m * size ≤ n * size := Nat.mul_le_mul_right _ hm
      refine h a w f b' (St.of_sbuf (sp := xs.drop (m * size) ++ sp) (by rw [List.length_take]; omega) (by omega) (by rw [← List.append_assoc, List.take_append_drop]; exact h4) ?_)
      rw [← List.append_assoc, List.take_append_drop]; exact s2) hp.eq
end
end Go.SL
namespace Go.SL
open Go.RowKit
def LKd (e : Env) (I : Nat → List Deferred → Sl → Frag → HP → Prop) (m : Nat) (a : Act) (w : World) : Prop :=
  ∃ m' ds ρ B H, m' < m ∧ I m' ds ρ B H ∧ Fr ρ e.nt ds a ∧ Below e.N0 e.w0 w ∧ St e.N0 B H w
section
variable {e : Env} {ds : List Deferred} {Q : Exit → Act → World → Prop} {ρ ρ' : Sl} {B : Frag} {H : HP}
theorem Xx.againD {I : Nat → List Deferred → Sl → Frag → HP → Prop} {m m' : Nat} (hi : I m' ds ρ' B H) (hm : m' < m) (hs : Sub ρ ρ') : Xx e ds (LKd e I m) ρ B H := fun _ _ f b s => ⟨m', ds, ρ', B, H, hm, hi, f.sub hs, b, s⟩
open Classical in
theorem Cx.loopD {c : Code} (I : Nat → List Deferred → Sl → Frag → HP → Prop) {m : Nat} (h0 : I m ds ρ' B H) (hs : Sub ρ ρ')
    (round : ∀ m ds ρ B H, I m ds ρ B H → Cx e ds c (Exit.then (LKd e I m) Q) ρ B H) : Cx e ds (.loop c) Q ρ B H := by
  intro a w f b s
  let J : Nat → Act → World → Prop := fun m a w => ∃ ds ρ B H, I m ds ρ B H ∧ Fr ρ e.nt ds a ∧ Below e.N0 e.w0 w ∧ St e.N0 B H w
  let μ : Act → World → Nat := fun a w => if h : ∃ m, J m a w then Classical.choose (least h) else 0
  have hμ : ∀ m a w, J m a w → μ a w ≤ m ∧ J (μ a w) a w := by
    intro m a w h
    have hex : ∃ m, J m a w := ⟨m, h⟩
    simp only [μ, dif_pos hex]
    have := Classical.choose_spec (least hex)
    exact ⟨this.2 m h, this.1⟩
  refine wpIn_loop (fun a w => ∃ m, J m a w) μ ⟨m, ds, ρ', B, H, h0, f.sub hs, b, s⟩ ?_
  rintro a w ⟨m, hm⟩
  obtain ⟨_, ds1, ρ1, B1, H1, hi, f1, b1, s1⟩ := hμ m a w hm
  refine wpIn_mono (round _ ds1 ρ1 B1 H1 hi a w f1 b1 s1) fun ex a' w' q => ?_
  cases ex with
  | normal =>
    obtain ⟨m', ds2, ρ2, B2, H2, hlt, hi2, f2, b2, s2⟩ := q
    have hj : J m' a' w' := ⟨ds2, ρ2, B2, H2, hi2, f2, b2, s2⟩
    exact ⟨⟨m', hj⟩, Nat.lt_of_le_of_lt (hμ m' a' w' hj).1 hlt⟩
  | exit id => exact q
  | goto l => exact q
  | ret => exact q
  | panic c => exact q
  | outgrown => exact q
abbrev KD (σ : Sl) (I : Nat → List Nat → Sl → Frag → HP → Prop) : Nat → List Deferred → Sl → Frag → HP → Prop :=
  fun m ds ρ B H => ∃ Ds ρ', ds = List.map mark Ds ∧ ρ = ρ' ++ σ ∧ I m Ds ρ' B H
theorem Cx.loopKD {c : Code} {σ : Sl} (hσ : Sub ρ σ) (I : Nat → List Nat → Sl → Frag → HP → Prop) {m : Nat} (Ds : List Nat) (hds : ds = List.map mark Ds) (h0 : I m Ds ρ' B H) (hs : Sub ρ (ρ' ++ σ))
    (round : ∀ m Ds ρ' B H, I m Ds ρ' B H → Cx e (List.map mark Ds) c (Exit.then (LKd e (KD σ I) m) Q) (ρ' ++ σ) B H) : Cx e ds (.loop c) Q ρ B H :=
  Cx.loopD (KD σ I) ⟨Ds, ρ', hds, rfl, h0⟩ hs fun m ds ρ B H ⟨Ds, ρ', h1, h2, h3⟩ => by subst h1; subst h2; exact round m Ds ρ' B H h3
theorem Xx.againKD {σ : Sl} {I : Nat → List Nat → Sl → Frag → HP → Prop} {m m' : Nat} (Ds : List Nat) (hds : ds = List.map mark Ds) (hi : I m' Ds ρ' B H) (hm : m' < m) (hs : Sub ρ (ρ' ++ σ)) : Xx e ds (LKd e (KD σ I) m) ρ B H :=
  Xx.againD ⟨Ds, ρ', hds, rfl, hi⟩ hm hs
theorem Xx.eM {P : Program} {r : Option Nat} {N0 nt : Nat} {w0 : World} {B0 : Frag} {H' R : HP} {fn : Func} {Φ : Value → Frag → HP → Prop} {v : Value} (Ds : List Nat) (hds : ds = List.map mark Ds) (hr : ∀ a w, Fr ρ nt ds a → St N0 B (H' * R) w → (results fn a.tmps).run P w = .ok v w)
    (hΦ : Φ v B H') (hB : B0.le B) (hH : H = marks Ds * (H' * R)) : Xx ⟨P, r, N0, w0, nt⟩ ds (bodyPostM (FW none) 0 P fn (Fin N0 w0 R B0 Φ) .normal) ρ B H := by
  subst hds
  exact Xx.rM hr hΦ hB hH
theorem marks_cons (D : Nat) (l : List Nat) : marks (D :: l) = blk D dfr * marks l := rfl
theorem marks_nil : marks [] = 1 := rfl
end
section
variable {e : Env} {ds : List Deferred} {ρ : Sl} {B : Frag} {H R : HP} {t tx et et' ty tyx : TypeId} {x y : Operand} {size bytes nl nx c cx b o : Nat} {zs news cs cs' : List Value} {Ax : Option Addr}
theorem apR (ht : e.P.underlying t = some (.slice et)) (htx : e.P.underlying tx = some (.slice tyx)) (hz : TI e.P et zs size bytes)
    (hx : ev ρ x = some (.slice (some ⟨b, o, none⟩) nl c)) (hy : ev ρ y = some (.slice Ax nx cx)) [hp : PickB H b (.cells cs.toArray et (0, 0)) R]
    (hS : SrcH e.N0 B H Ax news) (hl : news.length = nx * size) (h1 : news.all (·.oneCell') = true) (hroom : nl + nx ≤ c) (hfit : o + nl * size + news.length ≤ cs.length) (hr : cs.take (o + nl * size) ++ news ++ cs.drop (o + nl * size + news.length) = cs') :
    Ox e ds (.call { callee := .builtin .append, args := #[x, y], argTypes := #[t, tx] }) ty ρ B H (fun v B' H' => v = .slice (some ⟨b, o, none⟩) (nl + nx) c ∧ B' = B ∧ H' = row b et cs' * R) :=
  .of_run (fun _ h => by cases h) fun f w dst pos after guard he s => by
    subst hr
    obtain ⟨i, zv, z1, z2, z3, z4, z5, z6, z7⟩ := hz
    have s' : St e.N0 B (blk b (.cells cs.toArray et (0, 0)) * R) w := hp.eq ▸ s
    have hfc := St.src (P := e.P) (nx := nx) hS hl s nx cx
    have hst := run_storeCells_at (P := e.P) b (o + nl * size) et news 0 cs.toArray w s'.blk.1 (by simpa using hfit) (by simpa using h1)
    simp only [List.toList_toArray, Nat.add_zero] at hst
    have hap : (Builtin.append_ #[t, tx] ty #[.slice (some ⟨b, o, none⟩) nl c, .slice Ax nx cx]).run e.P w = .ok (.slice (some ⟨b, o, none⟩) (nl + nx) c) (w.setRow b (cs.take (o + nl * size) ++ news ++ cs.drop (o + nl * size + news.length)).toArray) := by
      simp only [Builtin.append_, Sem.run_bind, Sem.run_pure, Result.andThen, run_underlying ht, run_underlying htx, sizeOf, typeInfo, run_program, z1, z4, Builtin.lenOf, hroom, if_true, hfc, add_mk, hst, List.getElem?_toArray, List.getElem?_cons_zero, List.getElem?_cons_succ]
      simp [hroom, hfc, hst]
    refine ⟨_, _, B, _, ?_, ⟨rfl, rfl, rfl⟩, Frag.le_refl _, (s'.setRow _).2, (s'.setRow _).1⟩
    simp [execOp, resolve, he _ _ hx, he _ _ hy, invoke, builtin, hap]
theorem sl4V {P : Program} {S : World → Prop} {A : Option Addr} {n : Nat} {lo hi mx : Operand} {k1 k2 k3 : IntKind} {m z q : Int} (ht : P.underlying t = some (.slice et)) (hs : (P.info? et).map (·.size) = some size) (hx : ev ρ x = some (.slice A n c))
    (hl : ev ρ lo = some (.int k1 m)) (hh : ev ρ hi = some (.int k2 z)) (hm : ev ρ mx = some (.int k3 q)) (h0 : 0 ≤ m) (h1 : m ≤ z) (h2 : z ≤ q) (h3 : q ≤ c) :
    Yx P (.slice t x (some lo) (some hi) (some mx)) ty ρ S (.slice (subA A q.toNat m.toNat size) (z.toNat - m.toNat) (q.toNat - m.toNat)) := .of (fun _ h => by cases h) fun f w _ _ _ _ he _ => by
  have g1 : m ≤ (z.toNat : Int) := by omega
  have g2 : z ≤ (q.toNat : Int) := by omega
  have g3 : 0 ≤ z := by omega
  have g4 : 0 ≤ q := by omega
  have hb : (Instr.sliceBounds true n c (some (.int k1 m)) (some (.int k2 z)) (some (.int k3 q))).run P w = .ok (m.toNat, z.toNat, q.toNat) w := by
    simp [Instr.sliceBounds, Instr.sliceBound, asIntOf, h0, h1, h2, h3, g1, g2, g3, g4]
    rw [show max q 0 = q by omega, show max z 0 = z by omega, if_pos h2, if_pos h1]
  cases hq : P.info? et with
  | none => simp [hq] at hs
  | some i =>
    have hi' : i.size = size := by simpa [hq] using hs
    have : (Instr.sliceAt t (.slice A n c) (some (.int k1 m)) (some (.int k2 z)) (some (.int k3 q))).run P w = .ok (.slice (subA A q.toNat m.toNat size) (z.toNat - m.toNat) (q.toNat - m.toNat)) w := by
      simp only [Instr.sliceAt, Sem.run_bind, run_underlying ht, Result.andThen, Instr.slice, hb, sizeOf, typeInfo, run_program, hq, hi', Sem.run_pure, subA]
    simp only [execOp, Option.map_some, he _ _ hx, he _ _ hl, he _ _ hh, he _ _ hm, Sem.run_bind, this, Result.andThen, Sem.run_pure]
theorem SrcH.sub {N0 j n : Nat} {xs sp : List Value} {fz : Nat × Nat} [hp : PickB H b (.cells (xs ++ sp).toArray et fz) R] (hx : xs.length = n * size) (hj : j ≤ n) (hn : n ≤ c) : SrcH N0 B H (subA (some ⟨b, 0, none⟩) c j size) (xs.drop (j * size)) := by
  by_cases e : c = j
  · exact .inl (List.drop_of_length_le (by rw [hx]; exact Nat.mul_le_mul_right _ (by omega)))
  · have e9 : subA (some ⟨b, 0, none⟩) c j size = some ⟨b, 0 + j * size, none⟩ := by
      unfold subA; rw [if_neg e]; simp [add_mk]
    rw [e9]
    have hle : j * size ≤ n * size := Nat.mul_le_mul_right _ hj
    refine SrcH.own (n * size - j * size) ?_
    rw [Nat.zero_add, List.drop_append_of_le_length (by omega), List.take_append_of_le_length (by rw [List.length_drop]; omega), List.take_of_length_le (by rw [List.length_drop]; omega)]
theorem sl3A {P : Program} {S : World → Prop} {n : Nat} {lo hi : Operand} {k1 k2 : IntKind} {m z : Int} (i j : Nat) (ht : P.underlying t = some (.slice et)) (hs : (P.info? et).map (·.size) = some size) (hx : ev ρ x = some (.slice (some ⟨b, o, none⟩) n c)) (hl : ev ρ lo = some (.int k1 m)) (hh : ev ρ hi = some (.int k2 z)) (hi' : m = (i : Nat)) (hj : z = (j : Nat)) (h1 : i ≤ j) (h2 : j ≤ c) (h3 : i < c) :
    Yx P (.slice t x (some lo) (some hi) none) ty ρ S (.slice (some ⟨b, o + i * size, none⟩) (j - i) (c - i)) := by
  subst hi' hj
  have h := sl3V (P := P) (S := S) (ty := ty) ht hs hx hl hh (i := i) (j := j) (Int.toNat_natCast i) (Int.toNat_natCast j) (by omega) (by omega) (by omega)
  have e9 : subA (some ⟨b, o, none⟩) c i size = some ⟨b, o + i * size, none⟩ := by
    unfold subA; rw [if_neg (by omega)]; simp [add_mk]
  rw [e9] at h; exact h
theorem clO {k : Nat} (ht : e.P.underlying t = some (.slice et)) (hz : TI e.P et zs size bytes) (hx : ev ρ x = some (.slice (some ⟨b, o, none⟩) k c)) [hp : PickB H b (.cells cs.toArray et (0, 0)) R]
    (hk : 0 < k) (h1 : zs.all (·.oneCell') = true) (hfit : o + k * size ≤ cs.length) :
    Ox e ds (.call { callee := .builtin .clear, args := #[x], argTypes := #[t] }) ty ρ B H (fun v B' H' => v = .tuple #[] ∧ B' = B ∧ ∃ zz : List Value, zz.length = k * size ∧ H' = row b et (cs.take o ++ zz ++ cs.drop (o + k * size)) * R) :=
  .of_run (fun _ h => by cases h) fun f w dst pos after guard he s => by
    obtain ⟨i, zv, z1, z2, z3, z4, z5, z6, z7⟩ := hz
    have s' : St e.N0 B (blk b (.cells cs.toArray et (0, 0)) * R) w := hp.eq ▸ s
    obtain ⟨zz, hzz, hzl, hz1⟩ : ∃ zz : List Value, (Builtin.zeroCells zv.cells k).toList = zz ∧ zz.length = k * size ∧ zz.all (·.oneCell') = true := by
      refine ⟨_, rfl, by simp [Builtin.zeroCells, z3, z6], ?_⟩
      rw [List.all_eq_true] at h1 ⊢
      intro v hv
      simp only [Builtin.zeroCells, z3] at hv
      simp at hv
      obtain ⟨q, _, rfl⟩ := hv
      have hq : q % zs.length < zs.length := Nat.mod_lt _ (by omega)
      rw [List.getElem?_eq_getElem hq]
      exact h1 _ (List.getElem_mem hq)
    have hst := run_storeCells_at (P := e.P) b o et zz 0 cs.toArray w s'.blk.1 (by rw [hzl]; simpa using hfit) (by simpa using hz1)
    simp only [List.toList_toArray, Nat.add_zero, hzl] at hst
    obtain ⟨k, rfl⟩ : ∃ k', k = k' + 1 := ⟨k - 1, by omega⟩
    have hcl : (Builtin.clear_ #[t] ty #[.slice (some ⟨b, o, none⟩) (k + 1) c]).run e.P w = .ok (.tuple #[]) (w.setRow b (cs.take o ++ zz ++ cs.drop (o + (k + 1) * size)).toArray) := by
      simp [Builtin.clear_, run_underlying ht, zeroValue, typeInfo, z1, z2, hzz, hst]
    refine ⟨_, _, B, _, ?_, ⟨rfl, rfl, zz, hzl, rfl⟩, Frag.le_refl _, (s'.setRow _).2, (s'.setRow _).1⟩
    simp [execOp, resolve, he _ _ hx, invoke, builtin, hcl]
theorem bslZ (ht : e.P.underlying t = some (.slice et)) (hz : TI e.P et zs size bytes) :
    Ox e ds (.buildSlice t 0 #[]) ty ρ B H (fun v B' H' => ∃ b, v = .slice (some ⟨b, 0, none⟩) 0 0 ∧ B' = B ∧ H' = sbuf et size (some ⟨b, 0, none⟩) 0 0 [] * H) :=
  have h := bslO (e := e) (ds := ds) (ρ := ρ) (B := B) (H := H) (ty := ty) (parts := #[]) (vs := []) (len := 0) ht hz rfl rfl (fun v hv => by cases hv) (by omega)
  ⟨h.1, fun a w dst pos after guard K Q f b s k => h.2 a w dst pos after guard K Q f b s fun v B' H' w' ⟨b1, e1, e2, e3⟩ hB hb hs => k v B' _ w' ⟨b1, e1, e2, rfl⟩ hB hb (by
    subst e3
    exact St.of_sbuf (xs := []) (sp := []) (by simp) (Nat.le_refl _) (by simp) hs)⟩
theorem appB {A : Option Addr} {xs : List Value} (n' : Nat) (xs' : List Value) (ht : e.P.underlying t = some (.slice et)) (htx : e.P.underlying tx = some (.slice tyx)) (hz : TI e.P et zs size bytes)
    (hx : ev ρ x = some (.slice A nl c)) (hy : ev ρ y = some (.slice Ax nx cx)) [hp : PickS H A et size nl c xs R] (hs : RoS B size Ax nx news) (h1 : news.all (·.oneCell') = true)
    (hb : nl + nx ≤ 9223372036854775807) (hbb : (nl + nx) * bytes ≤ 140737488355328) (hn : nl + nx = n') (hxs : xs ++ news = xs') :
    Ox e ds (.call { callee := .builtin .append, args := #[x, y], argTypes := #[t, tx] }) ty ρ B H
      (fun v B' H' => ∃ A' c', v = .slice A' n' c' ∧ (0 < n' → ∃ b, A' = some ⟨b, 0, none⟩) ∧ n' ≤ c' ∧ B' = B ∧ H' = sbuf et size A' n' c' xs' * R) := by
  subst hn hxs
  have h := appO (e := e) (ds := ds) (ρ := ρ) (B := B) (H := H) (ty := ty) (R := R) (p := 1) ht htx hz hx hy (hs.src 1) h1 (by rw [one_star]; exact hp.eq) hb hbb
  exact ⟨h.1, fun a w dst pos after guard K Q f b s k => h.2 a w dst pos after guard K Q f b s fun v B' H' w' ⟨A', c', e1, e2, e3, e4, e5, e6⟩ hB hb hs => k v B' _ w' ⟨A', c', e1, e2, e4, e5, rfl⟩ hB hb (by rw [e6, one_star] at hs; exact hs)⟩
theorem RoS.take {B : Frag} {n j : Nat} {A : Option Addr} {xs : List Value} (h : RoS B size A n xs) (hj : j ≤ n) : RoS B size A j (xs.take (j * size)) := by
  have hle : j * size ≤ n * size := Nat.mul_le_mul_right _ hj
  obtain ⟨h1, ⟨h2, h3⟩ | ⟨b2, o, cs, et, fz, h3, h4, h5⟩⟩ := h
  · exact ⟨by rw [List.length_take]; omega, .inl ⟨h2, by omega⟩⟩
  · exact ⟨by rw [List.length_take]; omega, .inr ⟨b2, o, cs, et, fz, h3, h4, by rw [← h5, List.take_take, Nat.min_eq_left hle]⟩⟩
theorem RoS.sub {B : Frag} {n j c : Nat} {A : Option Addr} {xs : List Value} (h : RoS B size A n xs) (hj : j ≤ n) (hn : n ≤ c) : RoS B size (subA A c j size) (n - j) (xs.drop (j * size)) := by
  have hle : j * size ≤ n * size := Nat.mul_le_mul_right _ hj
  have e : (n - j) * size = n * size - j * size := Nat.sub_mul _ _ _
  obtain ⟨h1, ⟨h2, h3⟩ | ⟨b2, o, cs, et, fz, h3, h4, h5⟩⟩ := h
  · subst h2
    exact ⟨by rw [List.length_drop]; omega, .inl ⟨subA_none _ _ _, by omega⟩⟩
  · subst h3
    refine ⟨by rw [List.length_drop]; omega, .inr ?_⟩
    by_cases hc : c = j
    · have hnj : n = j := by omega
      refine ⟨b2, o, cs, et, fz, by unfold subA; rw [if_pos hc], h4, ?_⟩
      subst hnj
      rw [Nat.sub_self, Nat.zero_mul, List.take_zero, List.drop_of_length_le (by omega)]
    · refine ⟨b2, o + j * size, cs, et, fz, by unfold subA; rw [if_neg hc]; simp [add_mk], h4, ?_⟩
      rw [← h5, e, ← List.drop_drop, List.drop_take]
end
end Go.SL
namespace Go.Proofs.YtdidpocakipinaaGreatDoor
open Go.SL Go.RowKit
set_option maxRecDepth 100000
open Ke1 Ke3 Ke4 Ke5 Ke6 Ke7 Ke8 Ke9 KeA KeB KeC KeD KeE KeF KeG KeI
namespace RgA
theorem sz9 : (Tryz.prog.info? 9).map (·.size) = some 1 := by kernel_rfl
theorem sz25 : (Tryz.prog.info? 25).map (·.size) = some 6 := by kernel_rfl
theorem sz39 : (Tryz.prog.info? 39).map (·.size) = some 6 := by kernel_rfl
theorem ti25 : TI Tryz.prog 25 [.int .i64 0, .bool false, .int .i64 0, str [], .slice none 0 0, .slice none 0 0] 6 88 := TI.of (by kernel_rfl) rfl rfl
theorem ti39 : TI Tryz.prog 39 [.int .i64 0, .bool false, .int .i64 0, str [], .slice none 0 0, .slice none 0 0] 6 88 := TI.of (by kernel_rfl) rfl rfl
theorem fo25_0 : FO Tryz.prog 25 0 0 1 false := FO.of U25 rfl rfl (by kernel_rfl) U3 rfl rfl
theorem fo25_4 : FO Tryz.prog 25 4 4 1 false := FO.of U25 rfl rfl (by kernel_rfl) U22 rfl rfl
theorem fo25_5 : FO Tryz.prog 25 5 5 1 false := FO.of U25 rfl rfl (by kernel_rfl) U23 rfl rfl
theorem fo39_0 : FO Tryz.prog 39 0 0 1 false := FO.of U39 rfl rfl (by kernel_rfl) U3 rfl rfl
theorem fo39_4 : FO Tryz.prog 39 4 4 1 false := FO.of U39 rfl rfl (by kernel_rfl) U37 rfl rfl
theorem fo39_5 : FO Tryz.prog 39 5 5 1 false := FO.of U39 rfl rfl (by kernel_rfl) U23 rfl rfl
theorem pl25 : PL Tryz.prog 25 [(0, 1), (1, 1), (2, 1), (3, 1), (4, 1), (5, 1)] := PL.of U25 (by kernel_rfl)
theorem pl39 : PL Tryz.prog 39 [(0, 1), (1, 1), (2, 1), (3, 1), (4, 1), (5, 1)] := PL.of U39 (by kernel_rfl)
def Srt (ks : List (List UInt8)) : Prop := ks.Pairwise (fun a b => bless a b = true)
theorem Srt.lt {ks : List (List UInt8)} (h : Srt ks) {i j : Nat} (hj : j < ks.length) (hij : i < j) : bless (ks[i]'(by omega)) ks[j] = true := List.pairwise_iff_getElem.1 h i j (by omega) hj hij
def lb : List (List UInt8) → List UInt8 → Nat
  | [], _ => 0
  | k :: ks, t => if bless k t = true then lb ks t + 1 else 0
theorem lb_eq : ∀ (ks : List (List UInt8)) (t : List UInt8) (i : Nat), i ≤ ks.length → (∀ j (hj : j < ks.length), j < i → bless ks[j] t = true) → (∀ h : i < ks.length, bless ks[i] t = false) → lb ks t = i := by
  intro ks t
  induction ks with
  | nil => intro i h _ _; simp at h; subst h; rfl
  | cons k ks ih =>
    intro i h h1 h2
    unfold lb
    cases i with
    | zero => rw [if_neg]; have := h2 (by simp); simp at this; simp [this]
    | succ i =>
      rw [if_pos (by have := h1 0 (by simp) (by omega); simpa using this)]
      rw [ih i (by simpa using h) (fun j hj hji => by have := h1 (j + 1) (by simp; omega) (by omega); simpa using this) (fun h => by have := h2 (by simp; omega); simpa using this)]
theorem mem_at {ks : List (List UInt8)} {t : List UInt8} {i : Nat} (hs : Srt ks) (h1 : ∀ j (hj : j < ks.length), j < i → bless ks[j] t = true) (h2 : ∀ j (hj : j < ks.length), i ≤ j → bless ks[j] t = false) : t ∈ ks ↔ ∃ h : i < ks.length, ks[i] = t := by
  constructor
  · intro hm
    obtain ⟨j, hj, rfl⟩ := List.getElem_of_mem hm
    rcases Nat.lt_trichotomy j i with h | h | h
    · have := h1 j hj h; rw [bless_irrefl] at this; cases this
    · subst h; exact ⟨hj, rfl⟩
    · have e1 := hs.lt hj h
      have e2 := h2 i (by omega) (Nat.le_refl _)
      rw [e1] at e2; cases e2
  · rintro ⟨h, rfl⟩; exact List.getElem_mem h
theorem mid_val {i j : Nat} (h : i + j < 9223372036854775808) : IntKind.i64.wrap ((((BitVec.ofInt 64 ((i + j : Nat) : Int)) >>> 1).toNat : Nat) : Int) = (((i + j) / 2 : Nat) : Int) := by
  have e : (BitVec.ofInt 64 ((i + j : Nat) : Int)).toNat = i + j := by rw [BitVec.toNat_ofInt]; simp only [Nat.reducePow]; omega
  rw [BitVec.toNat_ushiftRight, Nat.shiftRight_eq_div_pow, e, wrap64 (by omega) (by omega)]
theorem roe_str {B : Frag} {A : Option Addr} {n : Nat} {ks : List (List UInt8)} (h : RoE B A n (ks.map str)) {k : Nat} (hk : k < ks.length) (hn : ks.length = n) : ∃ b o cs et fz, A = some ⟨b, o, none⟩ ∧ B b = some (.cells (List.toArray cs) et fz) ∧ cs[o + k * 1]? = some (str ks[k]) := by
  obtain ⟨b, o, cs, et, fz, h1, h2, h3⟩ := h.at1 (k := k) (by omega)
  exact ⟨b, o, cs, et, fz, h1, h2, by rw [h3]; simp [hk]⟩
set_option maxHeartbeats 1000000 in
theorem NaN_ct (s : List UInt8) (B : Frag) : CtP Tryz.prog 83 [str s] B (.bool false) := by
  refine CtB.of_body Tryz.func83 rfl (nt := 6) rfl (by kernel_rfl) rfl ?_
  intro N0 w0 R
  refine Cx.seq (fun K1 k1 => ?_)
  refine Cx.region <| Lx.y (asg rfl) rfl <| Lx.nil <| ?_
  refine Xx.tn (k1 _ _ _ _ ?_)
  refine Cx.seq (fun K2 k2 => ?_)
  refine Cx.region <| Lx.y (mv rfl) rfl <| Lx.y (mv rfl) rfl <| Lx.y (Yx.ff (neS rfl rfl) (by simp)) rfl <| Lx.y (asg rfl) rfl <| Lx.nil <| ?_
  refine Xx.tn (k2 _ _ _ _ ?_)
  refine Cx.ret ?_
  exact Xx.rB1 rfl rfl ⟨rfl, rfl⟩ (Frag.le_refl _) rfl
set_option maxHeartbeats 1000000 in
theorem nanS_ct (s : List UInt8) (B : Frag) : CtP Tryz.prog 101 [str s] B (.bool false) := by
  refine CtB.of_body Tryz.func101 rfl (nt := 6) rfl (by kernel_rfl) rfl ?_
  intro N0 w0 R
  refine Cx.seq (fun K1 k1 => ?_)
  refine Cx.region <| Lx.y (asg rfl) rfl <| Lx.nil <| ?_
  refine Xx.tn (k1 _ _ _ _ ?_)
  refine Cx.seq (fun K2 k2 => ?_)
  refine Cx.region <| Lx.y (mv rfl) rfl <| Lx.y (mv rfl) rfl <| Lx.y (Yx.ff (neS rfl rfl) (by simp)) rfl <| Lx.y (asg rfl) rfl <| Lx.nil <| ?_
  refine Xx.tn (k2 _ _ _ _ ?_)
  refine Cx.ret ?_
  exact Xx.rB1 rfl rfl ⟨rfl, rfl⟩ (Frag.le_refl _) rfl
set_option maxHeartbeats 1000000 in
theorem Less_ct (s t : List UInt8) (r : Bool) (B : Frag) (h : bless s t = r) : CtP Tryz.prog 82 [str s, str t] B (.bool r) := by
 refine CtB.of_body Tryz.func82 rfl (nt := 17) rfl (by kernel_rfl) rfl ?_
 intro N0 w0 R
 refine Cx.seq (fun K1 k1 => ?_)
 refine Cx.region <| Lx.y (asg rfl) rfl <| Lx.nil <| ?_
 refine Xx.tn (k1 _ _ _ _ ?_)
 refine Cx.seq (fun K2 k2 => ?_)
 refine Cx.region <| Lx.y (mv rfl) rfl <| ?_
 refine Lx.cp rfl rfl rfl (nanS_ct _ _) rfl ?_
 refine Lx.y (mv rfl) rfl <| Lx.gF rfl rfl rfl rfl <| Lx.gF rfl rfl rfl rfl <| Lx.gF rfl rfl rfl rfl <| Lx.y (pickF rfl rfl) rfl <| Lx.y (mv rfl) rfl <| Lx.gT rfl rfl rfl <| Lx.y (mv rfl) rfl <| Lx.gT rfl rfl rfl <| Lx.y (mv rfl) rfl <| Lx.gT rfl rfl rfl <| Lx.y (lssS rfl rfl) rfl <| ?_
 refine Lx.y (pickF rfl rfl) rfl <| Lx.y (asg rfl) rfl <| Lx.nil <| ?_
 refine Xx.tn (k2 _ _ _ _ ?_)
 refine Cx.ret ?_
 exact Xx.rB1 rfl rfl ⟨congrArg Value.bool h, rfl⟩ (Frag.le_refl _) rfl
set_option maxHeartbeats 1000000 in
theorem BS_ct (ks : List (List UInt8)) (t : List UInt8) (A : Option Addr) (c : Nat) (B : Frag) (hR : RoE B A ks.length (ks.map str)) (hs : Srt ks) (hn : ks.length ≤ 4611686018427387904) : CtP Tryz.prog 65 [.slice A ks.length c, str t] B (.tuple #[i64 (lb ks t : Nat), .bool (decide (t ∈ ks))]) := by
 refine CtB.of_body Tryz.func65 rfl (nt := 54) rfl (by kernel_rfl) rfl ?_
 intro N0 w0 R
 refine Cx.seq (fun K1 k1 => ?_)
 refine Cx.region <| Lx.y (asg rfl) rfl <| Lx.y (asg rfl) rfl <| Lx.nil <| ?_
 refine Xx.tn (k1 _ _ _ _ ?_)
 refine Cx.seq (fun K2 k2 => ?_)
 refine Cx.region <| Lx.y (mv rfl) rfl <| Lx.y (lenV (ty' := 0) U23 rfl) rfl <| Lx.y (asg rfl) rfl <| Lx.nil <| ?_
 refine Xx.tn (k2 _ _ _ _ ?_)
 refine Cx.seq (fun K3 k3 => ?_)
 refine Cx.region <| Lx.y (mv rfl) rfl <| Lx.y (asg rfl) rfl <| Lx.y (asg rfl) rfl <| Lx.nil <| ?_
 refine Xx.tn (k3 _ _ _ _ ?_)
 refine Cx.seq (fun K4 k4 => ?_)
 refine Cx.block ?_
 refine Cx.loopK (Sc 0 rfl (Sc 1 rfl (Sc 4 rfl (Sc 5 rfl (Sc 6 rfl (Sc 10 rfl (Sc 11 rfl (Sc 12 rfl (Sub.nil _))))))))) (fun m ρ' B' H' => ∃ (i j : Nat), (i ≤ j ∧ j ≤ ks.length ∧ (∀ k (hk : k < ks.length), k < i → bless ks[k] t = true) ∧ (∀ k (hk : k < ks.length), j ≤ k → bless ks[k] t = false)) ∧ m = j - i ∧ ρ' = [(7, i64 i), (8, i64 j)] ∧ B = B' ∧ R = H') ⟨0, ks.length, ⟨Nat.zero_le _, Nat.le_refl _, fun k _ h => absurd h (by omega), fun k hk h => absurd h (by omega)⟩, rfl, rfl, rfl, rfl⟩ (Sc 7 rfl (Sc 8 rfl (Sc 0 rfl (Sc 1 rfl (Sc 4 rfl (Sc 5 rfl (Sc 6 rfl (Sc 10 rfl (Sc 11 rfl (Sc 12 rfl (Sub.nil _))))))))))) ?_
 rintro m ρ' B' H' ⟨i, j, ⟨hij, hjn, hlo, hhi⟩, rfl, rfl, rfl, rfl⟩
 refine Cx.seq (fun K5 k5 => ?_)
 refine Cx.seq (fun K6 k6 => ?_)
 refine Cx.region <| Lx.y (mv rfl) rfl <| Lx.y (mv rfl) rfl <| Lx.y (lss rfl rfl) rfl <| Lx.nil <| ?_
 refine Xx.tn (k6 _ _ _ _ ?_)
 refine Cx.condD rfl (fun h7 => ?_) (fun h7 => ?_)
 ·
  have hlt := h7
  have hm : (i + j) / 2 < ks.length := by omega
  obtain ⟨b, o, cs0, et0, fz0, rfl, hB0, hv0⟩ := roe_str hR hm rfl
  refine Cx.skip ?_
  refine Xx.tn (k5 _ _ _ _ ?_)
  refine Cx.block ?_
  refine Cx.seq (fun K8 k8 => ?_)
  refine Cx.region <| Lx.y (mv rfl) rfl <| Lx.y (mv rfl) rfl <| Lx.y (Yx.val (add rfl rfl (by first | exact wrap64 (by omega) (by omega) | rfl)) (show _ = i64 (i + j : Nat) from rfl)) rfl <| Lx.y (cvW64 rfl U3 U102) rfl <| Lx.y (shrW64 (c := 1) rfl rfl rfl) rfl <| Lx.y (Yx.val (cvI rfl U102 U3 (mid_val (by omega))) (show _ = i64 ((i + j) / 2 : Nat) from rfl)) rfl <| Lx.y (asg rfl) rfl <| Lx.nil <| ?_
  refine Xx.tn (k8 _ _ _ _ ?_)
  refine Cx.seq (fun K9 k9 => ?_)
  refine Cx.region <| Lx.y (mv rfl) rfl <| Lx.y (mv rfl) rfl <| Lx.y (ia U23 sz9 rfl rfl (by first | exact Int.toNat_natCast _ | rfl) (by omega) (by omega)) rfl <| Lx.y (ldB U9 rfl rfl hB0 hv0) rfl <| Lx.y (mv rfl) rfl <| ?_
  refine Lx.cp rfl rfl rfl (Less_ct ks[(i + j) / 2] t _ _ rfl) rfl ?_
  refine Lx.nil ?_
  refine Xx.tn (k9 _ _ _ _ ?_)
  refine Cx.condB rfl (fun h10 => ?_) (fun h10 => ?_)
  ·
   have hb := h10
   refine Cx.region <| Lx.y (mv rfl) rfl <| Lx.y (Yx.val (add rfl rfl (by first | exact wrap64 (by omega) (by omega) | rfl)) (show _ = i64 ((i + j) / 2 + 1 : Nat) from rfl)) rfl <| Lx.y (asg rfl) rfl <| Lx.nil <| Xx.bn <| ?_
   exact Xx.againK ⟨(i + j) / 2 + 1, j, ⟨by omega, hjn, fun k hk hki => by
 by_cases e : k = (i + j) / 2
 ·subst e; exact hb
 ·exact bless_trans (hs.lt hm (by omega)) hb, hhi⟩, rfl, rfl, rfl, rfl⟩ (by omega) (Sc 7 rfl (Sub.consE (s := 8) rfl (rfl) (Sc 0 rfl (Sc 1 rfl (Sc 4 rfl (Sc 5 rfl (Sc 6 rfl (Sc 10 rfl (Sc 11 rfl (Sc 12 rfl (Sub.nil _)))))))))))
  ·
   have hb := h10
   refine Cx.region <| Lx.y (mv rfl) rfl <| Lx.y (asg rfl) rfl <| Lx.nil <| Xx.bn <| ?_
   exact Xx.againK ⟨i, (i + j) / 2, ⟨by omega, by omega, hlo, fun k hk hki => by
 by_cases e : k = (i + j) / 2
 ·subst e; exact hb
 ·cases h2 : bless ks[k] t with
  | false => rfl
  | true => rw [bless_trans (hs.lt hk (show (i + j) / 2 < k by omega)) h2] at hb; cases hb⟩, rfl, rfl, rfl, rfl⟩ (by omega) (Sub.consE (s := 7) rfl (rfl) (Sc 8 rfl (Sc 0 rfl (Sc 1 rfl (Sc 4 rfl (Sc 5 rfl (Sc 6 rfl (Sc 10 rfl (Sc 11 rfl (Sc 12 rfl (Sub.nil _)))))))))))
 ·
  obtain rfl : i = j := by have := h7; omega
  have hlb := lb_eq ks t i hjn hlo (fun h => hhi i h (Nat.le_refl _))
  have hmem := mem_at hs hlo hhi
  refine Cx.exit <| Xx.te <| Xx.te <| Xx.bh <| ?_
  refine Xx.tn (k4 _ _ _ _ ?_)
  refine Cx.seq (fun K11 k11 => ?_)
  refine Cx.region <| Lx.y (mv rfl) rfl <| Lx.y (mv rfl) rfl <| Lx.y (mv rfl) rfl <| Lx.y (lss rfl rfl) rfl <| Lx.y (mv rfl) rfl <| ?_
  refine Xx.ifD (t := 35) rfl (fun h12 => ?_) (fun h12 => ?_)
  ·
   have hin := h12
   have hin : i < ks.length := by omega
   obtain ⟨b, o, cs0, et0, fz0, rfl, hB0, hv0⟩ := roe_str hR hin rfl
   refine Lx.gT rfl rfl rfl <| Lx.y (mv rfl) rfl <| Lx.gT rfl rfl rfl <| Lx.y (mv rfl) rfl <| Lx.gT rfl rfl rfl <| Lx.y (ia U23 sz9 rfl rfl (by first | exact Int.toNat_natCast _ | rfl) (by omega) (by omega)) rfl <| Lx.gT rfl rfl rfl <| Lx.y (ldB U9 rfl rfl hB0 hv0) rfl <| Lx.gT rfl rfl rfl <| Lx.y (mv rfl) rfl <| Lx.gT rfl rfl rfl <| Lx.y (eqS rfl rfl) rfl <| ?_
   refine Lx.gT rfl rfl rfl <| Lx.y (mv rfl) rfl <| ?_
   refine Xx.ifD (t := 42) rfl (fun h13 => ?_) (fun h13 => ?_)
   ·
    have he := h13
    refine Lx.gF rfl rfl rfl rfl <| Lx.gF rfl rfl rfl rfl <| Lx.gF rfl rfl rfl rfl <| Lx.gF rfl rfl rfl rfl <| Lx.gF rfl rfl rfl rfl <| Lx.gF rfl rfl rfl rfl <| Lx.gU rfl rfl rfl rfl <| Lx.gU rfl rfl rfl rfl <| Lx.gF rfl rfl rfl rfl <| Lx.gT rfl rfl rfl <| Lx.y (pickT rfl rfl) rfl <| Lx.y (pickT rfl rfl) rfl <| ?_
    refine Lx.y (asg rfl) rfl <| Lx.y (asg rfl) rfl <| Lx.nil <| ?_
    refine Xx.tn (k11 _ _ _ _ ?_)
    refine Cx.ret ?_
    exact Xx.rB2 rfl rfl rfl ⟨by rw [hlb, decide_eq_true (hmem.2 ⟨hin, he⟩)], rfl⟩ (Frag.le_refl _) rfl
   ·
    have he := h13
    refine Lx.gT rfl rfl rfl <| Lx.y (mv rfl) rfl <| Lx.gT rfl rfl rfl <| Lx.y (mv rfl) rfl <| Lx.gT rfl rfl rfl <| Lx.y (ia U23 sz9 rfl rfl (by first | exact Int.toNat_natCast _ | rfl) (by omega) (by omega)) rfl <| Lx.gT rfl rfl rfl <| Lx.y (ldB U9 rfl rfl hB0 hv0) rfl <| Lx.gT rfl rfl rfl <| ?_
    refine Lx.cp rfl rfl rfl ((show CtP _ _ _ _ (.bool false) from NaN_ct _ _)) rfl ?_
    refine Lx.gT rfl rfl rfl <| Lx.y (mv rfl) rfl <| Lx.gF rfl rfl rfl rfl <| Lx.gF rfl rfl rfl rfl <| Lx.gT rfl rfl rfl <| Lx.y (pickF rfl rfl) rfl <| Lx.gT rfl rfl rfl <| Lx.y (pickF rfl rfl) rfl <| Lx.y (pickT rfl rfl) rfl <| Lx.y (asg rfl) rfl <| Lx.y (asg rfl) rfl <| Lx.nil <| ?_
    refine Xx.tn (k11 _ _ _ _ ?_)
    refine Cx.ret ?_
    exact Xx.rB2 rfl rfl rfl ⟨by rw [hlb, decide_eq_false (fun z => he (hmem.1 z).2)], rfl⟩ (Frag.le_refl _) rfl
  ·
   have hin := h12
   refine Lx.gF rfl rfl rfl rfl <| Lx.gF rfl rfl rfl rfl <| Lx.gF rfl rfl rfl rfl <| Lx.gF rfl rfl rfl rfl <| Lx.gF rfl rfl rfl rfl <| Lx.gF rfl rfl rfl rfl <| Lx.gF rfl rfl rfl rfl <| Lx.gU rfl rfl rfl rfl <| Lx.gU rfl rfl rfl rfl <| Lx.gU rfl rfl rfl rfl <| Lx.gU rfl rfl rfl rfl <| Lx.gU rfl rfl rfl rfl <| ?_
   refine Lx.gU rfl rfl rfl rfl <| Lx.gU rfl rfl rfl rfl <| Lx.gU rfl rfl rfl rfl <| Lx.gU rfl rfl rfl rfl <| Lx.gF rfl rfl rfl rfl <| Lx.y (pickF rfl rfl) rfl <| Lx.y (asg rfl) rfl <| Lx.y (asg rfl) rfl <| Lx.nil <| ?_
   refine Xx.tn (k11 _ _ _ _ ?_)
   refine Cx.ret ?_
   exact Xx.rB2 rfl rfl rfl ⟨by rw [hlb, decide_eq_false (fun z => hin (by have := (hmem.1 z).1; omega))], rfl⟩ (Frag.le_refl _) rfl
abbrev Str8 := List UInt8
theorem lb_spec {ks : List Str8} {t : Str8} (hs : Srt ks) : (∀ j (hj : j < ks.length), j < lb ks t → bless ks[j] t = true) ∧ (∀ h : lb ks t < ks.length, bless ks[lb ks t] t = false) := by
  induction ks with
  | nil => exact ⟨fun j hj => absurd hj (by simp), fun h => absurd h (by simp)⟩
  | cons k ks ih =>
    have hs2 : Srt ks := (List.pairwise_cons.1 hs).2
    obtain ⟨g1, g2⟩ := ih hs2
    by_cases hk : bless k t = true
    · have e : lb (k :: ks) t = lb ks t + 1 := by
        conv => lhs; unfold lb
        rw [if_pos hk]
      refine ⟨fun j hj hjl => ?_, fun h => ?_⟩
      · cases j with
        | zero => exact hk
        | succ j => exact g1 j (by simpa using hj) (by omega)
      · have h' : lb ks t < ks.length := by rw [e] at h; simpa using h
        have e2 : (k :: ks)[lb (k :: ks) t] = ks[lb ks t] := by simp [e]
        rw [e2]; exact g2 h'
    · have e : lb (k :: ks) t = 0 := by unfold lb; rw [if_neg hk]
      refine ⟨fun j hj hjl => absurd hjl (by omega), fun h => ?_⟩
      have e2 : (k :: ks)[lb (k :: ks) t] = k := by simp [e]
      rw [e2]; simpa using hk
theorem lb_le : ∀ (ks : List Str8) (t : Str8), lb ks t ≤ ks.length := by
  intro ks t
  induction ks with
  | nil => exact Nat.le_refl _
  | cons x ks ih => unfold lb; split; simpa using ih; exact Nat.zero_le _
theorem lb_mem {ks : List Str8} {t : Str8} (hs : Srt ks) (hm : t ∈ ks) : ∃ h : lb ks t < ks.length, ks[lb ks t] = t := by
  obtain ⟨j, hj, rfl⟩ := List.getElem_of_mem hm
  have e : lb ks ks[j] = j := lb_eq ks ks[j] j (by omega) (fun i hi hij => hs.lt hj hij) (fun _ => bless_irrefl _)
  exact ⟨by omega, by simp [e]⟩
theorem RoS.roe {B : Frag} {A : Option Addr} {n : Nat} {xs : List Value} (h : RoS B 1 A n xs) : RoE B A n xs := by
  refine ⟨by simpa using h.1, fun k hk => ?_⟩
  obtain ⟨b, o, l, et, fz, h1, h2, h3⟩ := RoS.part h hk
  refine ⟨b, o, l, et, fz, h1, h2, ?_⟩
  have h4 := congrArg (fun z : List Value => z[0]?) h3
  simpa [List.getElem?_take, List.getElem?_drop] using h4
def V0 : V := .mk 0 false 0 [] [] []
theorem ValR.leaf {B : Frag} {d : Nat} {k : Int} {b : Bool} {n : Int} {s : List UInt8} (h : s.length ≤ 4611686018427387904 ∧ -9223372036854775808 ≤ n ∧ n ≤ 9223372036854775807) : ValR B (d + 1) (.mk k b n s [] []) (vcs (.mk k b n s [] []) none 0 none 0) :=
  ⟨none, 0, none, 0, rfl, ⟨h.1, h.2.1, h.2.2, Nat.le_refl _, Nat.le_refl _⟩, by show 0 ≤ _; omega, by show 0 ≤ _; omega, ⟨rfl, fun k hk => absurd hk (by show ¬ k < 0; omega)⟩, (fun x hx => (by cases hx)), fun i hi => absurd hi (by show ¬ i < 0; omega)⟩
theorem V0_R {B : Frag} {d : Nat} : ValR B (d + 1) V0 (vcs V0 none 0 none 0) := ValR.leaf ⟨by decide, by decide, by decide⟩
theorem ValR.le {B : Frag} {d e : Nat} {v : V} {cs : List Value} (h : ValR B d v cs) (hde : d ≤ e) : ValR B e v cs := by
  obtain ⟨k, rfl⟩ : ∃ k, e = d + k := ⟨e - d, by omega⟩
  clear hde
  induction k with
  | zero => exact h
  | succ k ih => exact ValR.up ih
noncomputable def getV (v : V) (f : List UInt8) : V := if f ∈ v.names then v.parts.getD (lb v.names f) V0 else V0
theorem names_srt {v : V} (h : namesB v = true) : Srt v.names := by
  have hn := (namesP h).1
  have hstep : ∀ i (hi : i + 1 < v.names.length), bless v.names[i] v.names[i + 1] = true := fun i hi => by
    have := (hn (i + 1) hi).2 (by omega)
    simpa [List.getD, show i + 1 - 1 = i by omega, hi, show i < v.names.length by omega] using this
  refine List.pairwise_iff_getElem.2 fun i j hi hj hij => ?_
  obtain ⟨k, rfl⟩ : ∃ k, j = i + 1 + k := ⟨j - (i + 1), by omega⟩
  clear hij
  induction k with
  | zero => exact hstep i hj
  | succ k ih => exact bless_trans (ih (by omega)) (hstep (i + 1 + k) hj)
theorem getV_in {d : Nat} {v : V} {deep : Int} {f : List UInt8} (hok : checkF (d + 1) v deep = 0) (hf : f ∈ v.names) : v.kind = 6 ∧ ∃ h : lb v.names f < v.parts.length, ∃ h2 : lb v.names f < v.names.length, v.names[lb v.names f] = f ∧ getV v f = v.parts[lb v.names f] := by
  obtain ⟨h6, h0⟩ := names_many hok
  obtain ⟨_, _, _, _, _, hnb, _⟩ := chk_ok hok
  have hk : v.kind = 6 := by
    by_cases hk : v.kind = 6
    · exact hk
    · have := h0 hk; rw [List.length_eq_zero_iff.1 this] at hf; cases hf
  obtain ⟨h2, hat⟩ := lb_mem (names_srt hnb) hf
  have h1 : lb v.names f < v.parts.length := by have := h6 hk; omega
  refine ⟨hk, h1, h2, hat, ?_⟩
  unfold getV; rw [if_pos hf]; simp [List.getD, h1]
theorem getV_out {v : V} {f : List UInt8} (hf : f ∉ v.names) : getV v f = V0 := by unfold getV; rw [if_neg hf]
theorem V0_check {d : Nat} {deep : Int} (h : deep ≤ 8) : checkF (d + 1) V0 deep = 0 := chk6 (by omega) (by decide) (by decide) (namesB_yes ⟨fun i hi => absurd hi (by show ¬ i < 0; omega), fun z => absurd z (by decide)⟩) fun k hk => absurd hk (by show ¬ k < 0; omega)
theorem getV_ok {d : Nat} {v : V} {deep : Int} (f : List UInt8) (h8 : deep < 8) (hok : checkF (d + 2) v deep = 0) : checkF (d + 1) (getV v f) (deep + 1) = 0 := by
  by_cases hf : f ∈ v.names
  · obtain ⟨_, h1, _, _, e⟩ := getV_in hok hf
    obtain ⟨_, _, _, _, _, _, hps⟩ := chk_ok hok
    rw [e]; exact hps _ h1
  · rw [getV_out hf]; exact V0_check (by omega)
theorem getV_bytes {d : Nat} {v : V} {deep : Int} (f : List UInt8) (hok : checkF (d + 2) v deep = 0) : (bytesF (d + 1) (getV v f)).length ≤ (bytesF (d + 2) v).length + 1 := by
  by_cases hf : f ∈ v.names
  · obtain ⟨hk, h1, _, _, e⟩ := getV_in hok hf
    rw [e]
    have hb : bytesF (d + 2) v = preB (bytesF (d + 1)) v v.parts.length := by
      show bytesF (d + 1 + 1) v = _
      unfold bytesF; rw [if_neg (by omega), if_neg (by omega), if_neg (by omega), if_pos (by omega)]
    have hm := preB_mono (bytesF (d + 1)) v (show lb v.names f + 1 ≤ v.parts.length by omega)
    rw [preB_succ, List.length_append] at hm
    have hp : (bytesF (d + 1) v.parts[lb v.names f]).length ≤ (partB (bytesF (d + 1)) v (lb v.names f)).length := by unfold partB; rw [List.length_append, getDp h1]; omega
    rw [hb]; omega
  · rw [getV_out hf]
    have : bytesF (d + 1) V0 = [toB 0] := by unfold bytesF; rw [if_neg (by decide), if_neg (by decide), if_neg (by decide), if_neg (by decide)]; rfl
    rw [this]; show 1 ≤ _; omega
set_option maxHeartbeats 1000000 in
theorem None_ct (B : Frag) : CtP Tryz.prog 66 [] B (.agg (vcs V0 none 0 none 0).toArray) := by
 refine CtB.of_body Tryz.func66 rfl (nt := 2) rfl (by kernel_rfl) rfl ?_
 intro N0 w0 R
 refine Cx.seq (fun K1 k1 => ?_)
 refine Cx.region ?_
 refine Lx.new (allocO ti25) rfl (fun b => ?_)
 refine Lx.nil ?_
 refine Xx.tn (k1 _ _ _ _ ?_)
 refine Cx.seq (fun K2 k2 => ?_)
 refine Cx.region <| Lx.y (bld ti25 pl25 rfl rfl) rfl <| ?_
 refine Lx.st (stA (d := .bool) sz25 rfl rfl rfl rfl (by show 0 + 6 ≤ 6; omega) rfl) ?_
 refine Lx.nil ?_
 refine Xx.tn (k2 _ _ _ _ ?_)
 refine Cx.ret ?_
 exact Xx.rBa rfl U25 rfl sz25 rfl rfl ⟨rfl, rfl⟩ (Frag.le_refl _)
set_option maxHeartbeats 1000000 in
theorem Get_ct (d : Nat) (v : V) (f : List UInt8) (deep : Int) (cs : List Value) (B : Frag) (h : ValR B (d + 2) v cs) (hok : checkF (d + 2) v deep = 0) : CtB Tryz.prog 39 [.agg cs.toArray, str f] B (fun r B' => B' = B ∧ ∃ cs', r = .agg cs'.toArray ∧ ValR B' (d + 1) (getV v f) cs') := by
 obtain ⟨Ap, cp, An, cn, rfl, _, hpl, hnl, hns, _, hps⟩ := h
 obtain ⟨_, _, _, _, _, hnb, _⟩ := chk_ok hok
 have hs := names_srt hnb
 obtain ⟨hn6, hn0⟩ := names_many hok
 refine CtB.of_body Tryz.func39 rfl (nt := 34) rfl (by kernel_rfl) rfl ?_
 intro N0 w0 R
 refine Cx.seq (fun K1 k1 => ?_)
 refine Cx.region ?_
 refine Lx.new (boxA rfl) rfl (fun b2 => ?_)
 refine Lx.new (allocO ti25) rfl (fun b4 => ?_)
 refine Lx.nil ?_
 refine Xx.tn (k1 _ _ _ _ ?_)
 refine Cx.seq (fun K2 k2 => ?_)
 refine Cx.region <| Lx.y (fa' fo25_5 rfl) rfl <| Lx.y (ld U23 rfl rfl rfl) rfl <| Lx.y (mv rfl) rfl <| ?_
 refine Lx.cp rfl rfl rfl (BS_ct v.names f An cn _ hns hs (by omega)) rfl ?_
 refine Lx.y (mv rfl) rfl <| Lx.y (ext rfl rfl) rfl <| Lx.y (ext rfl rfl) rfl <| Lx.y (asg rfl) rfl <| Lx.y (asg rfl) rfl <| Lx.nil <| ?_
 refine Xx.tn (k2 _ _ _ _ ?_)
 refine Cx.seq (fun K3 k3 => ?_)
 refine Cx.seq (fun K4 k4 => ?_)
 refine Cx.region <| Lx.y (fa' fo25_0 rfl) rfl <| Lx.y (ld U3 rfl rfl rfl) rfl <| Lx.y (neI rfl rfl) rfl <| Lx.y (mv rfl) rfl <| ?_
 refine Xx.ifN (t := 17) rfl (fun h5 => ?_) (fun h5 => ?_)
 ·
  have hk := h5
  have hf : f ∉ v.names := fun z => by rw [List.length_eq_zero_iff.1 (hn0 hk)] at z; cases z
  refine Lx.gF rfl rfl rfl rfl <| Lx.gF rfl rfl rfl rfl <| Lx.y (pickT rfl rfl) rfl <| Lx.y (mv rfl) rfl <| Lx.gF rfl rfl rfl rfl <| Lx.gF rfl rfl rfl rfl <| Lx.gF rfl rfl rfl rfl <| Lx.gF rfl rfl rfl rfl <| Lx.gF rfl rfl rfl rfl <| Lx.y (pickT rfl rfl) rfl <| Lx.nil <| ?_
  refine Xx.tn (k4 _ _ _ _ ?_)
  refine Cx.condT rfl ?_
  refine Cx.seq (fun K6 k6 => ?_)
  refine Cx.region ?_
  refine Lx.cp rfl rfl rfl (None_ct _) rfl ?_
  refine Lx.st (stA (d := .bool) sz25 rfl rfl rfl rfl (by show 0 + 6 ≤ 6; omega) rfl) ?_
  refine Lx.nil ?_
  refine Xx.tn (k6 _ _ _ _ ?_)
  refine Cx.ret <| Xx.tr <| ?_
  refine Xx.dropB b2 ?_
  first | exact Xx.rBa rfl U25 rfl sz25 rfl rfl ⟨rfl, _, rfl, by rw [hgv]; exact hv2⟩ (Frag.le_refl _) | exact Xx.rBa rfl U25 rfl sz25 rfl rfl ⟨rfl, _, rfl, by rw [getV_out hf]; exact V0_R⟩ (Frag.le_refl _)
 ·
  have hk := h5
  refine Lx.gT rfl rfl rfl <| Lx.y (mv rfl) rfl <| Lx.gT rfl rfl rfl <| Lx.y (not' rfl) rfl <| Lx.y (pickF rfl rfl) rfl <| Lx.y (mv rfl) rfl <| ?_
  refine Xx.ifN (t := 21) rfl (fun h7 => ?_) (fun h7 => ?_)
  ·
   have hf : f ∉ v.names := by simpa using h7
   refine Lx.gF rfl rfl rfl rfl <| Lx.gF rfl rfl rfl rfl <| Lx.gF rfl rfl rfl rfl <| Lx.gF rfl rfl rfl rfl <| Lx.gF rfl rfl rfl rfl <| Lx.y (pickT rfl rfl) rfl <| Lx.nil <| ?_
   refine Xx.tn (k4 _ _ _ _ ?_)
   refine Cx.condT rfl ?_
   refine Cx.seq (fun K8 k8 => ?_)
   refine Cx.region ?_
   refine Lx.cp rfl rfl rfl (None_ct _) rfl ?_
   refine Lx.st (stA (d := .bool) sz25 rfl rfl rfl rfl (by show 0 + 6 ≤ 6; omega) rfl) ?_
   refine Lx.nil ?_
   refine Xx.tn (k8 _ _ _ _ ?_)
   refine Cx.ret <| Xx.tr <| ?_
   refine Xx.dropB b2 ?_
   first | exact Xx.rBa rfl U25 rfl sz25 rfl rfl ⟨rfl, _, rfl, by rw [hgv]; exact hv2⟩ (Frag.le_refl _) | exact Xx.rBa rfl U25 rfl sz25 rfl rfl ⟨rfl, _, rfl, by rw [getV_out hf]; exact V0_R⟩ (Frag.le_refl _)
  ·
   have hf : f ∈ v.names := by simpa using h7
   obtain ⟨_, hlp, hln, hat, hgv⟩ := getV_in hok hf
   obtain ⟨bq, oq, lq, eq, fq, xs, rfl, hBq, hxs, hv2⟩ := hps _ hlp
   obtain ⟨Ap2, cp2, An2, cn2, rfl⟩ := ValR.shape hv2
   refine Lx.gT rfl rfl rfl <| Lx.y (mv rfl) rfl <| Lx.gT rfl rfl rfl <| Lx.y (fa' fo25_4 rfl) rfl <| Lx.gT rfl rfl rfl <| Lx.y (ld U22 rfl rfl rfl) rfl <| Lx.gT rfl rfl rfl <| Lx.y (lenV (ty' := 0) U22 rfl) rfl <| Lx.gT rfl rfl rfl <| Lx.y (Yx.ff (geq rfl rfl) (decide_eq_false (by omega))) rfl <| Lx.y (pickF rfl rfl) rfl <| Lx.nil <| ?_
   refine Xx.tn (k4 _ _ _ _ ?_)
   refine Cx.condF rfl <| Cx.skip <| ?_
   refine Xx.tn (k3 _ _ _ _ ?_)
   refine Cx.seq (fun K9 k9 => ?_)
   refine Cx.region <| Lx.y (fa' fo25_4 rfl) rfl <| Lx.y (ld U22 rfl rfl rfl) rfl <| Lx.y (mv rfl) rfl <| Lx.y (ia U22 sz25 rfl rfl (Int.toNat_natCast _) (by omega) (by omega)) rfl <| Lx.y (ldA U25 rfl sz25 rfl (Cells.base (n := 6) hBq hxs) rfl) rfl <| ?_
   refine Lx.st (stA (d := .bool) sz25 rfl rfl rfl rfl (by show 0 + 6 ≤ 6; omega) rfl) ?_
   refine Lx.nil ?_
   refine Xx.tn (k9 _ _ _ _ ?_)
   refine Cx.ret ?_
   refine Xx.dropB b2 ?_
   first | exact Xx.rBa rfl U25 rfl sz25 rfl rfl ⟨rfl, _, rfl, by rw [hgv]; exact hv2⟩ (Frag.le_refl _) | exact Xx.rBa rfl U25 rfl sz25 rfl rfl ⟨rfl, _, rfl, by rw [getV_out hf]; exact V0_R⟩ (Frag.le_refl _)
set_option maxHeartbeats 2000000 in
theorem RGet_ct (d : Nat) (v : V) (f : List UInt8) (deep : Int) (cs : List Value) (B : Frag) (h : ValR B (d + 2) v cs) (hok : checkF (d + 2) v deep = 0) : CtB Tryz.prog 94 [.agg cs.toArray, str f] B (fun r B' => B' = B ∧ ∃ cs', r = .agg cs'.toArray ∧ ValR B' (d + 1) (getV v f) cs') := by
 obtain ⟨Ap, cp, An, cn, rfl, _, hpl, hnl, hns, _, hps⟩ := h
 obtain ⟨_, _, _, _, _, hnb, _⟩ := chk_ok hok
 have hs := names_srt hnb
 obtain ⟨hn6, hn0⟩ := names_many hok
 refine CtB.of_body Tryz.func94 rfl (nt := 38) rfl (by kernel_rfl) rfl ?_
 intro N0 w0 R
 refine Cx.seq (fun K1 k1 => ?_)
 refine Cx.region ?_
 refine Lx.new (boxA rfl) rfl (fun b2 => ?_)
 refine Lx.new (allocO ti39) rfl (fun b4 => ?_)
 refine Lx.nil ?_
 refine Xx.tn (k1 _ _ _ _ ?_)
 refine Cx.seq (fun K2 k2 => ?_)
 refine Cx.seq (fun K3 k3 => ?_)
 refine Cx.region <| Lx.y (asg rfl) rfl <| Lx.nil <| ?_
 refine Xx.tn (k3 _ _ _ _ ?_)
 refine Cx.block ?_
 refine Cx.loopK (Sc 0 rfl (Sc 1 rfl (Sc 2 rfl (Sc 4 rfl (Sub.nil _))))) (fun m ρ' B' H' => ∃ (i : Nat), (i ≤ v.names.length ∧ ∀ k (hk : k < v.names.length), k < i → v.names[k] ≠ f) ∧ m = v.names.length - i ∧ ρ' = [(5, i64 i)] ∧ B = B' ∧ row b4 39 [i64 0, .bool false, i64 0, str [], .slice none 0 0, .slice none 0 0] * (row b2 39 (vcs v Ap cp An cn) * R) = H') ⟨0, ⟨Nat.zero_le _, fun k _ h => absurd h (by omega)⟩, rfl, rfl, rfl, rfl⟩ (Sc 5 rfl (Sc 0 rfl (Sc 1 rfl (Sc 2 rfl (Sc 4 rfl (Sub.nil _)))))) ?_
 rintro m ρ' B' H' ⟨i, ⟨hi, hall⟩, rfl, rfl, rfl, rfl⟩
 refine Cx.seq (fun K4 k4 => ?_)
 refine Cx.seq (fun K5 k5 => ?_)
 refine Cx.region <| Lx.y (mv rfl) rfl <| Lx.y (fa' fo39_5 rfl) rfl <| Lx.y (ld U23 rfl rfl rfl) rfl <| Lx.y (lenV (ty' := 0) U23 rfl) rfl <| Lx.y (lss rfl rfl) rfl <| Lx.y (mv rfl) rfl <| ?_
 refine Xx.ifD (t := 11) rfl (fun h6 => ?_) (fun h6 => ?_)
 ·
  have hlt := h6
  have hlt : i < v.names.length := by omega
  have hk6 : v.kind = 6 := by
   by_cases hk : v.kind = 6
   ·exact hk
   ·have := hn0 hk; omega
  have hip : i < v.parts.length := by have := hn6 hk6; omega
  obtain ⟨bn, on, ln, en, fn, rfl, hBn, hln⟩ := roe_str hns hlt rfl
  refine Lx.gT rfl rfl rfl <| Lx.y (mv rfl) rfl <| Lx.gT rfl rfl rfl <| Lx.y (fa' fo39_4 rfl) rfl <| Lx.gT rfl rfl rfl <| Lx.y (ld U37 rfl rfl rfl) rfl <| Lx.gT rfl rfl rfl <| Lx.y (lenV (ty' := 0) U37 rfl) rfl <| Lx.gT rfl rfl rfl <| Lx.y (Yx.tt (lss rfl rfl) (decide_eq_true (by omega))) rfl <| Lx.y (pickT rfl rfl) rfl <| Lx.y (mv rfl) rfl <| ?_
  refine Lx.gT rfl rfl rfl <| Lx.y (fa' fo39_0 rfl) rfl <| Lx.gT rfl rfl rfl <| Lx.y (ld U3 rfl rfl rfl) rfl <| Lx.gT rfl rfl rfl <| Lx.y (Yx.tt (eqI rfl rfl) (decide_eq_true hk6)) rfl <| Lx.y (pickT rfl rfl) rfl <| Lx.nil <| ?_
  refine Xx.tn (k5 _ _ _ _ ?_)
  refine Cx.condT rfl <| Cx.skip <| ?_
  refine Xx.tn (k4 _ _ _ _ ?_)
  refine Cx.seq (fun K7 k7 => ?_)
  refine Cx.block ?_
  refine Cx.seq (fun K8 k8 => ?_)
  refine Cx.region <| Lx.y (fa' fo39_5 rfl) rfl <| Lx.y (ld U23 rfl rfl rfl) rfl <| Lx.y (mv rfl) rfl <| Lx.y (ia U23 sz9 rfl rfl (by first | exact Int.toNat_natCast _ | rfl) (by omega) (by omega)) rfl <| Lx.y (ldB U9 rfl rfl hBn hln) rfl <| Lx.y (mv rfl) rfl <| Lx.y (eqS rfl rfl) rfl <| Lx.nil <| ?_
  refine Xx.tn (k8 _ _ _ _ ?_)
  refine Cx.condD rfl (fun h9 => ?_) (fun h9 => ?_)
  ·
   have heq : v.names[i] = f := h9
   obtain ⟨bq, oq, lq, eq, fq, xs, rfl, hBq, hxs, hv2⟩ := hps _ hip
   obtain ⟨Ap2, cp2, An2, cn2, rfl⟩ := ValR.shape hv2
   have hgv : getV v f = v.parts[i] := by
    have hf : f ∈ v.names := by rw [← heq]; exact List.getElem_mem hlt
    obtain ⟨_, h1, h2, hat, e⟩ := getV_in hok hf
    have : lb v.names f = i := lb_eq v.names f i (by omega) (fun j hj hji => by rw [← heq]; exact hs.lt hlt hji) (fun _ => by rw [heq, bless_irrefl])
    rw [e]; simp [this]
   refine Cx.seq (fun K10 k10 => ?_)
   refine Cx.region <| Lx.y (fa' fo39_4 rfl) rfl <| Lx.y (ld U37 rfl rfl rfl) rfl <| Lx.y (mv rfl) rfl <| Lx.y (ia U37 sz39 rfl rfl (Int.toNat_natCast _) (by omega) (by omega)) rfl <| Lx.y (ldA U39 rfl sz39 rfl (Cells.base (n := 6) hBq hxs) rfl) rfl <| ?_
   refine Lx.st (stA (d := .bool) sz39 rfl rfl rfl rfl (by show 0 + 6 ≤ 6; omega) rfl) ?_
   refine Lx.nil ?_
   refine Xx.tn (k10 _ _ _ _ ?_)
   refine Cx.ret ?_
   refine Xx.br ?_
   refine Xx.tr <| Xx.tr <| ?_
   refine Xx.br ?_
   refine Xx.tr ?_
   refine Xx.dropB b2 ?_
   exact Xx.rBa rfl U39 rfl sz39 rfl rfl ⟨rfl, _, rfl, by rw [hgv]; exact hv2⟩ (Frag.le_refl _)
  ·
   have hne : v.names[i] ≠ f := h9
   refine Cx.skip <| Xx.bn <| ?_
   refine Xx.tn (k7 _ _ _ _ ?_)
   refine Cx.region <| Lx.y (mv rfl) rfl <| Lx.y (Yx.val (add rfl rfl (by first | exact wrap64 (by omega) (by omega) | rfl)) (show _ = i64 ((i + 1 : Nat) : Int) from rfl)) rfl <| Lx.y (asg rfl) rfl <| Lx.nil <| ?_
   exact Xx.againK ⟨i + 1, ⟨by omega, fun k hk hki => by
 by_cases e : k = i
 ·subst e; exact hne
 ·exact hall k hk (by omega)⟩, rfl, rfl, rfl, rfl⟩ (by omega) (Sc 5 rfl (Sc 0 rfl (Sc 1 rfl (Sc 2 rfl (Sc 4 rfl (Sub.nil _))))))
 ·
  have hge := h6
  refine Lx.gF rfl rfl rfl rfl <| Lx.gF rfl rfl rfl rfl <| Lx.gF rfl rfl rfl rfl <| Lx.gF rfl rfl rfl rfl <| Lx.gF rfl rfl rfl rfl <| Lx.y (pickF rfl rfl) rfl <| Lx.y (mv rfl) rfl <| Lx.gF rfl rfl rfl rfl <| Lx.gF rfl rfl rfl rfl <| Lx.gF rfl rfl rfl rfl <| Lx.y (pickF rfl rfl) rfl <| Lx.nil <| ?_
  refine Xx.tn (k5 _ _ _ _ ?_)
  refine Cx.condF rfl <| Cx.exit <| Xx.te <| Xx.te <| Xx.bh <| ?_
  refine Xx.tn (k2 _ _ _ _ ?_)
  refine Cx.seq (fun K11 k11 => ?_)
  refine Cx.region <| Lx.y (bld ti39 pl39 rfl rfl) rfl <| ?_
  refine Lx.st (stA (d := .bool) sz39 rfl rfl rfl rfl (by show 0 + 6 ≤ 6; omega) rfl) ?_
  refine Lx.nil ?_
  refine Xx.tn (k11 _ _ _ _ ?_)
  refine Cx.ret ?_
  have hf : f ∉ v.names := fun z => by
   obtain ⟨k, hk, e⟩ := List.getElem_of_mem z
   exact hall k hk (by omega) e
  refine Xx.dropB b2 ?_
  exact Xx.rBa rfl U39 rfl sz39 rfl rfl ⟨rfl, _, rfl, by rw [getV_out hf]; exact V0_R⟩ (Frag.le_refl _)
end RgA
end Go.Proofs.YtdidpocakipinaaGreatDoor
namespace Go.Proofs.YtdidpocakipinaaGreatDoor
open Go.SL Go.RowKit
set_option maxRecDepth 100000
open Ke1 Ke3 Ke4 Ke5 Ke6 Ke7 Ke8 Ke9 KeA KeB KeC KeD KeE KeF KeG KeI RgA
namespace BtB
theorem sz9 : (Tryz.prog.info? 9).map (·.size) = some 1 := by kernel_rfl
theorem sz110 : (Tryz.prog.info? 110).map (·.size) = some 1 := by kernel_rfl
theorem ti9 : TI Tryz.prog 9 [str []] 1 16 := TI.of (by kernel_rfl) rfl rfl
theorem ti110 : TI Tryz.prog 110 [.pointer none] 1 8 := TI.of (by kernel_rfl) rfl rfl
set_option maxHeartbeats 1000000 in
theorem InsS_end (A : Option Addr) (n c : Nat) (xs : List Value) (vb : Nat) (etv : TypeId) (news : List Value) (B : Frag) (hns : news.length = 1) (hn1 : news.all (·.oneCell') = true) (hbd : (n + 1) * 16 ≤ 140737488355328) : Ct Tryz.prog 79 [.slice A n c, i64 (n : Nat), .slice (some ⟨vb, 0, none⟩) 1 1] B (sbuf 9 1 A n c xs * row vb etv news) (fun v B' H' => ∃ A' c', v = .slice A' (n + 1) c' ∧ B' = B ∧ H' = sbuf 9 1 A' (n + 1) c' (xs ++ news) ∧ (∃ b, A' = some ⟨b, 0, none⟩) ∧ n + 1 ≤ c') := by
 refine Ct.of_body Tryz.func79 rfl (nt := 95) rfl (by kernel_rfl) rfl ?_
 intro N0 w0 R
 rw [star_assoc]
 refine Cx.seq (fun K1 k1 => ?_)
 refine Cx.region <| Lx.y (asg rfl) rfl <| Lx.nil <| ?_
 refine Xx.tn (k1 _ _ _ _ ?_)
 refine Cx.seq (fun K2 k2 => ?_)
 refine Cx.region <| Lx.y (mv rfl) rfl <| Lx.y (mv rfl) rfl <| Lx.y (sl1V U23 sz9 rfl rfl (Int.toNat_natCast _) (by omega) (by omega)) rfl <| Lx.nil <| ?_
 refine Xx.tn (k2 _ _ _ _ ?_)
 refine Cx.seq (fun K3 k3 => ?_)
 refine Cx.region <| Lx.y (mv rfl) rfl <| Lx.y (lenV (ty' := 0) U23 rfl) rfl <| Lx.y (asg rfl) rfl <| Lx.nil <| ?_
 refine Xx.tn (k3 _ _ _ _ ?_)
 refine Cx.seq (fun K4 k4 => ?_)
 refine Cx.seq (fun K5 k5 => ?_)
 refine Cx.region <| Lx.y (mv rfl) rfl <| Lx.y (eqI rfl rfl) rfl <| Lx.nil <| ?_
 refine Xx.tn (k5 _ _ _ _ ?_)
 refine Cx.condD rfl (fun h6 => ?_) (fun h6 => ?_)
 ·
  exact absurd h6 (by decide)
 ·
  refine Cx.skip ?_
  refine Xx.tn (k4 _ _ _ _ ?_)
  refine Cx.seq (fun K7 k7 => ?_)
  refine Cx.region <| Lx.y (mv rfl) rfl <| Lx.y (lenV (ty' := 0) U23 rfl) rfl <| Lx.y (asg rfl) rfl <| Lx.nil <| ?_
  refine Xx.tn (k7 _ _ _ _ ?_)
  refine Cx.seq (fun K8 k8 => ?_)
  refine Cx.seq (fun K9 k9 => ?_)
  refine Cx.region <| Lx.y (mv rfl) rfl <| Lx.y (mv rfl) rfl <| Lx.y (eqI rfl rfl) rfl <| Lx.nil <| ?_
  refine Xx.tn (k9 _ _ _ _ ?_)
  refine Cx.condD rfl (fun h10 => ?_) (fun h10 => ?_)
  ·
   refine Cx.seq (fun K11 k11 => ?_)
   refine Cx.region <| Lx.y (mv rfl) rfl <| Lx.y (mv rfl) rfl <| ?_
   refine Lx.o (appN (et := 9) (n + 1) news (xs ++ news) U23 U23 ti9 rfl rfl (by rw [hns]) (by rw [List.drop_zero, List.take_of_length_le (by omega)]) hn1 (by omega) (by omega) rfl rfl) rfl (fun v B' H' hΦ hB => ?_)
   obtain ⟨A3, c3, rfl, hA3, hl3, hc3, hBB, rfl⟩ := hΦ
   obtain rfl := hBB.symm
   clear hB
   refine Lx.y (asg rfl) rfl <| Lx.nil <| ?_
   refine Xx.tn (k11 _ _ _ _ ?_)
   refine Cx.ret <| Xx.tr <| ?_
   exact Xx.dropB vb (Xx.ret1 rfl rfl ⟨A3, c3, rfl, rfl, rfl, hA3 (by omega), hc3⟩ (Frag.le_refl _) rfl)
  ·
   exact absurd rfl h10
set_option maxHeartbeats 1000000 in
theorem InsS_mid (b : Nat) (sp : List Value) (i n c : Nat) (xs : List Value) (vb : Nat) (etv : TypeId) (news : List Value) (B : Frag) (hi : i < n) (hxl : xs.length = n * 1) (hnc : n ≤ c) (hcl : (xs ++ sp).length = c * 1) (hx1 : xs.all (·.oneCell') = true) (hns : news.length = 1) (hn1 : news.all (·.oneCell') = true) (hbd : (n + 1) * 16 ≤ 140737488355328) : Ct Tryz.prog 79 [.slice (some ⟨b, 0, none⟩) n c, i64 (i : Nat), .slice (some ⟨vb, 0, none⟩) 1 1] B (row vb etv news * row b 9 (xs ++ sp)) (fun v B' H' => ∃ b' c' sp', v = .slice (some ⟨b', 0, none⟩) (n + 1) c' ∧ B' = B ∧ H' = row b' 9 (xs.take (i * 1) ++ news ++ xs.drop (i * 1) ++ sp') ∧ (xs.take (i * 1) ++ news ++ xs.drop (i * 1) ++ sp').length = c' * 1 ∧ n + 1 ≤ c') := by
 have hxl2 := hcl
 rw [List.length_append] at hxl2
 have hDl : (xs.drop (i * 1)).length = (n - i) * 1 := by rw [List.length_drop]; omega
 have hD1 : (xs.drop (i * 1)).all (·.oneCell') = true := by rw [List.all_eq_true] at hx1 ⊢; exact fun v hv => hx1 v (List.mem_of_mem_drop hv)
 have hTl : (xs.take (i * 1)).length = i * 1 := by rw [List.length_take]; omega
 refine Ct.of_body Tryz.func79 rfl (nt := 95) rfl (by kernel_rfl) rfl ?_
 intro N0 w0 R
 rw [star_assoc]
 refine Cx.seq (fun K1 k1 => ?_)
 refine Cx.region <| Lx.y (asg rfl) rfl <| Lx.nil <| ?_
 refine Xx.tn (k1 _ _ _ _ ?_)
 refine Cx.seq (fun K2 k2 => ?_)
 refine Cx.region <| Lx.y (mv rfl) rfl <| Lx.y (mv rfl) rfl <| Lx.y (sl1V U23 sz9 rfl rfl (Int.toNat_natCast _) (by omega) (by omega)) rfl <| Lx.nil <| ?_
 refine Xx.tn (k2 _ _ _ _ ?_)
 refine Cx.seq (fun K3 k3 => ?_)
 refine Cx.region <| Lx.y (mv rfl) rfl <| Lx.y (lenV (ty' := 0) U23 rfl) rfl <| Lx.y (asg rfl) rfl <| Lx.nil <| ?_
 refine Xx.tn (k3 _ _ _ _ ?_)
 refine Cx.seq (fun K4 k4 => ?_)
 refine Cx.seq (fun K5 k5 => ?_)
 refine Cx.region <| Lx.y (mv rfl) rfl <| Lx.y (eqI rfl rfl) rfl <| Lx.nil <| ?_
 refine Xx.tn (k5 _ _ _ _ ?_)
 refine Cx.condD rfl (fun h6 => ?_) (fun h6 => ?_)
 ·
  exact absurd h6 (by decide)
 ·
  refine Cx.skip ?_
  refine Xx.tn (k4 _ _ _ _ ?_)
  refine Cx.seq (fun K7 k7 => ?_)
  refine Cx.region <| Lx.y (mv rfl) rfl <| Lx.y (lenV (ty' := 0) U23 rfl) rfl <| Lx.y (asg rfl) rfl <| Lx.nil <| ?_
  refine Xx.tn (k7 _ _ _ _ ?_)
  refine Cx.seq (fun K8 k8 => ?_)
  refine Cx.seq (fun K9 k9 => ?_)
  refine Cx.region <| Lx.y (mv rfl) rfl <| Lx.y (mv rfl) rfl <| Lx.y (eqI rfl rfl) rfl <| Lx.nil <| ?_
  refine Xx.tn (k9 _ _ _ _ ?_)
  refine Cx.condD rfl (fun h10 => ?_) (fun h10 => ?_)
  ·
   exact absurd h10 (by omega)
  ·
   refine Cx.skip ?_
   refine Xx.tn (k8 _ _ _ _ ?_)
   refine Cx.seq (fun K11 k11 => ?_)
   refine Cx.seq (fun K12 k12 => ?_)
   refine Cx.region <| Lx.y (mv rfl) rfl <| Lx.y (mv rfl) rfl <| Lx.y (add rfl rfl (by first | exact wrap64 (by omega) (by omega) | rfl)) rfl <| Lx.y (mv rfl) rfl <| Lx.y (capV U23 rfl) rfl <| Lx.y (gtr rfl rfl) rfl <| Lx.nil <| ?_
   refine Xx.tn (k12 _ _ _ _ ?_)
   refine Cx.condD rfl (fun h13 => ?_) (fun h13 => ?_)
   ·
    have hno := h13
    refine Cx.seq (fun K14 k14 => ?_)
    refine Cx.region <| Lx.y (mv rfl) rfl <| Lx.y (mv rfl) rfl <| Lx.y (sl2V U23 sz9 rfl rfl (Int.toNat_natCast _) (by omega) (by omega)) rfl <| Lx.y (mv rfl) rfl <| Lx.y (mv rfl) rfl <| Lx.y (add rfl rfl (by first | exact wrap64 (by omega) (by omega) | rfl)) rfl <| Lx.y (mv rfl) rfl <| Lx.y (sub rfl rfl (show IntKind.i64.wrap _ = ((n + 1 - i : Nat) : Int) by rw [wrap64 (by omega) (by omega)]; omega)) rfl <| ?_
    refine Lx.o (amO (olds := xs.take (i * 1)) (m := n + 1 - i) U23 U3 ti9 rfl rfl (SrcH.own (b := b) (o := 0) (i * 1) (by rw [List.drop_zero]; exact List.take_append_of_le_length (by omega))) hTl (by omega) (by omega) (by rw [show i + (n + 1 - i) = n + 1 by omega]; exact hbd)) rfl (fun v B' H' hΦ hB => ?_)
    obtain ⟨b9, c9, rest, rfl, hc9, hrl, hBB, rfl⟩ := hΦ
    obtain rfl := hBB.symm
    clear hB
    rw [show i + (n + 1 - i) = n + 1 by omega] at hc9 ⊢
    refine Lx.y (asg rfl) rfl <| Lx.nil <| ?_
    refine Xx.tn (k14 _ _ _ _ ?_)
    refine Cx.seq (fun K15 k15 => ?_)
    refine Cx.region <| Lx.y (mv rfl) rfl <| Lx.y (mv rfl) rfl <| Lx.y (sl1A i U23 sz9 rfl rfl rfl (by omega) (by omega)) rfl <| Lx.y (mv rfl) rfl <| ?_
    refine Lx.o (cpO (cs' := (xs.take (i * 1) ++ news ++ rest.drop 1)) 1 U23 sz9 rfl rfl (show Nat.min _ _ = _ by first | rfl | (simp only [Nat.min_def]; split <;> omega)) (SrcH.own (b := vb) (o := 0) (news := news) 1 (by rw [List.drop_zero, List.take_of_length_le (by omega)])) (by rw [hns]) hn1 (by rw [Nat.zero_add, List.length_append, hTl]; omega) (by rw [Nat.zero_add]; exact ins_grow1 hTl hns (by omega))) rfl (fun v B' H' hΦ hB => ?_)
    obtain ⟨rfl, hBB, rfl⟩ := hΦ
    obtain rfl := hBB.symm
    clear hB
    refine Lx.nil ?_
    refine Xx.tn (k15 _ _ _ _ ?_)
    refine Cx.seq (fun K16 k16 => ?_)
    refine Cx.drawn (by kernel_rfl) ?_
    refine Dx.p (i := 0) rfl (by kernel_rfl) (mv rfl) rfl ?_
    refine Dx.p (i := 1) rfl (by kernel_rfl) (mv rfl) rfl ?_
    refine Dx.p (i := 2) rfl (by kernel_rfl) (mv rfl) rfl ?_
    refine Dx.p (i := 3) rfl (by kernel_rfl) (add rfl rfl (show IntKind.i64.wrap _ = ((i + 1 : Nat) : Int) by rw [wrap64 (by omega) (by omega)]; rfl)) rfl ?_
    refine Dx.p (i := 4) rfl (by kernel_rfl) (sl1A (i + 1) U23 sz9 rfl rfl rfl (by omega) (by omega)) rfl ?_
    refine Dx.p (i := 5) rfl (by kernel_rfl) (mv rfl) rfl ?_
    refine Dx.p (i := 6) rfl (by kernel_rfl) (mv rfl) rfl ?_
    refine Dx.p (i := 7) rfl (by kernel_rfl) (sl1A i U23 sz9 rfl rfl rfl (by omega) (by omega)) rfl ?_
    refine Dx.one (i := 8) (by kernel_rfl) ?_
    refine Dstep.o (i := 8) rfl (cpO (cs' := (xs.take (i * 1) ++ news ++ xs.drop (i * 1) ++ (rest.drop 1).drop (xs.drop (i * 1)).length)) (n - i) U23 sz9 rfl rfl (show Nat.min _ _ = _ by first | rfl | (simp only [Nat.min_def]; split <;> omega)) (SrcH.own (b := b) (o := 0 + i * 1) (news := xs.drop (i * 1)) ((n - i) * 1) (by rw [Nat.zero_add, List.drop_append_of_le_length (by omega), List.take_append_of_le_length (by omega), List.take_of_length_le (by omega)])) hDl hD1 (by simp only [List.length_append, List.length_drop, hTl, hns, hDl]; omega) (by rw [Nat.zero_add, show (i + 1) * 1 = i * 1 + 1 by omega]; exact ins_grow2 hTl hns)) rfl (fun v B' H' hΦ hB => ?_)
    obtain ⟨rfl, rfl, rfl⟩ := hΦ
    clear hB
    refine ⟨JOk.top, ?_⟩
    refine Dx.done (by kernel_rfl) ?_
    refine Xx.tn (k16 _ _ _ _ ?_)
    refine Cx.seq (fun K17 k17 => ?_)
    refine Cx.region <| Lx.y (mv rfl) rfl <| Lx.y (asg rfl) rfl <| Lx.nil <| ?_
    refine Xx.tn (k17 _ _ _ _ ?_)
    refine Cx.ret <| Xx.tr <| ?_
    exact Xx.dropB vb (Xx.dropB b (Xx.ret1 rfl rfl ⟨b9, c9, _, rfl, rfl, rfl, by simp only [List.length_append, List.length_drop, hTl, hns, hDl]; omega, hc9⟩ (Frag.le_refl _) rfl))
   ·
    have hno := h13
    refine Cx.skip ?_
    refine Xx.tn (k11 _ _ _ _ ?_)
    refine Cx.seq (fun K18 k18 => ?_)
    refine Cx.region <| Lx.y (mv rfl) rfl <| Lx.y (mv rfl) rfl <| Lx.y (mv rfl) rfl <| Lx.y (add rfl rfl (show IntKind.i64.wrap _ = ((n + 1 : Nat) : Int) by rw [wrap64 (by omega) (by omega)]; rfl)) rfl <| Lx.y (sl2V U23 sz9 rfl rfl (Int.toNat_natCast _) (by omega) (by omega)) rfl <| Lx.y (asg rfl) rfl <| Lx.nil <| ?_
    refine Xx.tn (k18 _ _ _ _ ?_)
    refine Cx.seq (fun K19 k19 => ?_)
    refine Cx.seq (fun K20 k20 => ?_)
    refine Cx.region <| Lx.y (mv rfl) rfl <| Lx.y (mv rfl) rfl <| Lx.y (mv rfl) rfl <| Lx.y (mv rfl) rfl <| Lx.y (add rfl rfl (show IntKind.i64.wrap _ = ((i + 1 : Nat) : Int) by rw [wrap64 (by omega) (by omega)]; rfl)) rfl <| Lx.y (sl1V U23 sz9 rfl rfl (Int.toNat_natCast _) (by omega) (by omega)) rfl <| ?_
    rw [show subA (some ⟨b, 0, none⟩) c (i + 1) 1 = (if c = i + 1 then some ⟨b, 0, none⟩ else some ⟨b, 0 + (i + 1) * 1, none⟩) by unfold subA; split <;> simp [add_mk]]
    have hcne : ¬ c = i + 1 := by omega
    rw [if_neg hcne]
    refine Lx.y (extc rfl rfl (ovQ (tS := 23) (tR := 4) Tryz.func96 (by kernel_rfl) (by kernel_rfl) (by kernel_rfl) (by kernel_rfl) U23 sz9 rfl (by intro z; have h9 := congrArg List.length z; rw [List.length_append, List.length_nil] at h9; omega))) rfl <| Lx.y (not' rfl) rfl <| Lx.nil <| ?_
    refine Xx.tn (k20 _ _ _ _ ?_)
    refine Cx.condT rfl ?_
    refine Cx.seq (fun K21 k21 => ?_)
    refine Cx.drawn (by kernel_rfl) ?_
    refine Dx.p (i := 0) rfl (by kernel_rfl) (mv rfl) rfl ?_
    refine Dx.p (i := 1) rfl (by kernel_rfl) (mv rfl) rfl ?_
    refine Dx.p (i := 2) rfl (by kernel_rfl) (mv rfl) rfl ?_
    refine Dx.p (i := 3) rfl (by kernel_rfl) (add rfl rfl (show IntKind.i64.wrap _ = ((i + 1 : Nat) : Int) by rw [wrap64 (by omega) (by omega)]; rfl)) rfl ?_
    refine Dx.p (i := 4) rfl (by kernel_rfl) (sl1A (i + 1) U23 sz9 rfl rfl rfl (by omega) (by omega)) rfl ?_
    refine Dx.p (i := 5) rfl (by kernel_rfl) (mv rfl) rfl ?_
    refine Dx.p (i := 6) rfl (by kernel_rfl) (mv rfl) rfl ?_
    refine Dx.p (i := 7) rfl (by kernel_rfl) (sl1A i U23 sz9 rfl rfl rfl (by omega) (by omega)) rfl ?_
    refine Dx.one (i := 8) (by kernel_rfl) ?_
    refine Dstep.o (i := 8) rfl (cpO (cs' := ((xs ++ sp).take (i * 1 + 1) ++ xs.drop (i * 1) ++ (xs ++ sp).drop ((n + 1) * 1))) (n - i) U23 sz9 rfl rfl (show Nat.min _ _ = _ by first | rfl | (simp only [Nat.min_def]; split <;> omega)) (SrcH.own (b := b) (o := 0 + i * 1) (news := xs.drop (i * 1)) ((n - i) * 1) (by rw [Nat.zero_add, List.drop_append_of_le_length (by omega), List.take_append_of_le_length (by omega), List.take_of_length_le (by omega)])) hDl hD1 (by rw [List.length_append]; omega) (by rw [Nat.zero_add, hDl, show (i + 1) * 1 = i * 1 + 1 by omega, show i * 1 + 1 + (n - i) * 1 = (n + 1) * 1 by omega])) rfl (fun v B' H' hΦ hB => ?_)
    obtain ⟨rfl, rfl, rfl⟩ := hΦ
    clear hB
    refine ⟨JOk.top, ?_⟩
    refine Dx.done (by kernel_rfl) ?_
    refine Xx.tn (k21 _ _ _ _ ?_)
    refine Cx.seq (fun K22 k22 => ?_)
    refine Cx.region <| Lx.y (mv rfl) rfl <| Lx.y (mv rfl) rfl <| Lx.y (sl1A i U23 sz9 rfl rfl rfl (by omega) (by omega)) rfl <| Lx.y (mv rfl) rfl <| ?_
    refine Lx.o (cpO (cs' := (xs.take (i * 1) ++ news ++ xs.drop (i * 1) ++ (xs ++ sp).drop ((n + 1) * 1))) 1 U23 sz9 rfl rfl (show Nat.min _ _ = _ by first | rfl | (simp only [Nat.min_def]; split <;> omega)) (SrcH.own (b := vb) (o := 0) (news := news) 1 (by rw [List.drop_zero, List.take_of_length_le (by omega)])) (by rw [hns]) hn1 (by simp only [List.length_append, List.length_take, List.length_drop, hDl]; omega) (by rw [Nat.zero_add]; exact ins_room (by omega) hns (by rw [List.length_append]; omega) (List.take_append_of_le_length (by omega)) rfl (by omega))) rfl (fun v B' H' hΦ hB => ?_)
    obtain ⟨rfl, hBB, rfl⟩ := hΦ
    obtain rfl := hBB.symm
    clear hB
    refine Lx.nil ?_
    refine Xx.tn (k22 _ _ _ _ ?_)
    refine Cx.seq (fun K23 k23 => ?_)
    refine Cx.region <| Lx.y (mv rfl) rfl <| Lx.y (asg rfl) rfl <| Lx.nil <| ?_
    refine Xx.tn (k23 _ _ _ _ ?_)
    refine Cx.ret <| Xx.tr <| ?_
    exact Xx.dropB vb (Xx.ret1 rfl rfl ⟨b, c, _, rfl, rfl, rfl, by simp only [List.length_append, List.length_drop, hTl, hns, hDl]; omega, by omega⟩ (Frag.le_refl _) rfl)
theorem InsS_ct (A : Option Addr) (i n c : Nat) (xs : List Value) (vb : Nat) (etv : TypeId) (news : List Value) (B : Frag) (hi : i ≤ n) (hxl : xs.length = n * 1) (hx1 : xs.all (·.oneCell') = true) (hns : news.length = 1) (hn1 : news.all (·.oneCell') = true) (hbd : (n + 1) * 16 ≤ 140737488355328) :
    Ct Tryz.prog 79 [.slice A n c, i64 (i : Nat), .slice (some ⟨vb, 0, none⟩) 1 1] B (sbuf 9 1 A n c xs * row vb etv news) (fun v B' H' => ∃ A' c', v = .slice A' (n + 1) c' ∧ B' = B ∧ H' = sbuf 9 1 A' (n + 1) c' (xs.take (i * 1) ++ news ++ xs.drop (i * 1)) ∧ (∃ b, A' = some ⟨b, 0, none⟩) ∧ n + 1 ≤ c') := by
  by_cases h : i = n
  · subst h
    have h1 : xs.take (i * 1) = xs := List.take_of_length_le (by omega)
    have h2 : xs.drop (i * 1) = [] := List.drop_of_length_le (by omega)
    rw [h1, h2, List.append_nil]
    exact InsS_end A i c xs vb etv news B hns hn1 hbd
  · refine Ct.of_sbuf (by omega) (fun b sp hA hx hnc hcl => ?_) (Go.SL.enters_of Tryz.func79 rfl (by kernel_rfl))
    subst hA
    have hm := InsS_mid b sp i n c xs vb etv news B (by omega) hxl hnc hcl hx1 hns hn1 hbd
    refine ⟨hm.1, fun N0 w R s => (hm.2 N0 w R s).mono ?_⟩
    rintro x w' ⟨v, B', _, hx', ⟨b', c', sp', hv, hB, rfl, hl, hc'⟩, hBB, hb, s'⟩
    refine ⟨v, B', _, hx', ⟨some ⟨b', 0, none⟩, c', hv, hB, rfl, ⟨b', rfl⟩, hc'⟩, hBB, hb, row_sbuf ?_ hc' hl s'⟩
    simp only [List.length_append, List.length_take, List.length_drop, hns, hxl]; omega
set_option maxHeartbeats 1000000 in
theorem InsN_end (A : Option Addr) (n c : Nat) (xs : List Value) (vb : Nat) (etv : TypeId) (news : List Value) (B : Frag) (hns : news.length = 1) (hn1 : news.all (·.oneCell') = true) (hbd : (n + 1) * 8 ≤ 140737488355328) : Ct Tryz.prog 80 [.slice A n c, i64 (n : Nat), .slice (some ⟨vb, 0, none⟩) 1 1] B (sbuf 110 1 A n c xs * row vb etv news) (fun v B' H' => ∃ A' c', v = .slice A' (n + 1) c' ∧ B' = B ∧ H' = sbuf 110 1 A' (n + 1) c' (xs ++ news) ∧ (∃ b, A' = some ⟨b, 0, none⟩) ∧ n + 1 ≤ c') := by
 refine Ct.of_body Tryz.func80 rfl (nt := 95) rfl (by kernel_rfl) rfl ?_
 intro N0 w0 R
 rw [star_assoc]
 refine Cx.seq (fun K1 k1 => ?_)
 refine Cx.region <| Lx.y (asg rfl) rfl <| Lx.nil <| ?_
 refine Xx.tn (k1 _ _ _ _ ?_)
 refine Cx.seq (fun K2 k2 => ?_)
 refine Cx.region <| Lx.y (mv rfl) rfl <| Lx.y (mv rfl) rfl <| Lx.y (sl1V U111 sz110 rfl rfl (Int.toNat_natCast _) (by omega) (by omega)) rfl <| Lx.nil <| ?_
 refine Xx.tn (k2 _ _ _ _ ?_)
 refine Cx.seq (fun K3 k3 => ?_)
 refine Cx.region <| Lx.y (mv rfl) rfl <| Lx.y (lenV (ty' := 0) U111 rfl) rfl <| Lx.y (asg rfl) rfl <| Lx.nil <| ?_
 refine Xx.tn (k3 _ _ _ _ ?_)
 refine Cx.seq (fun K4 k4 => ?_)
 refine Cx.seq (fun K5 k5 => ?_)
 refine Cx.region <| Lx.y (mv rfl) rfl <| Lx.y (eqI rfl rfl) rfl <| Lx.nil <| ?_
 refine Xx.tn (k5 _ _ _ _ ?_)
 refine Cx.condD rfl (fun h6 => ?_) (fun h6 => ?_)
 ·
  exact absurd h6 (by decide)
 ·
  refine Cx.skip ?_
  refine Xx.tn (k4 _ _ _ _ ?_)
  refine Cx.seq (fun K7 k7 => ?_)
  refine Cx.region <| Lx.y (mv rfl) rfl <| Lx.y (lenV (ty' := 0) U111 rfl) rfl <| Lx.y (asg rfl) rfl <| Lx.nil <| ?_
  refine Xx.tn (k7 _ _ _ _ ?_)
  refine Cx.seq (fun K8 k8 => ?_)
  refine Cx.seq (fun K9 k9 => ?_)
  refine Cx.region <| Lx.y (mv rfl) rfl <| Lx.y (mv rfl) rfl <| Lx.y (eqI rfl rfl) rfl <| Lx.nil <| ?_
  refine Xx.tn (k9 _ _ _ _ ?_)
  refine Cx.condD rfl (fun h10 => ?_) (fun h10 => ?_)
  ·
   refine Cx.seq (fun K11 k11 => ?_)
   refine Cx.region <| Lx.y (mv rfl) rfl <| Lx.y (mv rfl) rfl <| ?_
   refine Lx.o (appN (et := 110) (n + 1) news (xs ++ news) U111 U111 ti110 rfl rfl (by rw [hns]) (by rw [List.drop_zero, List.take_of_length_le (by omega)]) hn1 (by omega) (by omega) rfl rfl) rfl (fun v B' H' hΦ hB => ?_)
   obtain ⟨A3, c3, rfl, hA3, hl3, hc3, hBB, rfl⟩ := hΦ
   obtain rfl := hBB.symm
   clear hB
   refine Lx.y (asg rfl) rfl <| Lx.nil <| ?_
   refine Xx.tn (k11 _ _ _ _ ?_)
   refine Cx.ret <| Xx.tr <| ?_
   exact Xx.dropB vb (Xx.ret1 rfl rfl ⟨A3, c3, rfl, rfl, rfl, hA3 (by omega), hc3⟩ (Frag.le_refl _) rfl)
  ·
   exact absurd rfl h10
set_option maxHeartbeats 1000000 in
theorem InsN_mid (b : Nat) (sp : List Value) (i n c : Nat) (xs : List Value) (vb : Nat) (etv : TypeId) (news : List Value) (B : Frag) (hi : i < n) (hxl : xs.length = n * 1) (hnc : n ≤ c) (hcl : (xs ++ sp).length = c * 1) (hx1 : xs.all (·.oneCell') = true) (hns : news.length = 1) (hn1 : news.all (·.oneCell') = true) (hbd : (n + 1) * 8 ≤ 140737488355328) : Ct Tryz.prog 80 [.slice (some ⟨b, 0, none⟩) n c, i64 (i : Nat), .slice (some ⟨vb, 0, none⟩) 1 1] B (row vb etv news * row b 110 (xs ++ sp)) (fun v B' H' => ∃ b' c' sp', v = .slice (some ⟨b', 0, none⟩) (n + 1) c' ∧ B' = B ∧ H' = row b' 110 (xs.take (i * 1) ++ news ++ xs.drop (i * 1) ++ sp') ∧ (xs.take (i * 1) ++ news ++ xs.drop (i * 1) ++ sp').length = c' * 1 ∧ n + 1 ≤ c') := by
 have hxl2 := hcl
 rw [List.length_append] at hxl2
 have hDl : (xs.drop (i * 1)).length = (n - i) * 1 := by rw [List.length_drop]; omega
 have hD1 : (xs.drop (i * 1)).all (·.oneCell') = true := by rw [List.all_eq_true] at hx1 ⊢; exact fun v hv => hx1 v (List.mem_of_mem_drop hv)
 have hTl : (xs.take (i * 1)).length = i * 1 := by rw [List.length_take]; omega
 refine Ct.of_body Tryz.func80 rfl (nt := 95) rfl (by kernel_rfl) rfl ?_
 intro N0 w0 R
 rw [star_assoc]
 refine Cx.seq (fun K1 k1 => ?_)
 refine Cx.region <| Lx.y (asg rfl) rfl <| Lx.nil <| ?_
 refine Xx.tn (k1 _ _ _ _ ?_)
 refine Cx.seq (fun K2 k2 => ?_)
 refine Cx.region <| Lx.y (mv rfl) rfl <| Lx.y (mv rfl) rfl <| Lx.y (sl1V U111 sz110 rfl rfl (Int.toNat_natCast _) (by omega) (by omega)) rfl <| Lx.nil <| ?_
 refine Xx.tn (k2 _ _ _ _ ?_)
 refine Cx.seq (fun K3 k3 => ?_)
 refine Cx.region <| Lx.y (mv rfl) rfl <| Lx.y (lenV (ty' := 0) U111 rfl) rfl <| Lx.y (asg rfl) rfl <| Lx.nil <| ?_
 refine Xx.tn (k3 _ _ _ _ ?_)
 refine Cx.seq (fun K4 k4 => ?_)
 refine Cx.seq (fun K5 k5 => ?_)
 refine Cx.region <| Lx.y (mv rfl) rfl <| Lx.y (eqI rfl rfl) rfl <| Lx.nil <| ?_
 refine Xx.tn (k5 _ _ _ _ ?_)
 refine Cx.condD rfl (fun h6 => ?_) (fun h6 => ?_)
 ·
  exact absurd h6 (by decide)
 ·
  refine Cx.skip ?_
  refine Xx.tn (k4 _ _ _ _ ?_)
  refine Cx.seq (fun K7 k7 => ?_)
  refine Cx.region <| Lx.y (mv rfl) rfl <| Lx.y (lenV (ty' := 0) U111 rfl) rfl <| Lx.y (asg rfl) rfl <| Lx.nil <| ?_
  refine Xx.tn (k7 _ _ _ _ ?_)
  refine Cx.seq (fun K8 k8 => ?_)
  refine Cx.seq (fun K9 k9 => ?_)
  refine Cx.region <| Lx.y (mv rfl) rfl <| Lx.y (mv rfl) rfl <| Lx.y (eqI rfl rfl) rfl <| Lx.nil <| ?_
  refine Xx.tn (k9 _ _ _ _ ?_)
  refine Cx.condD rfl (fun h10 => ?_) (fun h10 => ?_)
  ·
   exact absurd h10 (by omega)
  ·
   refine Cx.skip ?_
   refine Xx.tn (k8 _ _ _ _ ?_)
   refine Cx.seq (fun K11 k11 => ?_)
   refine Cx.seq (fun K12 k12 => ?_)
   refine Cx.region <| Lx.y (mv rfl) rfl <| Lx.y (mv rfl) rfl <| Lx.y (add rfl rfl (by first | exact wrap64 (by omega) (by omega) | rfl)) rfl <| Lx.y (mv rfl) rfl <| Lx.y (capV U111 rfl) rfl <| Lx.y (gtr rfl rfl) rfl <| Lx.nil <| ?_
   refine Xx.tn (k12 _ _ _ _ ?_)
   refine Cx.condD rfl (fun h13 => ?_) (fun h13 => ?_)
   ·
    have hno := h13
    refine Cx.seq (fun K14 k14 => ?_)
    refine Cx.region <| Lx.y (mv rfl) rfl <| Lx.y (mv rfl) rfl <| Lx.y (sl2V U111 sz110 rfl rfl (Int.toNat_natCast _) (by omega) (by omega)) rfl <| Lx.y (mv rfl) rfl <| Lx.y (mv rfl) rfl <| Lx.y (add rfl rfl (by first | exact wrap64 (by omega) (by omega) | rfl)) rfl <| Lx.y (mv rfl) rfl <| Lx.y (sub rfl rfl (show IntKind.i64.wrap _ = ((n + 1 - i : Nat) : Int) by rw [wrap64 (by omega) (by omega)]; omega)) rfl <| ?_
    refine Lx.o (amO (olds := xs.take (i * 1)) (m := n + 1 - i) U111 U3 ti110 rfl rfl (SrcH.own (b := b) (o := 0) (i * 1) (by rw [List.drop_zero]; exact List.take_append_of_le_length (by omega))) hTl (by omega) (by omega) (by rw [show i + (n + 1 - i) = n + 1 by omega]; exact hbd)) rfl (fun v B' H' hΦ hB => ?_)
    obtain ⟨b9, c9, rest, rfl, hc9, hrl, hBB, rfl⟩ := hΦ
    obtain rfl := hBB.symm
    clear hB
    rw [show i + (n + 1 - i) = n + 1 by omega] at hc9 ⊢
    refine Lx.y (asg rfl) rfl <| Lx.nil <| ?_
    refine Xx.tn (k14 _ _ _ _ ?_)
    refine Cx.seq (fun K15 k15 => ?_)
    refine Cx.region <| Lx.y (mv rfl) rfl <| Lx.y (mv rfl) rfl <| Lx.y (sl1A i U111 sz110 rfl rfl rfl (by omega) (by omega)) rfl <| Lx.y (mv rfl) rfl <| ?_
    refine Lx.o (cpO (cs' := (xs.take (i * 1) ++ news ++ rest.drop 1)) 1 U111 sz110 rfl rfl (show Nat.min _ _ = _ by first | rfl | (simp only [Nat.min_def]; split <;> omega)) (SrcH.own (b := vb) (o := 0) (news := news) 1 (by rw [List.drop_zero, List.take_of_length_le (by omega)])) (by rw [hns]) hn1 (by rw [Nat.zero_add, List.length_append, hTl]; omega) (by rw [Nat.zero_add]; exact ins_grow1 hTl hns (by omega))) rfl (fun v B' H' hΦ hB => ?_)
    obtain ⟨rfl, hBB, rfl⟩ := hΦ
    obtain rfl := hBB.symm
    clear hB
    refine Lx.nil ?_
    refine Xx.tn (k15 _ _ _ _ ?_)
    refine Cx.seq (fun K16 k16 => ?_)
    refine Cx.drawn (by kernel_rfl) ?_
    refine Dx.p (i := 0) rfl (by kernel_rfl) (mv rfl) rfl ?_
    refine Dx.p (i := 1) rfl (by kernel_rfl) (mv rfl) rfl ?_
    refine Dx.p (i := 2) rfl (by kernel_rfl) (mv rfl) rfl ?_
    refine Dx.p (i := 3) rfl (by kernel_rfl) (add rfl rfl (show IntKind.i64.wrap _ = ((i + 1 : Nat) : Int) by rw [wrap64 (by omega) (by omega)]; rfl)) rfl ?_
    refine Dx.p (i := 4) rfl (by kernel_rfl) (sl1A (i + 1) U111 sz110 rfl rfl rfl (by omega) (by omega)) rfl ?_
    refine Dx.p (i := 5) rfl (by kernel_rfl) (mv rfl) rfl ?_
    refine Dx.p (i := 6) rfl (by kernel_rfl) (mv rfl) rfl ?_
    refine Dx.p (i := 7) rfl (by kernel_rfl) (sl1A i U111 sz110 rfl rfl rfl (by omega) (by omega)) rfl ?_
    refine Dx.one (i := 8) (by kernel_rfl) ?_
    refine Dstep.o (i := 8) rfl (cpO (cs' := (xs.take (i * 1) ++ news ++ xs.drop (i * 1) ++ (rest.drop 1).drop (xs.drop (i * 1)).length)) (n - i) U111 sz110 rfl rfl (show Nat.min _ _ = _ by first | rfl | (simp only [Nat.min_def]; split <;> omega)) (SrcH.own (b := b) (o := 0 + i * 1) (news := xs.drop (i * 1)) ((n - i) * 1) (by rw [Nat.zero_add, List.drop_append_of_le_length (by omega), List.take_append_of_le_length (by omega), List.take_of_length_le (by omega)])) hDl hD1 (by simp only [List.length_append, List.length_drop, hTl, hns, hDl]; omega) (by rw [Nat.zero_add, show (i + 1) * 1 = i * 1 + 1 by omega]; exact ins_grow2 hTl hns)) rfl (fun v B' H' hΦ hB => ?_)
    obtain ⟨rfl, rfl, rfl⟩ := hΦ
    clear hB
    refine ⟨JOk.top, ?_⟩
    refine Dx.done (by kernel_rfl) ?_
    refine Xx.tn (k16 _ _ _ _ ?_)
    refine Cx.seq (fun K17 k17 => ?_)
    refine Cx.region <| Lx.y (mv rfl) rfl <| Lx.y (asg rfl) rfl <| Lx.nil <| ?_
    refine Xx.tn (k17 _ _ _ _ ?_)
    refine Cx.ret <| Xx.tr <| ?_
    exact Xx.dropB vb (Xx.dropB b (Xx.ret1 rfl rfl ⟨b9, c9, _, rfl, rfl, rfl, by simp only [List.length_append, List.length_drop, hTl, hns, hDl]; omega, hc9⟩ (Frag.le_refl _) rfl))
   ·
    have hno := h13
    refine Cx.skip ?_
    refine Xx.tn (k11 _ _ _ _ ?_)
    refine Cx.seq (fun K18 k18 => ?_)
    refine Cx.region <| Lx.y (mv rfl) rfl <| Lx.y (mv rfl) rfl <| Lx.y (mv rfl) rfl <| Lx.y (add rfl rfl (show IntKind.i64.wrap _ = ((n + 1 : Nat) : Int) by rw [wrap64 (by omega) (by omega)]; rfl)) rfl <| Lx.y (sl2V U111 sz110 rfl rfl (Int.toNat_natCast _) (by omega) (by omega)) rfl <| Lx.y (asg rfl) rfl <| Lx.nil <| ?_
    refine Xx.tn (k18 _ _ _ _ ?_)
    refine Cx.seq (fun K19 k19 => ?_)
    refine Cx.seq (fun K20 k20 => ?_)
    refine Cx.region <| Lx.y (mv rfl) rfl <| Lx.y (mv rfl) rfl <| Lx.y (mv rfl) rfl <| Lx.y (mv rfl) rfl <| Lx.y (add rfl rfl (show IntKind.i64.wrap _ = ((i + 1 : Nat) : Int) by rw [wrap64 (by omega) (by omega)]; rfl)) rfl <| Lx.y (sl1V U111 sz110 rfl rfl (Int.toNat_natCast _) (by omega) (by omega)) rfl <| ?_
    rw [show subA (some ⟨b, 0, none⟩) c (i + 1) 1 = (if c = i + 1 then some ⟨b, 0, none⟩ else some ⟨b, 0 + (i + 1) * 1, none⟩) by unfold subA; split <;> simp [add_mk]]
    have hcne : ¬ c = i + 1 := by omega
    rw [if_neg hcne]
    refine Lx.y (extc rfl rfl (ovQ (tS := 111) (tR := 4) Tryz.func98 (by kernel_rfl) (by kernel_rfl) (by kernel_rfl) (by kernel_rfl) U111 sz110 rfl (by intro z; have h9 := congrArg List.length z; rw [List.length_append, List.length_nil] at h9; omega))) rfl <| Lx.y (not' rfl) rfl <| Lx.nil <| ?_
    refine Xx.tn (k20 _ _ _ _ ?_)
    refine Cx.condT rfl ?_
    refine Cx.seq (fun K21 k21 => ?_)
    refine Cx.drawn (by kernel_rfl) ?_
    refine Dx.p (i := 0) rfl (by kernel_rfl) (mv rfl) rfl ?_
    refine Dx.p (i := 1) rfl (by kernel_rfl) (mv rfl) rfl ?_
    refine Dx.p (i := 2) rfl (by kernel_rfl) (mv rfl) rfl ?_
    refine Dx.p (i := 3) rfl (by kernel_rfl) (add rfl rfl (show IntKind.i64.wrap _ = ((i + 1 : Nat) : Int) by rw [wrap64 (by omega) (by omega)]; rfl)) rfl ?_
    refine Dx.p (i := 4) rfl (by kernel_rfl) (sl1A (i + 1) U111 sz110 rfl rfl rfl (by omega) (by omega)) rfl ?_
    refine Dx.p (i := 5) rfl (by kernel_rfl) (mv rfl) rfl ?_
    refine Dx.p (i := 6) rfl (by kernel_rfl) (mv rfl) rfl ?_
    refine Dx.p (i := 7) rfl (by kernel_rfl) (sl1A i U111 sz110 rfl rfl rfl (by omega) (by omega)) rfl ?_
    refine Dx.one (i := 8) (by kernel_rfl) ?_
    refine Dstep.o (i := 8) rfl (cpO (cs' := ((xs ++ sp).take (i * 1 + 1) ++ xs.drop (i * 1) ++ (xs ++ sp).drop ((n + 1) * 1))) (n - i) U111 sz110 rfl rfl (show Nat.min _ _ = _ by first | rfl | (simp only [Nat.min_def]; split <;> omega)) (SrcH.own (b := b) (o := 0 + i * 1) (news := xs.drop (i * 1)) ((n - i) * 1) (by rw [Nat.zero_add, List.drop_append_of_le_length (by omega), List.take_append_of_le_length (by omega), List.take_of_length_le (by omega)])) hDl hD1 (by rw [List.length_append]; omega) (by rw [Nat.zero_add, hDl, show (i + 1) * 1 = i * 1 + 1 by omega, show i * 1 + 1 + (n - i) * 1 = (n + 1) * 1 by omega])) rfl (fun v B' H' hΦ hB => ?_)
    obtain ⟨rfl, rfl, rfl⟩ := hΦ
    clear hB
    refine ⟨JOk.top, ?_⟩
    refine Dx.done (by kernel_rfl) ?_
    refine Xx.tn (k21 _ _ _ _ ?_)
    refine Cx.seq (fun K22 k22 => ?_)
    refine Cx.region <| Lx.y (mv rfl) rfl <| Lx.y (mv rfl) rfl <| Lx.y (sl1A i U111 sz110 rfl rfl rfl (by omega) (by omega)) rfl <| Lx.y (mv rfl) rfl <| ?_
    refine Lx.o (cpO (cs' := (xs.take (i * 1) ++ news ++ xs.drop (i * 1) ++ (xs ++ sp).drop ((n + 1) * 1))) 1 U111 sz110 rfl rfl (show Nat.min _ _ = _ by first | rfl | (simp only [Nat.min_def]; split <;> omega)) (SrcH.own (b := vb) (o := 0) (news := news) 1 (by rw [List.drop_zero, List.take_of_length_le (by omega)])) (by rw [hns]) hn1 (by simp only [List.length_append, List.length_take, List.length_drop, hDl]; omega) (by rw [Nat.zero_add]; exact ins_room (by omega) hns (by rw [List.length_append]; omega) (List.take_append_of_le_length (by omega)) rfl (by omega))) rfl (fun v B' H' hΦ hB => ?_)
    obtain ⟨rfl, hBB, rfl⟩ := hΦ
    obtain rfl := hBB.symm
    clear hB
    refine Lx.nil ?_
    refine Xx.tn (k22 _ _ _ _ ?_)
    refine Cx.seq (fun K23 k23 => ?_)
    refine Cx.region <| Lx.y (mv rfl) rfl <| Lx.y (asg rfl) rfl <| Lx.nil <| ?_
    refine Xx.tn (k23 _ _ _ _ ?_)
    refine Cx.ret <| Xx.tr <| ?_
    exact Xx.dropB vb (Xx.ret1 rfl rfl ⟨b, c, _, rfl, rfl, rfl, by simp only [List.length_append, List.length_drop, hTl, hns, hDl]; omega, by omega⟩ (Frag.le_refl _) rfl)
theorem InsN_ct (A : Option Addr) (i n c : Nat) (xs : List Value) (vb : Nat) (etv : TypeId) (news : List Value) (B : Frag) (hi : i ≤ n) (hxl : xs.length = n * 1) (hx1 : xs.all (·.oneCell') = true) (hns : news.length = 1) (hn1 : news.all (·.oneCell') = true) (hbd : (n + 1) * 8 ≤ 140737488355328) :
    Ct Tryz.prog 80 [.slice A n c, i64 (i : Nat), .slice (some ⟨vb, 0, none⟩) 1 1] B (sbuf 110 1 A n c xs * row vb etv news) (fun v B' H' => ∃ A' c', v = .slice A' (n + 1) c' ∧ B' = B ∧ H' = sbuf 110 1 A' (n + 1) c' (xs.take (i * 1) ++ news ++ xs.drop (i * 1)) ∧ (∃ b, A' = some ⟨b, 0, none⟩) ∧ n + 1 ≤ c') := by
  by_cases h : i = n
  · subst h
    have h1 : xs.take (i * 1) = xs := List.take_of_length_le (by omega)
    have h2 : xs.drop (i * 1) = [] := List.drop_of_length_le (by omega)
    rw [h1, h2, List.append_nil]
    exact InsN_end A i c xs vb etv news B hns hn1 hbd
  · refine Ct.of_sbuf (by omega) (fun b sp hA hx hnc hcl => ?_) (Go.SL.enters_of Tryz.func80 rfl (by kernel_rfl))
    subst hA
    have hm := InsN_mid b sp i n c xs vb etv news B (by omega) hxl hnc hcl hx1 hns hn1 hbd
    refine ⟨hm.1, fun N0 w R s => (hm.2 N0 w R s).mono ?_⟩
    rintro x w' ⟨v, B', _, hx', ⟨b', c', sp', hv, hB, rfl, hl, hc'⟩, hBB, hb, s'⟩
    refine ⟨v, B', _, hx', ⟨some ⟨b', 0, none⟩, c', hv, hB, rfl, ⟨b', rfl⟩, hc'⟩, hBB, hb, row_sbuf ?_ hc' hl s'⟩
    simp only [List.length_append, List.length_take, List.length_drop, hns, hxl]; omega
set_option maxHeartbeats 1000000 in
theorem CloneS_ct (A : Option Addr) (n c : Nat) (news : List Value) (B : Frag) (hn0 : 0 < n) (hR : RoS B 1 A n news) (h1 : news.all (·.oneCell') = true) (hbd : n * 16 ≤ 140737488355328) : Ct Tryz.prog 59 [.slice A n c] B 1 (fun v B' H' => B' = B ∧ ∃ A' c', v = .slice A' n c' ∧ H' = sbuf 9 1 A' n c' news ∧ n ≤ c') := by
 obtain ⟨b, o, rfl⟩ : ∃ b o, A = some ⟨b, o, none⟩ := by
  obtain ⟨_, h | ⟨b, o, _, _, _, h, _⟩⟩ := hR
  ·omega
  ·exact ⟨b, o, h⟩
 refine Ct.of_body Tryz.func59 rfl (nt := 8) rfl (by kernel_rfl) rfl ?_
 intro N0 w0 R
 rw [one_star]
 refine Cx.seq (fun K1 k1 => ?_)
 refine Cx.region <| Lx.y (asg rfl) rfl <| Lx.nil <| ?_
 refine Xx.tn (k1 _ _ _ _ ?_)
 refine Cx.seq (fun K2 k2 => ?_)
 refine Cx.seq (fun K3 k3 => ?_)
 refine Cx.region <| Lx.y (mv rfl) rfl <| Lx.y (Yx.ff (eqNilV U23 rfl rfl) rfl) rfl <| Lx.nil <| ?_
 refine Xx.tn (k3 _ _ _ _ ?_)
 refine Cx.condF rfl <| Cx.skip <| ?_
 refine Xx.tn (k2 _ _ _ _ ?_)
 refine Cx.seq (fun K4 k4 => ?_)
 refine Cx.region ?_
 refine Lx.bsl (bsl1 U23 ti9 rfl rfl rfl (by decide)) rfl (fun b0 => ?_)
 refine Xx.toS b0 1 0 0 rfl (Nat.le_refl _) rfl ?_
 refine Lx.y (mv rfl) rfl ?_
 refine Lx.o (appO (et := 9) (p := 1) (R := R) U23 U23 ti9 rfl rfl (hR.src _) h1 (by rw [one_star]) (by omega) (by omega)) rfl (fun v B' H' hΦ hB => ?_)
 obtain ⟨A3, c3, rfl, hA3, hl3, hc3, hBB, rfl⟩ := hΦ
 obtain rfl := hBB.symm
 clear hB
 rw [one_star, Nat.zero_add, List.nil_append] at *
 refine Lx.y (asg rfl) rfl <| Lx.nil <| ?_
 refine Xx.tn (k4 _ _ _ _ ?_)
 refine Cx.ret ?_
 exact Xx.ret1 rfl rfl ⟨rfl, A3, c3, rfl, rfl, hc3⟩ (Frag.le_refl _) rfl
set_option maxHeartbeats 1000000 in
theorem CloneN_ct (A : Option Addr) (n c : Nat) (news : List Value) (B : Frag) (hn0 : 0 < n) (hR : RoS B 1 A n news) (h1 : news.all (·.oneCell') = true) (hbd : n * 8 ≤ 140737488355328) : Ct Tryz.prog 78 [.slice A n c] B 1 (fun v B' H' => B' = B ∧ ∃ A' c', v = .slice A' n c' ∧ H' = sbuf 110 1 A' n c' news ∧ n ≤ c') := by
 obtain ⟨b, o, rfl⟩ : ∃ b o, A = some ⟨b, o, none⟩ := by
  obtain ⟨_, h | ⟨b, o, _, _, _, h, _⟩⟩ := hR
  ·omega
  ·exact ⟨b, o, h⟩
 refine Ct.of_body Tryz.func78 rfl (nt := 8) rfl (by kernel_rfl) rfl ?_
 intro N0 w0 R
 rw [one_star]
 refine Cx.seq (fun K1 k1 => ?_)
 refine Cx.region <| Lx.y (asg rfl) rfl <| Lx.nil <| ?_
 refine Xx.tn (k1 _ _ _ _ ?_)
 refine Cx.seq (fun K2 k2 => ?_)
 refine Cx.seq (fun K3 k3 => ?_)
 refine Cx.region <| Lx.y (mv rfl) rfl <| Lx.y (Yx.ff (eqNilV U111 rfl rfl) rfl) rfl <| Lx.nil <| ?_
 refine Xx.tn (k3 _ _ _ _ ?_)
 refine Cx.condF rfl <| Cx.skip <| ?_
 refine Xx.tn (k2 _ _ _ _ ?_)
 refine Cx.seq (fun K4 k4 => ?_)
 refine Cx.region ?_
 refine Lx.bsl (bsl1 U111 ti110 rfl rfl rfl (by decide)) rfl (fun b0 => ?_)
 refine Xx.toS b0 1 0 0 rfl (Nat.le_refl _) rfl ?_
 refine Lx.y (mv rfl) rfl ?_
 refine Lx.o (appO (et := 110) (p := 1) (R := R) U111 U111 ti110 rfl rfl (hR.src _) h1 (by rw [one_star]) (by omega) (by omega)) rfl (fun v B' H' hΦ hB => ?_)
 obtain ⟨A3, c3, rfl, hA3, hl3, hc3, hBB, rfl⟩ := hΦ
 obtain rfl := hBB.symm
 clear hB
 rw [one_star, Nat.zero_add, List.nil_append] at *
 refine Lx.y (asg rfl) rfl <| Lx.nil <| ?_
 refine Xx.tn (k4 _ _ _ _ ?_)
 refine Cx.ret ?_
 exact Xx.ret1 rfl rfl ⟨rfl, A3, c3, rfl, rfl, hc3⟩ (Frag.le_refl _) rfl
end BtB
end Go.Proofs.YtdidpocakipinaaGreatDoor
namespace Go.Proofs.YtdidpocakipinaaGreatDoor
open Go.SL Go.RowKit
set_option maxRecDepth 100000
open Ke1 Ke3 Ke4 Ke5 Ke6 Ke7 Ke8 Ke9 KeA KeB KeC KeD KeE KeF KeG KeI RgA BtB
namespace BtC
inductive C where
  | mk (b : Nat) (Ak : Option Addr) (ck : Nat) (Av : Option Addr) (cv : Nat) (Ac : Option Addr) (cc : Nat) (ks vs : List (List UInt8)) (cs : List C)
instance : Inhabited C := ⟨.mk 0 none 0 none 0 none 0 [] [] []⟩
def C.b : C → Nat | .mk b _ _ _ _ _ _ _ _ _ => b
def C.Ak : C → Option Addr | .mk _ a _ _ _ _ _ _ _ _ => a
def C.ck : C → Nat | .mk _ _ c _ _ _ _ _ _ _ => c
def C.Av : C → Option Addr | .mk _ _ _ a _ _ _ _ _ _ => a
def C.cv : C → Nat | .mk _ _ _ _ c _ _ _ _ _ => c
def C.Ac : C → Option Addr | .mk _ _ _ _ _ a _ _ _ _ => a
def C.cc : C → Nat | .mk _ _ _ _ _ _ c _ _ _ => c
def C.ks : C → List (List UInt8) | .mk _ _ _ _ _ _ _ k _ _ => k
def C.vs : C → List (List UInt8) | .mk _ _ _ _ _ _ _ _ v _ => v
def C.cs : C → List C | .mk _ _ _ _ _ _ _ _ _ c => c
def pt (c : C) : Value := .pointer (some ⟨c.b, 0, none⟩)
def ncells (c : C) : List Value := [.slice c.Ak c.ks.length c.ck, .slice c.Av c.vs.length c.cv, .slice c.Ac c.cs.length c.cc]
abbrev nrow (c : C) : HP := row c.b 113 (ncells c)
abbrev kbuf (c : C) : HP := sbuf 9 1 c.Ak c.ks.length c.ck (c.ks.map str)
abbrev vbuf (c : C) : HP := sbuf 9 1 c.Av c.vs.length c.cv (c.vs.map str)
abbrev cbuf (c : C) : HP := sbuf 110 1 c.Ac c.cs.length c.cc (c.cs.map pt)
def trs (f : C → HP) : List C → HP
  | [] => 1
  | c :: cs => f c * trs f cs
def tr : Nat → C → HP
  | 0, _ => 1
  | d + 1, c => nrow c * (kbuf c * (vbuf c * (cbuf c * trs (tr d) c.cs)))
def TrB (B : Frag) : Nat → C → Prop
  | 0, _ => False
  | d + 1, c => (∃ fz, B c.b = some (.cells (ncells c).toArray 113 fz)) ∧ RoE B c.Ak c.ks.length (c.ks.map str) ∧ RoE B c.Av c.vs.length (c.vs.map str) ∧ RoE B c.Ac c.cs.length (c.cs.map pt) ∧ ∀ p ∈ c.cs, TrB B d p
theorem TrB.mono {B B' : Frag} (hB : B.le B') : ∀ {d : Nat} {c : C}, TrB B d c → TrB B' d c := by
  intro d
  induction d with
  | zero => intro c h; exact h.elim
  | succ d ih =>
    rintro c ⟨⟨fz, h1⟩, h2, h3, h4, h5⟩
    exact ⟨⟨fz, hB _ _ h1⟩, h2.mono hB, h3.mono hB, h4.mono hB, fun p hp => ih (h5 p hp)⟩
def Fit : Nat → C → Prop
  | 0, _ => False
  | d + 1, c => ∀ p ∈ c.cs, Fit d p
theorem ap_left {k a c B : Frag} (h : k.apart B) (e : k = Frag.un a c) : a.apart B := fun b o hb => h b o (by rw [e]; simp [Frag.un, hb])
theorem ap_right {k a c B : Frag} (h : k.apart B) (e : k = Frag.un a c) (hd : Frag.disj a c) : c.apart B := fun b o hb => h b o (by
  rw [e]
  rcases hd b with z | z
  · simp [Frag.un, z, hb]
  · rw [z] at hb; cases hb)
theorem un_le {k a c B : Frag} (e : k = Frag.un a c) (hd : Frag.disj a c) : (Frag.un B a).le (Frag.un B k) ∧ (Frag.un B c).le (Frag.un B k) := by
  subst e
  constructor
  · intro b o h
    simp only [Frag.un] at h ⊢
    cases hB : B b with
    | some u => rw [hB] at h; simpa using h
    | none => rw [hB] at h; simp at h; simp [h]
  · intro b o h
    simp only [Frag.un] at h ⊢
    cases hB : B b with
    | some u => rw [hB] at h; simpa using h
    | none =>
      rw [hB] at h
      rcases hd b with z | z
      · simp [z] at h ⊢; exact h
      · rw [z] at h; simp at h
theorem row_ro {B k : Frag} {b : Nat} {et : TypeId} {cs : List Value} (h : row b et cs k) (ha : k.apart B) : Frag.un B k b = some (.cells cs.toArray et (0, 0)) := by
  have e : k = Frag.one b (.cells cs.toArray et (0, 0)) := h
  subst e
  exact Frag.un_right ha (by simp [Frag.one])
theorem trs_ro {B : Frag} {d : Nat} (ih : ∀ (c : C) (k : Frag), tr d c k → k.apart B → Fit d c → TrB (Frag.un B k) d c) : ∀ (cs : List C) (k : Frag), trs (tr d) cs k → k.apart B → (∀ p ∈ cs, Fit d p) → ∀ p ∈ cs, TrB (Frag.un B k) d p := by
  intro cs
  induction cs with
  | nil => intro k _ _ _ p hp; cases hp
  | cons c cs ihs =>
    rintro k ⟨k1, k2, hd, e, h1, h2⟩ ha hf p hp
    have hl := un_le (B := B) e hd
    rcases List.mem_cons.1 hp with rfl | hp
    · exact (ih p k1 h1 (ap_left ha e) (hf p (by simp))).mono hl.1
    · exact (ihs k2 h2 (ap_right ha e hd) (fun q hq => hf q (by simp [hq])) p hp).mono hl.2
theorem roe_of {B : Frag} {A : Option Addr} {n : Nat} {xs : List Value} (h : RoS B 1 A n xs) : RoE B A n xs := RoS.roe h
theorem tr_ro {B : Frag} : ∀ (d : Nat) (c : C) (k : Frag), tr d c k → k.apart B → Fit d c → TrB (Frag.un B k) d c := by
  intro d
  induction d with
  | zero => intro c k _ _ h; exact h.elim
  | succ d ih =>
    rintro c k ⟨k1, m1, d1, e1, h1, k2, m2, d2, e2, h2, k3, m3, d3, e3, h3, k4, m4, d4, e4, h4, h5⟩ ha hf
    have a1 := ap_right ha e1 d1
    have a2 := ap_right a1 e2 d2
    have a3 := ap_right a2 e3 d3
    have l1 := un_le (B := B) e1 d1
    have l2 := un_le (B := B) e2 d2
    have l3 := un_le (B := B) e3 d3
    have l4 := un_le (B := B) e4 d4
    refine ⟨⟨(0, 0), l1.1 _ _ (row_ro h1 (ap_left ha e1))⟩, ?_, ?_, ?_, fun p hp => ?_⟩
    · exact (roe_of (sbuf_ro h2 (ap_left a1 e2)).1).mono (Frag.le_trans l2.1 l1.2)
    · exact (roe_of (sbuf_ro h3 (ap_left a2 e3)).1).mono (Frag.le_trans l3.1 (Frag.le_trans l2.2 l1.2))
    · exact (roe_of (sbuf_ro h4 (ap_left a3 e4)).1).mono (Frag.le_trans l4.1 (Frag.le_trans l3.2 (Frag.le_trans l2.2 l1.2)))
    · exact (trs_ro (fun c k h1 h2 h3 => ih c k h1 h2 h3) c.cs m4 h5 (ap_right a3 e4 d4) hf p hp).mono (Frag.le_trans l4.2 (Frag.le_trans l3.2 (Frag.le_trans l2.2 l1.2)))
theorem trs_at (f : C → HP) : ∀ (cs : List C) (i : Nat) (h : i < cs.length), trs f cs = f cs[i] * (trs f (cs.take i) * trs f (cs.drop (i + 1))) := by
  intro cs
  induction cs with
  | nil => intro i h; simp at h
  | cons c cs ih =>
    intro i h
    cases i with
    | zero => show f c * trs f cs = f c * (1 * trs f cs); rw [one_star]
    | succ i =>
      have h' : i < cs.length := by simpa using h
      show f c * trs f cs = f cs[i] * ((f c * trs f (cs.take i)) * trs f (cs.drop (i + 1)))
      rw [ih i h']
      ac_rfl
theorem trs_app (f : C → HP) : ∀ (a b : List C), trs f (a ++ b) = trs f a * trs f b := by
  intro a
  induction a with
  | nil => intro b; show trs f b = 1 * trs f b; rw [one_star]
  | cons c a ih => intro b; show f c * trs f (a ++ b) = (f c * trs f a) * trs f b; rw [ih, star_assoc]
def ioL (f : C → List (Str8 × Str8)) : List Str8 → List Str8 → List C → List (Str8 × Str8)
  | k :: ks, v :: vs, c :: cs => f c ++ (k, v) :: ioL f ks vs cs
  | k :: ks, v :: vs, [] => (k, v) :: ioL f ks vs []
  | _, _, c :: _ => f c
  | _, _, [] => []
def io : Nat → C → List (Str8 × Str8)
  | 0, _ => []
  | d + 1, c => ioL (io d) c.ks c.vs c.cs
def Ok1 : Nat → C → Prop
  | 0, _ => False
  | d + 1, c => c.vs.length = c.ks.length ∧ c.ks.length ≤ 7 ∧ (c.cs = [] ∨ c.cs.length = c.ks.length + 1) ∧ ∀ p ∈ c.cs, Ok1 d p
def Ok (N : Nat) : Nat → C → Prop
  | 0, _ => False
  | d + 1, c => c.vs.length = c.ks.length ∧ c.ks.length ≤ N ∧ (c.cs = [] ∨ c.cs.length = c.ks.length + 1) ∧ ∀ p ∈ c.cs, Ok1 d p
theorem Ok.fit {N : Nat} : ∀ {d : Nat} {c : C}, Ok N d c → Fit d c := by
  have h1 : ∀ {d : Nat} {c : C}, Ok1 d c → Fit d c := by
    intro d
    induction d with
    | zero => intro c h; exact h
    | succ d ih => intro c h p hp; exact ih (h.2.2.2 p hp)
  intro d c h
  cases d with
  | zero => exact h
  | succ d => exact fun p hp => h1 (h.2.2.2 p hp)
theorem Ok.of1 : ∀ {d : Nat} {c : C}, Ok1 d c → Ok 7 d c := by
  intro d c h
  cases d with
  | zero => exact h
  | succ d => exact h
theorem Ok.le {N M : Nat} (hN : N ≤ M) : ∀ {d : Nat} {c : C}, Ok N d c → Ok M d c := by
  intro d c h
  cases d with
  | zero => exact h
  | succ d => exact ⟨h.1, Nat.le_trans h.2.1 hN, h.2.2⟩
def Ord (l : List (Str8 × Str8)) : Prop := l.Pairwise (fun a b => bless a.1 b.1 = true)
def insP (k v : Str8) : List (Str8 × Str8) → List (Str8 × Str8)
  | [] => [(k, v)]
  | p :: l => if bless p.1 k = true then p :: insP k v l else if p.1 = k then (k, v) :: l else (k, v) :: p :: l
theorem insP_lt {k v : Str8} {p : Str8 × Str8} {l : List (Str8 × Str8)} (h : bless p.1 k = true) : insP k v (p :: l) = p :: insP k v l := by
  conv => lhs; unfold insP
  rw [if_pos h]
theorem insP_below {k v : Str8} : ∀ {a l : List (Str8 × Str8)}, (∀ p ∈ a, bless p.1 k = true) → insP k v (a ++ l) = a ++ insP k v l := by
  intro a
  induction a with
  | nil => intro l _; rfl
  | cons p a ih =>
    intro l h
    show insP k v (p :: (a ++ l)) = p :: (a ++ insP k v l)
    rw [insP_lt (h p (by simp)), ih fun q hq => h q (by simp [hq])]
theorem insP_above {k v : Str8} {l : List (Str8 × Str8)} : ∀ {a : List (Str8 × Str8)}, (∀ p ∈ l, bless k p.1 = true) → insP k v (a ++ l) = insP k v a ++ l := by
  intro a
  induction a with
  | nil =>
    intro h
    cases l with
    | nil => rfl
    | cons p l =>
      have h1 := h p (by simp)
      show insP k v (p :: l) = (k, v) :: p :: l
      unfold insP
      rw [if_neg (by rw [bless_asymm h1]; decide), if_neg (fun e => by rw [e, bless_irrefl] at h1; cases h1)]
  | cons p a ih =>
    intro h
    show insP k v (p :: (a ++ l)) = _
    unfold insP
    by_cases h1 : bless p.1 k = true
    · rw [if_pos h1, if_pos h1, ih h]; rfl
    · rw [if_neg h1, if_neg h1]
      by_cases h2 : p.1 = k
      · rw [if_pos h2, if_pos h2]; rfl
      · rw [if_neg h2, if_neg h2]; rfl
theorem insP_at {k v w : Str8} {l : List (Str8 × Str8)} : insP k v ((k, w) :: l) = (k, v) :: l := by
  unfold insP
  rw [if_neg (by rw [bless_irrefl]; decide), if_pos rfl]
theorem insP_mem {k v : Str8} : ∀ {l : List (Str8 × Str8)} {p : Str8 × Str8}, p ∈ insP k v l → p = (k, v) ∨ p ∈ l := by
  intro l
  induction l with
  | nil => intro p h; simpa [insP] using h
  | cons q l ih =>
    intro p h
    unfold insP at h
    split at h
    · rcases List.mem_cons.1 h with rfl | h
      · exact .inr (by simp)
      · rcases ih h with z | z
        · exact .inl z
        · exact .inr (by simp [z])
    · split at h
      · rcases List.mem_cons.1 h with rfl | h
        · exact .inl rfl
        · exact .inr (by simp [h])
      · rcases List.mem_cons.1 h with rfl | h
        · exact .inl rfl
        · exact .inr h
theorem insP_ord {k v : Str8} : ∀ {l : List (Str8 × Str8)}, Ord l → Ord (insP k v l) := by
  intro l
  induction l with
  | nil => intro _; exact List.pairwise_singleton _ _
  | cons q l ih =>
    intro h
    obtain ⟨h1, h2⟩ := List.pairwise_cons.1 h
    unfold insP
    split
    · rename_i hb
      refine List.pairwise_cons.2 ⟨fun p hp => ?_, ih h2⟩
      rcases insP_mem hp with rfl | hp
      · exact hb
      · exact h1 p hp
    · rename_i hb
      split
      · rename_i he
        refine List.pairwise_cons.2 ⟨fun p hp => ?_, h2⟩
        have := h1 p hp
        rw [he] at this; exact this
      · rename_i he
        have hlt : bless k q.1 = true := by
          cases hc : bless k q.1 with
          | true => rfl
          | false => exact absurd (bless_total (by simpa using hb) hc) he
        refine List.pairwise_cons.2 ⟨fun p hp => ?_, h⟩
        rcases List.mem_cons.1 hp with rfl | hp
        · exact hlt
        · exact bless_trans hlt (h1 p hp)
end BtC
end Go.Proofs.YtdidpocakipinaaGreatDoor
