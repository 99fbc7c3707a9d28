/-
  The reference: a value of bytes.
-/
import Derived.Test.YtcoiejmlpinpbaaProg
import Derived.Test.YtcoiejmlpinpbaaSlj
import Derived.Test.YtcoiejmlpinpbaaVaF
namespace Go.Proofs.Ytcoiejmlpinpbaa
open Go.SL Go.RowKit
set_option linter.unusedVariables false
set_option linter.unusedSimpArgs false
set_option maxRecDepth 100000
open Ke5 Ke6 Ke7 Ke8 Ke9 KeA KeB KeE KeF KeG KeH VaA VaB VaC VaD VaE VaF
namespace VaG
theorem sz3 : (Try.prog.info? 3).map (·.size) = some 1 := by kernel_rfl
theorem sz53 : (Try.prog.info? 53).map (·.size) = some 6 := by kernel_rfl
theorem sz100 : (Try.prog.info? 100).map (·.size) = some 3 := by kernel_rfl
theorem ti53 : TI Try.prog 53 [.int .i64 0, .bool false, .int .i64 0, str [], .slice none 0 0, .slice none 0 0] 6 88 := TI.of (by kernel_rfl) rfl rfl
theorem ti100 : TI Try.prog 100 [str [], .int .i64 0, .int .i64 0] 3 32 := TI.of (by kernel_rfl) rfl rfl
theorem fo100_2 : FO Try.prog 100 2 2 1 false := FO.of Try.underlying100 rfl rfl (by kernel_rfl) Try.underlying3 rfl rfl
theorem pl53 : PL Try.prog 53 [(0, 1), (1, 1), (2, 1), (3, 1), (4, 1), (5, 1)] := PL.of Try.underlying53 (by kernel_rfl)
theorem pl100 : PL Try.prog 100 [(0, 1), (1, 1), (2, 1)] := PL.of Try.underlying100 (by kernel_rfl)

theorem Rtake_ct : ∀ (d : Nat) (deep : Int), deep + (d + 1 : Nat) = 10 → 1 ≤ deep → ∀ (c : Cu) (B : Frag), c.ok → CtB Try.prog 58 [.agg (cvs c).toArray, i64 deep] B (fun v B' => ∃ cs', v = .tuple #[.agg (cvs (takeF (d + 1) deep c).1).toArray, .agg cs'.toArray] ∧ ValR B' (d + 1) (takeF (d + 1) deep c).2 cs') := by
  intro d
  induction d with
  | zero => intro deep hd h1 c B hc; exact Rtake_step 0 deep hd h1 (fun c B h8 _ => absurd h8 (by omega)) c B hc
  | succ d ih => intro deep hd h1 c B hc; exact Rtake_step (d + 1) deep hd h1 (fun c B h8 hc => ih (deep + 1) (by omega) (by omega) c B hc) c B hc

set_option maxHeartbeats 1000000 in
theorem RDecode_ct (s : List UInt8) (B : Frag) (hs : s.length ≤ 4611686018427387904) : CtB Try.prog 31 [str s] B (fun v B' => ∃ cs', v = .tuple #[.agg cs'.toArray, i64 (decE s)] ∧ ValR B' 9 (decV s) cs') := by
  have hok : Cu.ok ⟨s, 0, 0⟩ := ⟨Nat.zero_le _, hs⟩
  have hok2 := takeF_ok 9 1 ⟨s, 0, 0⟩ hok
  refine CtB.of_body Try.func31 rfl (nt := 27) rfl (by kernel_rfl) rfl ?_
  intro N0 w0 R
  refine Cx.seq (fun K1 k1 => ?_)
  refine Cx.region ?_
  refine Lx.new (allocO ti53) rfl (fun b2 => ?_)
  refine Lx.y (asg rfl) rfl ?_
  refine Lx.nil ?_
  refine Xx.tn (k1 _ _ _ _ ?_)
  refine Cx.seq (fun K2 k2 => ?_)
  refine Cx.region ?_
  refine Lx.y (mv rfl) rfl ?_
  refine Lx.y (bld ti100 pl100 rfl rfl) rfl ?_
  refine Lx.cb rfl rfl rfl (Rtake_ct 8 1 (by decide) (by decide) ⟨s, 0, 0⟩ _ hok) rfl ?_
  rintro v B2 ⟨cs2, rfl, hv2⟩ hB2
  obtain ⟨Ap2, cp2, An2, cn2, rfl⟩ := ValR.shape hv2
  refine Lx.y (mv rfl) rfl ?_
  refine Lx.y (ext rfl rfl) rfl ?_
  refine Lx.y (ext rfl rfl) rfl ?_
  refine Lx.new (allocO ti100) rfl (fun b4 => ?_)
  refine Lx.new (allocO ti53) rfl (fun b5 => ?_)
  refine Lx.st (stA (d := .bool) sz100 rfl rfl rfl rfl (by show 0 + 3 ≤ 3; omega) rfl) ?_
  refine Lx.st (stA (d := .bool) sz53 rfl rfl rfl rfl (by show 0 + 6 ≤ 6; omega) rfl) ?_
  refine Lx.nil ?_
  refine Xx.tn (k2 _ _ _ _ ?_)
  refine Cx.seq (fun K4 k4 => ?_)
  refine Cx.region ?_
  refine Lx.y (ldA Try.underlying100 rfl sz100 rfl (Cells.own (n := 3) PickB.eq rfl) rfl) rfl ?_
  refine Lx.cp rfl rfl rfl (RcEnd_ct (takeF 9 1 ⟨s, 0, 0⟩).1 _ hok2) rfl ?_
  refine Lx.st (stA (d := .bool) sz100 rfl rfl rfl rfl (by show 0 + 3 ≤ 3; omega) rfl) ?_
  refine Lx.nil ?_
  refine Xx.tn (k4 _ _ _ _ ?_)
  refine Cx.cutK (ds' := []) (Sub.cons (s := 0) rfl (Sub.cons (s := 2) rfl (Sub.cons (s := 3) rfl (Sub.cons (s := 4) rfl (Sub.cons (s := 5) rfl (Sub.cons (s := 6) rfl (Sub.cons (s := 7) rfl (Sub.cons (s := 8) rfl (Sub.cons (s := 9) rfl (Sub.cons (s := 10) rfl (Sub.cons (s := 11) rfl (Sub.cons (s := 12) rfl (Sub.cons (s := 13) rfl (Sub.nil _)))))))))))))) (fun ρ' B' H' => ρ' = [] ∧ B2 = B' ∧ ∃ y z, row b4 100 [str y, i64 z, i64 (decE s)] * (row b5 53 (vcs (takeF 9 1 ⟨s, 0, 0⟩).2 Ap2 cp2 An2 cn2) * (row b2 53 [i64 0, .bool false, i64 0, str [], .slice none 0 0, .slice none 0 0] * R)) = H') ?_ ?_
  · skip
    refine Cx.seq (fun K5 k5 => ?_)
    refine Cx.region ?_
    refine Lx.y (fa' fo100_2 rfl) rfl ?_
    refine Lx.y (ld Try.underlying3 rfl rfl rfl) rfl ?_
    refine Lx.y (eqI rfl rfl) rfl ?_
    refine Lx.nil ?_
    refine Xx.tn (k5 _ _ _ _ ?_)
    refine Cx.condD rfl (fun h6 => ?_) (fun h6 => ?_)
    · skip
      have he := h6
      refine Cx.region ?_
      refine Lx.y (ldA Try.underlying53 rfl sz53 rfl (Cells.own (n := 6) PickB.eq rfl) rfl) rfl ?_
      refine Lx.cp rfl rfl rfl (RCheck_ct 9 _ _ _ hv2 (dec_bytes s)) rfl ?_
      refine Lx.y (fa' fo100_2 rfl) rfl ?_
      refine Lx.st (stO Try.underlying3 sz3 rfl rfl rfl (by simp) rfl) ?_
      refine Lx.nil ?_
      exact Xx.mkK (⟨rfl, rfl, (takeF 9 1 ⟨s, 0, 0⟩).1.fin.s, ((takeF 9 1 ⟨s, 0, 0⟩).1.fin.at' : Nat), by unfold decE; rw [if_pos he]; rfl⟩) (Sub.cons (s := 0) rfl (Sub.cons (s := 2) rfl (Sub.cons (s := 3) rfl (Sub.cons (s := 4) rfl (Sub.cons (s := 5) rfl (Sub.cons (s := 6) rfl (Sub.cons (s := 7) rfl (Sub.cons (s := 8) rfl (Sub.cons (s := 9) rfl (Sub.cons (s := 10) rfl (Sub.cons (s := 11) rfl (Sub.cons (s := 12) rfl (Sub.cons (s := 13) rfl (Sub.nil _))))))))))))))
    · skip
      have he := h6
      refine Cx.skip ?_
      exact Xx.mkK (⟨rfl, rfl, (takeF 9 1 ⟨s, 0, 0⟩).1.fin.s, ((takeF 9 1 ⟨s, 0, 0⟩).1.fin.at' : Nat), by unfold decE; rw [if_neg he]; rfl⟩) (Sub.cons (s := 0) rfl (Sub.cons (s := 2) rfl (Sub.cons (s := 3) rfl (Sub.cons (s := 4) rfl (Sub.cons (s := 5) rfl (Sub.cons (s := 6) rfl (Sub.cons (s := 7) rfl (Sub.cons (s := 8) rfl (Sub.cons (s := 9) rfl (Sub.cons (s := 10) rfl (Sub.cons (s := 11) rfl (Sub.cons (s := 12) rfl (Sub.cons (s := 13) rfl (Sub.nil _))))))))))))))
  · rintro ρ' B' H' ⟨rfl, rfl, y, z, rfl⟩
    refine Cx.seq (fun K7 k7 => ?_)
    refine Cx.seq (fun K8 k8 => ?_)
    refine Cx.region ?_
    refine Lx.y (fa' fo100_2 rfl) rfl ?_
    refine Lx.y (ld Try.underlying3 rfl rfl rfl) rfl ?_
    refine Lx.y (neI rfl rfl) rfl ?_
    refine Lx.nil ?_
    refine Xx.tn (k8 _ _ _ _ ?_)
    refine Cx.condN rfl (fun h9 => ?_) (fun h9 => ?_)
    · skip
      have hz := h9
      have hv9 : decV s = V0 := by unfold decV; rw [if_neg hz]
      refine Cx.seq (fun K10 k10 => ?_)
      refine Cx.drawn (by kernel_rfl) ?_
      refine Dx.p (i := 0) rfl (by kernel_rfl) (bld ti53 pl53 rfl rfl) rfl ?_
      refine Dx.p (i := 1) rfl (by kernel_rfl) (fa' fo100_2 rfl) rfl ?_
      refine Dx.r (i := 2) rfl (by kernel_rfl) (ld Try.underlying3 rfl rfl rfl) rfl ?_
      refine Dx.one (i := 3) (by kernel_rfl) ?_
      refine Dstep.o0 (i := 3) rfl (stA (d := .bool) sz53 rfl rfl rfl rfl (by show 0 + 6 ≤ 6; omega) rfl) (fun v B' H' hΦ hB => ?_)
      obtain ⟨rfl, rfl⟩ := hΦ; clear hB v
      refine ⟨JOk.yes (JOk.top) (ld Try.underlying3 rfl rfl rfl), ?_⟩
      refine Dx.p (i := 4) rfl (by kernel_rfl) (asg rfl) rfl ?_
      refine Dx.done (by kernel_rfl) ?_
      refine Xx.tn (k10 _ _ _ _ ?_)
      refine Cx.ret ?_
      refine Xx.tr ?_
      refine Xx.dropB b4 (Xx.dropB b5 ?_)
      first | exact Xx.rBc rfl Try.underlying53 rfl sz53 rfl rfl rfl ⟨vcs V0 none 0 none 0, rfl, by rw [hv9]; exact V0_R⟩ hB2 | exact Xx.rBc rfl Try.underlying53 rfl sz53 rfl rfl rfl ⟨_, by rw [hz], by rw [hv9]; exact hv2⟩ hB2
    · skip
      have hz : decE s = 0 := h9
      have hv9 : decV s = (takeF 9 1 ⟨s, 0, 0⟩).2 := by unfold decV; rw [if_pos hz]
      refine Cx.skip ?_
      refine Xx.tn (k7 _ _ _ _ ?_)
      refine Cx.seq (fun K11 k11 => ?_)
      refine Cx.region ?_
      refine Lx.y (ldA Try.underlying53 rfl sz53 rfl (Cells.own (n := 6) PickB.eq rfl) rfl) rfl ?_
      refine Lx.st (stA (d := .bool) sz53 rfl rfl rfl rfl (by show 0 + 6 ≤ 6; omega) rfl) ?_
      refine Lx.y (asg rfl) rfl ?_
      refine Lx.nil ?_
      refine Xx.tn (k11 _ _ _ _ ?_)
      refine Cx.ret ?_
      refine Xx.dropB b4 (Xx.dropB b5 ?_)
      first | exact Xx.rBc rfl Try.underlying53 rfl sz53 rfl rfl rfl ⟨vcs V0 none 0 none 0, rfl, by rw [hv9]; exact V0_R⟩ hB2 | exact Xx.rBc rfl Try.underlying53 rfl sz53 rfl rfl rfl ⟨_, by rw [hz], by rw [hv9]; exact hv2⟩ hB2
end VaG
end Go.Proofs.Ytcoiejmlpinpbaa
