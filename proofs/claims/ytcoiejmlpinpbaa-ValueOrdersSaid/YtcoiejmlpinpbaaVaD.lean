/-
  A value of bytes.
-/
import Derived.Test.YtcoiejmlpinpbaaProg
import Derived.Test.YtcoiejmlpinpbaaSlj
import Derived.Test.YtcoiejmlpinpbaaVaC
namespace Go.Proofs.Ytcoiejmlpinpbaa
open Go.SL Go.RowKit
set_option linter.unusedVariables false
set_option linter.unusedSimpArgs false
set_option maxRecDepth 100000
open Ke5 Ke6 Ke7 Ke8 Ke9 KeA KeB KeE KeF KeG KeH VaA VaB VaC
namespace VaD
theorem sz46 : (Try.prog.info? 46).map (·.size) = some 6 := by kernel_rfl
theorem ti46 : TI Try.prog 46 [.int .i64 0, .bool false, .int .i64 0, str [], .slice none 0 0, .slice none 0 0] 6 88 := TI.of (by kernel_rfl) rfl rfl

theorem take_ct (b : Nat) : ∀ (d : Nat) (deep : Int), deep + (d + 1 : Nat) = 10 → 1 ≤ deep → ∀ (c : Cu) (B : Frag), c.ok → Ct Try.prog 51 [.pointer (some ⟨b, 0, none⟩), i64 deep] B (crow b c) (fun v B' H' => ∃ cs', v = .agg cs'.toArray ∧ B.le B' ∧ ValR B' (d + 1) (takeF (d + 1) deep c).2 cs' ∧ H' = crow b (takeF (d + 1) deep c).1) := by
  intro d
  induction d with
  | zero => intro deep hd h1 c B hc; exact take_step 0 deep hd h1 b (fun c B h8 _ => absurd h8 (by omega)) c B hc
  | succ d ih => intro deep hd h1 c B hc; exact take_step (d + 1) deep hd h1 b (fun c B h8 hc => ih (deep + 1) (by omega) (by omega) c B hc) c B hc
theorem partsF_sh {f : Cu → Cu × V} {six : Bool} {d : Nat} (hf : ∀ c, Sh d (f c).2) : ∀ (n : Nat) (c : Cu) (ns : List (List UInt8)) (ps : List V), (∀ p ∈ ps, Sh d p) → ∀ p ∈ (partsF f six n c ns ps).2.2, Sh d p := by
  intro n
  induction n with
  | zero => intro c ns ps h; exact h
  | succ n ih =>
    intro c ns ps h
    unfold partsF
    split
    · exact h
    · refine ih _ _ _ fun p hp => ?_
      rcases List.mem_append.1 hp with hp | hp
      · exact h p hp
      · have : p = (f (nameC six c)).2 := by simpa using hp
        subst this; exact hf _
theorem Sh_leaf {d : Nat} {k : Int} {b : Bool} {n : Int} {s : List UInt8} (h : s.length ≤ 1100) : Sh (d + 1) (.mk k b n s [] []) := ⟨h, fun p hp => by cases hp⟩
theorem takeF_sh : ∀ (d : Nat) (deep : Int) (c : Cu), Sh d (takeF d deep c).2 := by
  intro d
  induction d with
  | zero => intro deep c; exact trivial
  | succ d ih =>
    intro deep c
    unfold takeF
    split
    · exact Sh_leaf (by decide)
    · split
      · exact Sh_leaf (by decide)
      · unfold takeK
        repeat' split
        all_goals first | exact Sh_leaf (by decide) | exact Sh_leaf (Nat.le_trans (Cu.text_le _ _) (by decide)) | exact ⟨by show 0 ≤ _; omega, partsF_sh (fun c => ih _ c) _ _ _ _ (fun p hp => by cases hp)⟩
noncomputable def decE (s : List UInt8) : Int := if (takeF 9 1 ⟨s, 0, 0⟩).1.fin.e = 0 then CheckF 9 (takeF 9 1 ⟨s, 0, 0⟩).2 else (takeF 9 1 ⟨s, 0, 0⟩).1.fin.e
noncomputable def decV (s : List UInt8) : V := if decE s = 0 then (takeF 9 1 ⟨s, 0, 0⟩).2 else V0
theorem dec_bytes (s : List UInt8) (h : checkF 9 (takeF 9 1 ⟨s, 0, 0⟩).2 1 = 0) : (bytesF 9 (takeF 9 1 ⟨s, 0, 0⟩).2).length ≤ 1152921504606846976 := by
  have := bytes_le 9 _ 1 (by decide) h (takeF_sh 9 1 ⟨s, 0, 0⟩)
  exact Nat.le_trans this (by decide)
theorem V0_R {B : Frag} {d : Nat} : ValR B (d + 1) V0 (vcs V0 none 0 none 0) := ValR.leaf ⟨by decide, by decide, by decide⟩

set_option maxHeartbeats 1000000 in
theorem Decode_ct (s : List UInt8) (B : Frag) (hs : s.length ≤ 4611686018427387904) : CtB Try.prog 28 [str s] B (fun v B' => ∃ cs', v = .tuple #[.agg cs'.toArray, i64 (decE s)] ∧ ValR B' 9 (decV s) cs') := by
  have hok : Cu.ok ⟨s, 0, 0⟩ := ⟨Nat.zero_le _, hs⟩
  have hok2 := takeF_ok 9 1 ⟨s, 0, 0⟩ hok
  refine CtB.of_body Try.func28 rfl (nt := 22) rfl (by kernel_rfl) rfl ?_
  intro N0 w0 R
  refine Cx.seq (fun K1 k1 => ?_)
  refine Cx.region ?_
  refine Lx.new (allocO ti46) rfl (fun b2 => ?_)
  refine Lx.y (asg rfl) rfl ?_
  refine Lx.nil ?_
  refine Xx.tn (k1 _ _ _ _ ?_)
  refine Cx.seq (fun K2 k2 => ?_)
  refine Cx.region ?_
  refine Lx.y (mv rfl) rfl ?_
  refine Lx.c rfl rfl rfl (At_ct s _) ((one_star _).symm) rfl ?_
  rintro v B1 H1 ⟨b, rfl, hBB, rfl⟩ hB1
  obtain rfl := hBB.symm
  refine Lx.y (asg rfl) rfl ?_
  refine Lx.nil ?_
  refine Xx.tn (k2 _ _ _ _ ?_)
  refine Cx.seq (fun K3 k3 => ?_)
  refine Cx.region ?_
  refine Lx.y (mv rfl) rfl ?_
  refine Lx.c rfl rfl rfl (take_ct b 8 1 (by decide) (by decide) ⟨s, 0, 0⟩ _ hok) (PickB.eq) rfl ?_
  rintro v B2 H2 ⟨cs2, rfl, hB2, hv2, rfl⟩ hB2x
  obtain ⟨Ap2, cp2, An2, cn2, rfl⟩ := ValR.shape hv2
  refine Lx.new (allocO ti46) rfl (fun b5 => ?_)
  refine Lx.st (stA (d := .bool) sz46 rfl rfl rfl rfl (by show 0 + 6 ≤ 6; omega) rfl) ?_
  refine Lx.nil ?_
  refine Xx.tn (k3 _ _ _ _ ?_)
  refine Cx.seq (fun K4 k4 => ?_)
  refine Cx.region ?_
  refine Lx.y (mv rfl) rfl ?_
  refine Lx.co rfl rfl rfl (End_ct _ b _ hok2) (PickB.eq) rfl ?_
  refine Lx.y (asg rfl) rfl ?_
  refine Lx.nil ?_
  refine Xx.tn (k4 _ _ _ _ ?_)
  refine Cx.cutK (ds' := []) (Sub.cons (s := 0) rfl (Sub.cons (s := 2) rfl (Sub.cons (s := 3) rfl (Sub.cons (s := 4) rfl (Sub.cons (s := 5) rfl (Sub.cons (s := 7) rfl (Sub.cons (s := 8) rfl (Sub.cons (s := 9) rfl (Sub.cons (s := 10) rfl (Sub.cons (s := 11) rfl (Sub.cons (s := 12) rfl (Sub.nil _)))))))))))) (fun ρ' B' H' => ρ' = [(6, i64 (decE s))] ∧ B2 = B' ∧ row b5 46 (vcs (takeF 9 1 ⟨s, 0, 0⟩).2 Ap2 cp2 An2 cn2) * (row b2 46 [i64 0, .bool false, i64 0, str [], .slice none 0 0, .slice none 0 0] * R) = H') ?_ ?_
  · skip
    refine Cx.seq (fun K5 k5 => ?_)
    refine Cx.region ?_
    refine Lx.y (mv rfl) rfl ?_
    refine Lx.y (eqI rfl rfl) rfl ?_
    refine Lx.nil ?_
    refine Xx.tn (k5 _ _ _ _ ?_)
    refine Cx.condD rfl (fun h6 => ?_) (fun h6 => ?_)
    · skip
      have he := h6
      refine Cx.region ?_
      refine Lx.y (ldA Try.underlying46 rfl sz46 rfl (Cells.own (n := 6) PickB.eq rfl) rfl) rfl ?_
      refine Lx.cp rfl rfl rfl (Check_ct 9 _ _ _ hv2 (dec_bytes s)) rfl ?_
      refine Lx.y (asg rfl) rfl ?_
      refine Lx.nil ?_
      refine Xx.dropB b ?_
      exact Xx.mkK (⟨rfl, rfl, rfl⟩) (Sub.consE (s := 6) rfl (congrArg i64v (show _ = decE s by unfold decE; rw [if_pos he])) (Sub.cons (s := 0) rfl (Sub.cons (s := 2) rfl (Sub.cons (s := 3) rfl (Sub.cons (s := 4) rfl (Sub.cons (s := 5) rfl (Sub.cons (s := 7) rfl (Sub.cons (s := 8) rfl (Sub.cons (s := 9) rfl (Sub.cons (s := 10) rfl (Sub.cons (s := 11) rfl (Sub.cons (s := 12) rfl (Sub.nil _)))))))))))))
    · skip
      have he := h6
      refine Cx.skip ?_
      refine Xx.dropB b ?_
      exact Xx.mkK (⟨rfl, rfl, rfl⟩) (Sub.consE (s := 6) rfl (congrArg i64v (show _ = decE s by unfold decE; rw [if_neg he])) (Sub.cons (s := 0) rfl (Sub.cons (s := 2) rfl (Sub.cons (s := 3) rfl (Sub.cons (s := 4) rfl (Sub.cons (s := 5) rfl (Sub.cons (s := 7) rfl (Sub.cons (s := 8) rfl (Sub.cons (s := 9) rfl (Sub.cons (s := 10) rfl (Sub.cons (s := 11) rfl (Sub.cons (s := 12) rfl (Sub.nil _)))))))))))))
  · rintro ρ' B' H' ⟨rfl, rfl, rfl⟩
    refine Cx.seq (fun K7 k7 => ?_)
    refine Cx.seq (fun K8 k8 => ?_)
    refine Cx.region ?_
    refine Lx.y (mv rfl) rfl ?_
    refine Lx.y (neI rfl rfl) rfl ?_
    refine Lx.nil ?_
    refine Xx.tn (k8 _ _ _ _ ?_)
    refine Cx.condN rfl (fun h9 => ?_) (fun h9 => ?_)
    · skip
      have hz := h9
      have hv9 : decV s = V0 := by unfold decV; rw [if_neg hz]
      refine Cx.seq (fun K10 k10 => ?_)
      refine Cx.region ?_
      refine Lx.cp rfl rfl rfl (None_ct _) rfl ?_
      refine Lx.y (mv rfl) rfl ?_
      refine Lx.st (stA (d := .bool) sz46 rfl rfl rfl rfl (by show 0 + 6 ≤ 6; omega) rfl) ?_
      refine Lx.y (asg rfl) rfl ?_
      refine Lx.nil ?_
      refine Xx.tn (k10 _ _ _ _ ?_)
      refine Cx.ret ?_
      refine Xx.tr ?_
      refine Xx.dropB b5 ?_
      first | exact Xx.rBc rfl Try.underlying46 rfl sz46 rfl rfl rfl ⟨_, rfl, by rw [hv9]; exact V0_R⟩ hB2 | exact Xx.rBc rfl Try.underlying46 rfl sz46 rfl rfl rfl ⟨_, by rw [hz], by rw [hv9]; exact hv2⟩ hB2
    · skip
      have hz : decE s = 0 := h9
      have hv9 : decV s = (takeF 9 1 ⟨s, 0, 0⟩).2 := by unfold decV; rw [if_pos hz]
      refine Cx.skip ?_
      refine Xx.tn (k7 _ _ _ _ ?_)
      refine Cx.seq (fun K11 k11 => ?_)
      refine Cx.region ?_
      refine Lx.y (ldA Try.underlying46 rfl sz46 rfl (Cells.own (n := 6) PickB.eq rfl) rfl) rfl ?_
      refine Lx.st (stA (d := .bool) sz46 rfl rfl rfl rfl (by show 0 + 6 ≤ 6; omega) rfl) ?_
      refine Lx.y (asg rfl) rfl ?_
      refine Lx.nil ?_
      refine Xx.tn (k11 _ _ _ _ ?_)
      refine Cx.ret ?_
      refine Xx.dropB b5 ?_
      first | exact Xx.rBc rfl Try.underlying46 rfl sz46 rfl rfl rfl ⟨_, rfl, by rw [hv9]; exact V0_R⟩ hB2 | exact Xx.rBc rfl Try.underlying46 rfl sz46 rfl rfl rfl ⟨_, by rw [hz], by rw [hv9]; exact hv2⟩ hB2
end VaD
end Go.Proofs.Ytcoiejmlpinpbaa
