/-
  The reference: a value taken off a cursor.
-/
import Derived.Test.YtcoiejmlpinpbaaProg
import Derived.Test.YtcoiejmlpinpbaaSlj
import Derived.Test.YtcoiejmlpinpbaaVaE
namespace Go.Proofs.Ytcoiejmlpinpbaa
open Go.SL Go.RowKit
set_option linter.unusedVariables false
set_option linter.unusedSimpArgs false
set_option maxRecDepth 100000
open Ke5 Ke6 Ke7 Ke8 Ke9 KeA KeB KeE KeF KeG KeH VaA VaB VaC VaD VaE
namespace VaF
theorem sz2 : (Try.prog.info? 2).map (·.size) = some 1 := by kernel_rfl
theorem sz3 : (Try.prog.info? 3).map (·.size) = some 1 := by kernel_rfl
theorem sz4 : (Try.prog.info? 4).map (·.size) = some 1 := by kernel_rfl
theorem sz9 : (Try.prog.info? 9).map (·.size) = some 1 := by kernel_rfl
theorem sz22 : (Try.prog.info? 22).map (·.size) = some 1 := by kernel_rfl
theorem sz51 : (Try.prog.info? 51).map (·.size) = some 1 := by kernel_rfl
theorem sz53 : (Try.prog.info? 53).map (·.size) = some 6 := by kernel_rfl
theorem sz100 : (Try.prog.info? 100).map (·.size) = some 3 := by kernel_rfl
theorem ti9 : TI Try.prog 9 [str []] 1 16 := TI.of (by kernel_rfl) rfl rfl
theorem ti53 : TI Try.prog 53 [.int .i64 0, .bool false, .int .i64 0, str [], .slice none 0 0, .slice none 0 0] 6 88 := TI.of (by kernel_rfl) rfl rfl
theorem ti100 : TI Try.prog 100 [str [], .int .i64 0, .int .i64 0] 3 32 := TI.of (by kernel_rfl) rfl rfl
theorem fo53_0 : FO Try.prog 53 0 0 1 false := FO.of Try.underlying53 rfl rfl (by kernel_rfl) Try.underlying3 rfl rfl
theorem fo53_1 : FO Try.prog 53 1 1 1 false := FO.of Try.underlying53 rfl rfl (by kernel_rfl) Try.underlying4 rfl rfl
theorem fo53_2 : FO Try.prog 53 2 2 1 false := FO.of Try.underlying53 rfl rfl (by kernel_rfl) Try.underlying2 rfl rfl
theorem fo53_3 : FO Try.prog 53 3 3 1 false := FO.of Try.underlying53 rfl rfl (by kernel_rfl) Try.underlying9 rfl rfl
theorem fo53_4 : FO Try.prog 53 4 4 1 false := FO.of Try.underlying53 rfl rfl (by kernel_rfl) Try.underlying51 rfl rfl
theorem fo53_5 : FO Try.prog 53 5 5 1 false := FO.of Try.underlying53 rfl rfl (by kernel_rfl) Try.underlying22 rfl rfl
theorem fo100_2 : FO Try.prog 100 2 2 1 false := FO.of Try.underlying100 rfl rfl (by kernel_rfl) Try.underlying3 rfl rfl
theorem pl53 : PL Try.prog 53 [(0, 1), (1, 1), (2, 1), (3, 1), (4, 1), (5, 1)] := PL.of Try.underlying53 (by kernel_rfl)

theorem takeF_many {d : Nat} {deep : Int} {c : Cu} {kk : Nat} (ht0 : takeF (d + 1) deep c = takeK (takeF d (deep + 1)) kk (c.bytes 1).1) (h : kk = 5 ∨ kk = 6) :
    takeF (d + 1) deep c = ((partsF (takeF d (deep + 1)) (decide ((kk : Int) = 6)) ((c.bytes 1).1.count 32).2 ((c.bytes 1).1.count 32).1 [] []).1, .mk (kk : Nat) false 0 [] (partsF (takeF d (deep + 1)) (decide ((kk : Int) = 6)) ((c.bytes 1).1.count 32).2 ((c.bytes 1).1.count 32).1 [] []).2.2 (partsF (takeF d (deep + 1)) (decide ((kk : Int) = 6)) ((c.bytes 1).1.count 32).2 ((c.bytes 1).1.count 32).1 [] []).2.1) := by
  have e : decide ((kk : Int) = 6) = decide (kk = 6) := decide_eq_decide.2 (by omega)
  rw [ht0, e]
  unfold takeK
  rw [if_neg (by omega), if_neg (by omega), if_neg (by omega), if_neg (by omega), if_pos h]

def cZ (deep : Int) (c : Cu) : Cu := if 8 < deep then c.stop 30 else c
theorem cZ_ok {deep : Int} {c : Cu} (h : c.ok) : (cZ deep c).ok := by unfold cZ; split; exact Cu.stop_ok h _; exact h
theorem cZ_e {deep : Int} {c : Cu} (h : 8 < deep) : ¬ (cZ deep c).e = 0 := by
  unfold cZ; rw [if_pos h]; unfold Cu.stop
  by_cases he : c.e = 0
  · rw [if_pos he]; show ¬ (30 : Int) = 0; decide
  · rw [if_neg he]; exact he
theorem cZ_bad {d : Nat} {deep : Int} {c : Cu} (h : ¬ ((cZ deep c).bytes 1).1.e = 0) : takeF (d + 1) deep c = (((cZ deep c).bytes 1).1, V0) := by
  by_cases h8 : 8 < deep
  · rw [Cu.bytes_ne (cZ_e h8)]
    unfold takeF cZ; rw [if_pos h8, if_pos h8]
  · have e : cZ deep c = c := by unfold cZ; rw [if_neg h8]
    rw [e] at h ⊢
    unfold takeF; rw [if_neg h8, if_pos h]
theorem cZ_good {deep : Int} {c : Cu} (h : ((cZ deep c).bytes 1).1.e = 0) : ¬ 8 < deep ∧ cZ deep c = c := by
  by_cases h8 : 8 < deep
  · rw [Cu.bytes_ne (cZ_e h8)] at h; exact absurd h (cZ_e h8)
  · exact ⟨h8, by unfold cZ; rw [if_neg h8]⟩

set_option maxHeartbeats 4000000 in
theorem Rtake_step (d : Nat) (deep : Int) (hd : deep + (d + 1 : Nat) = 10) (hd1 : 1 ≤ deep) (ih : ∀ (c : Cu) (B : Frag), deep ≤ 8 → c.ok → CtB Try.prog 58 [.agg (cvs c).toArray, i64 (deep + 1)] B (fun v B' => ∃ cs', v = .tuple #[.agg (cvs (takeF d (deep + 1) c).1).toArray, .agg cs'.toArray] ∧ ValR B' d (takeF d (deep + 1) c).2 cs')) (c : Cu) (B : Frag) (hc : c.ok) : CtB Try.prog 58 [.agg (cvs c).toArray, i64 deep] B (fun v B' => ∃ cs', v = .tuple #[.agg (cvs (takeF (d + 1) deep c).1).toArray, .agg cs'.toArray] ∧ ValR B' (d + 1) (takeF (d + 1) deep c).2 cs') := by
  have hc1 := Cu.bytes_ok hc 1
  refine CtB.of_body Try.func58 rfl (nt := 115) rfl (by kernel_rfl) rfl ?_
  intro N0 w0 R
  refine Cx.seq (fun K1 k1 => ?_)
  refine Cx.region ?_
  refine Lx.new (boxA rfl) rfl (fun b2 => ?_)
  refine Lx.new (allocO ti100) rfl (fun b4 => ?_)
  refine Lx.new (allocO ti53) rfl (fun b5 => ?_)
  refine Lx.nil ?_
  refine Xx.tn (k1 _ _ _ _ ?_)
  refine Cx.cutK (ds' := []) (Sub.cons (s := 0) rfl (Sub.cons (s := 1) rfl (Sub.cons (s := 2) rfl (Sub.cons (s := 4) rfl (Sub.cons (s := 5) rfl (Sub.nil _)))))) (fun ρ' B' H' => ρ' = [] ∧ B = B' ∧ row b2 100 (cvs (cZ deep c)) * (row b5 53 [i64 0, .bool false, i64 0, str [], .slice none 0 0, .slice none 0 0] * (row b4 100 [str [], i64 0, i64 0] * R)) = H') ?_ ?_
  · skip
    refine Cx.seq (fun K2 k2 => ?_)
    refine Cx.region ?_
    refine Lx.y (fa' fo100_2 rfl) rfl ?_
    refine Lx.y (ld Try.underlying3 rfl rfl rfl) rfl ?_
    refine Lx.y (eqI rfl rfl) rfl ?_
    refine Lx.y (mv rfl) rfl ?_
    refine Xx.ifD (t := 17) rfl (fun h3 => ?_) (fun h3 => ?_)
    · skip
      have he0 : c.e = 0 := h3
      refine Lx.gT rfl rfl rfl ?_
      refine Lx.y (mv rfl) rfl ?_
      refine Lx.gT rfl rfl rfl ?_
      refine Lx.y (gtr rfl rfl) rfl ?_
      refine Lx.y (pickT rfl rfl) rfl ?_
      refine Lx.nil ?_
      refine Xx.tn (k2 _ _ _ _ ?_)
      refine Cx.condD rfl (fun h4 => ?_) (fun h4 => ?_)
      · skip
        have h8 := h4
        refine Cx.region ?_
        refine Lx.y (fa' fo100_2 rfl) rfl ?_
        refine Lx.st (stO Try.underlying3 sz3 rfl rfl rfl (by simp) rfl) ?_
        refine Lx.nil ?_
        exact Xx.mkK (⟨rfl, rfl, by unfold cZ; rw [if_pos h8, stop_eq he0]⟩) (Sub.cons (s := 0) rfl (Sub.cons (s := 1) rfl (Sub.cons (s := 2) rfl (Sub.cons (s := 4) rfl (Sub.cons (s := 5) rfl (Sub.nil _))))))
      · skip
        have h8 := h4
        refine Cx.skip ?_
        exact Xx.mkK (⟨rfl, rfl, by unfold cZ; rw [if_neg h8]; ac_rfl⟩) (Sub.cons (s := 0) rfl (Sub.cons (s := 1) rfl (Sub.cons (s := 2) rfl (Sub.cons (s := 4) rfl (Sub.cons (s := 5) rfl (Sub.nil _))))))
    · skip
      have he0 : ¬ c.e = 0 := h3
      refine Lx.gF rfl rfl rfl rfl ?_
      refine Lx.gF rfl rfl rfl rfl ?_
      refine Lx.y (pickF rfl rfl) rfl ?_
      refine Lx.nil ?_
      refine Xx.tn (k2 _ _ _ _ ?_)
      refine Cx.condF rfl ?_
      refine Cx.skip ?_
      exact Xx.mkK (⟨rfl, rfl, by rw [show cZ deep c = c by unfold cZ; split; unfold Cu.stop; rw [if_neg he0]; rfl]; ac_rfl⟩) (Sub.cons (s := 0) rfl (Sub.cons (s := 1) rfl (Sub.cons (s := 2) rfl (Sub.cons (s := 4) rfl (Sub.cons (s := 5) rfl (Sub.nil _))))))
  · rintro ρ' B' H' ⟨rfl, rfl, rfl⟩
    refine Cx.seq (fun K5 k5 => ?_)
    refine Cx.region ?_
    refine Lx.y (ldA Try.underlying100 rfl sz100 rfl (Cells.own (n := 3) PickB.eq rfl) rfl) rfl ?_
    refine Lx.cp rfl rfl rfl (RcBytes_ct (cZ deep c) 1 (by decide) _ (cZ_ok hc)) rfl ?_
    refine Lx.y (mv rfl) rfl ?_
    refine Lx.y (ext rfl rfl) rfl ?_
    refine Lx.y (ext rfl rfl) rfl ?_
    refine Lx.st (stA (d := .bool) sz100 rfl rfl rfl rfl (by show 0 + 3 ≤ 3; omega) rfl) ?_
    refine Lx.y (asg rfl) rfl ?_
    refine Lx.nil ?_
    refine Xx.tn (k5 _ _ _ _ ?_)
    refine Cx.seq (fun K6 k6 => ?_)
    refine Cx.seq (fun K7 k7 => ?_)
    refine Cx.region ?_
    refine Lx.y (fa' fo100_2 rfl) rfl ?_
    refine Lx.y (ld Try.underlying3 rfl rfl rfl) rfl ?_
    refine Lx.y (neI rfl rfl) rfl ?_
    refine Lx.nil ?_
    refine Xx.tn (k7 _ _ _ _ ?_)
    refine Cx.condN rfl (fun h8 => ?_) (fun h8 => ?_)
    · skip
      have ht := cZ_bad (d := d) h8
      refine Cx.seq (fun K9 k9 => ?_)
      refine Cx.region ?_
      refine Lx.y (ldA Try.underlying100 rfl sz100 rfl (Cells.own (n := 3) PickB.eq rfl) rfl) rfl ?_
      refine Lx.y (bld ti53 pl53 rfl rfl) rfl ?_
      refine Lx.st (stA (d := .bool) sz100 rfl rfl rfl rfl (by show 0 + 3 ≤ 3; omega) rfl) ?_
      refine Lx.st (stA (d := .bool) sz53 rfl rfl rfl rfl (by show 0 + 6 ≤ 6; omega) rfl) ?_
      refine Lx.nil ?_
      refine Xx.tn (k9 _ _ _ _ ?_)
      refine Cx.ret ?_
      refine Xx.tr ?_
      refine Xx.dropB b2 ?_
      refine Xx.rBcc rfl Try.underlying100 rfl sz100 rfl Try.underlying53 rfl sz53 rfl rfl rfl ⟨vcs V0 none 0 none 0, ?_, ?_⟩ (Frag.le_refl _)
      · rw [ht]; rfl
      · rw [ht]; exact V0_R
    · skip
      obtain ⟨hdeep, hcc⟩ := cZ_good h8
      have he1 := h8
      rw [hcc] at he1 ⊢
      have hl1 := Cu.bytes_len he1
      have ht0 := takeF_k (d := d) hdeep he1
      have hk256 := ((c.bytes 1).2.getD 0 0).toNat_lt
      refine Cx.skip ?_
      refine Xx.tn (k6 _ _ _ _ ?_)
      refine Cx.seq (fun K10 k10 => ?_)
      refine Cx.region ?_
      refine Lx.y (mv rfl) rfl ?_
      refine Lx.y (ixS Try.underlying9 rfl rfl (show Int.toNat _ = 0 from rfl) (by omega) (by omega)) rfl ?_
      refine Lx.y (cvI rfl Try.underlying5 Try.underlying3 (by first | exact wrap64 (by omega) (by omega) | rfl)) rfl ?_
      refine Lx.y (bld ti53 pl53 rfl rfl) rfl ?_
      refine Lx.new (allocO ti53) rfl (fun b7 => ?_)
      refine Lx.st (stA (d := .bool) sz53 rfl rfl rfl rfl (by show 0 + 6 ≤ 6; omega) rfl) ?_
      generalize ((c.bytes 1).2.getD 0 0).toNat = kk at *
      refine Lx.nil ?_
      refine Xx.tn (k10 _ _ _ _ ?_)
      refine Cx.seq (fun K11 k11 => ?_)
      refine Cx.region ?_
      refine Lx.y (asg rfl) rfl ?_
      refine Lx.nil ?_
      refine Xx.tn (k11 _ _ _ _ ?_)
      refine Cx.cutK (ds' := []) (Sub.cons (s := 0) rfl (Sub.cons (s := 1) rfl (Sub.cons (s := 2) rfl (Sub.cons (s := 4) rfl (Sub.cons (s := 5) rfl (Sub.cons (s := 6) rfl (Sub.cons (s := 7) rfl (Sub.cons (s := 22) rfl (Sub.cons (s := 23) rfl (Sub.cons (s := 24) rfl (Sub.cons (s := 25) rfl (Sub.cons (s := 26) rfl (Sub.cons (s := 27) rfl (Sub.cons (s := 28) rfl (Sub.cons (s := 29) rfl (Sub.cons (s := 32) rfl (Sub.cons (s := 33) rfl (Sub.cons (s := 34) rfl (Sub.cons (s := 35) rfl (Sub.nil _)))))))))))))))))))) (fun ρ' B' H' => ∃ (k : Int) (bb : Bool) (nn : Int) (ss : List UInt8) (n : Nat) (cu : Cu), ρ' = [(8, i64 n)] ∧ B = B' ∧ cu.ok ∧ n ≤ 32 ∧ (ss.length ≤ 1100 ∧ -9223372036854775808 ≤ nn ∧ nn ≤ 9223372036854775807) ∧ takeF (d + 1) deep c = ((partsF (takeF d (deep + 1)) (decide (k = 6)) n cu [] []).1, V.mk k bb nn ss (partsF (takeF d (deep + 1)) (decide (k = 6)) n cu [] []).2.2 (partsF (takeF d (deep + 1)) (decide (k = 6)) n cu [] []).2.1) ∧ row b7 53 [i64 k, .bool bb, i64 nn, str ss, .slice none 0 0, .slice none 0 0] * (row b2 100 (cvs cu) * (row b5 53 [i64 0, .bool false, i64 0, str [], .slice none 0 0, .slice none 0 0] * (row b4 100 [str [], i64 0, i64 0] * R))) = H') ?_ ?_
      · skip
        refine Cx.seq (fun K12 k12 => ?_)
        refine Cx.region ?_
        refine Lx.y (fa' fo53_0 rfl) rfl ?_
        refine Lx.y (ld Try.underlying3 rfl rfl rfl) rfl ?_
        refine Lx.nil ?_
        refine Xx.tn (k12 _ _ _ _ ?_)
        refine Cx.block ?_
        refine Cx.seq (fun K13 k13 => ?_)
        refine Cx.region ?_
        refine Lx.y (eqI rfl rfl) rfl ?_
        refine Lx.y (asg rfl) rfl ?_
        refine Lx.nil ?_
        refine Xx.tn (k13 _ _ _ _ ?_)
        refine Cx.condD rfl (fun h14 => ?_) (fun h14 => ?_)
        · skip
          have k0 : kk = 0 := by have := h14; omega
          have ht : takeF (d + 1) deep c = ((c.bytes 1).1, V0) := by rw [ht0]; unfold takeK; rw [if_pos k0]
          subst k0
          refine Cx.skip ?_
          refine Xx.bn ?_
          exact Xx.mkK (⟨0, false, 0, [], 0, (c.bytes 1).1, rfl, rfl, hc1, by decide, ⟨by decide, by decide, by decide⟩, by rw [ht]; rfl, rfl⟩) (Sub.cons (s := 8) rfl (Sub.cons (s := 0) rfl (Sub.cons (s := 1) rfl (Sub.cons (s := 2) rfl (Sub.cons (s := 4) rfl (Sub.cons (s := 5) rfl (Sub.cons (s := 6) rfl (Sub.cons (s := 7) rfl (Sub.cons (s := 22) rfl (Sub.cons (s := 23) rfl (Sub.cons (s := 24) rfl (Sub.cons (s := 25) rfl (Sub.cons (s := 26) rfl (Sub.cons (s := 27) rfl (Sub.cons (s := 28) rfl (Sub.cons (s := 29) rfl (Sub.cons (s := 32) rfl (Sub.cons (s := 33) rfl (Sub.cons (s := 34) rfl (Sub.cons (s := 35) rfl (Sub.nil _)))))))))))))))))))))
        · skip
          have k0 : ¬ kk = 0 := by have := h14; omega
          refine Cx.seq (fun K15 k15 => ?_)
          refine Cx.region ?_
          refine Lx.y (eqI rfl rfl) rfl ?_
          refine Lx.y (asg rfl) rfl ?_
          refine Lx.nil ?_
          refine Xx.tn (k15 _ _ _ _ ?_)
          refine Cx.condD rfl (fun h16 => ?_) (fun h16 => ?_)
          · skip
            have k1 : kk = 1 := by have := h16; omega
            have ht : takeF (d + 1) deep c = ((c.bytes 1).1.bool.1, .mk 1 (c.bytes 1).1.bool.2 0 [] [] []) := by rw [ht0]; unfold takeK; rw [if_neg k0, if_pos k1]
            subst k1
            refine Cx.region ?_
            refine Lx.y (ldA Try.underlying100 rfl sz100 rfl (Cells.own (n := 3) PickB.eq rfl) rfl) rfl ?_
            refine Lx.cp rfl rfl rfl (RcBool_ct _ _ hc1) rfl ?_
            refine Lx.y (mv rfl) rfl ?_
            refine Lx.y (ext rfl rfl) rfl ?_
            refine Lx.y (ext rfl rfl) rfl ?_
            refine Lx.st (stA (d := .bool) sz100 rfl rfl rfl rfl (by show 0 + 3 ≤ 3; omega) rfl) ?_
            refine Lx.y (fa' fo53_1 rfl) rfl ?_
            refine Lx.st (stO Try.underlying4 sz4 rfl rfl rfl (by simp) rfl) ?_
            refine Lx.nil ?_
            refine Xx.bn ?_
            exact Xx.mkK (⟨1, (c.bytes 1).1.bool.2, 0, [], 0, (c.bytes 1).1.bool.1, rfl, rfl, Cu.bool_ok hc1, by decide, ⟨by decide, by decide, by decide⟩, by rw [ht]; rfl, rfl⟩) (Sub.cons (s := 8) rfl (Sub.cons (s := 0) rfl (Sub.cons (s := 1) rfl (Sub.cons (s := 2) rfl (Sub.cons (s := 4) rfl (Sub.cons (s := 5) rfl (Sub.cons (s := 6) rfl (Sub.cons (s := 7) rfl (Sub.cons (s := 22) rfl (Sub.cons (s := 23) rfl (Sub.cons (s := 24) rfl (Sub.cons (s := 25) rfl (Sub.cons (s := 26) rfl (Sub.cons (s := 27) rfl (Sub.cons (s := 28) rfl (Sub.cons (s := 29) rfl (Sub.cons (s := 32) rfl (Sub.cons (s := 33) rfl (Sub.cons (s := 34) rfl (Sub.cons (s := 35) rfl (Sub.nil _)))))))))))))))))))))
          · skip
            have k1 : ¬ kk = 1 := by have := h16; omega
            refine Cx.seq (fun K17 k17 => ?_)
            refine Cx.region ?_
            refine Lx.y (eqI rfl rfl) rfl ?_
            refine Lx.y (asg rfl) rfl ?_
            refine Lx.nil ?_
            refine Xx.tn (k17 _ _ _ _ ?_)
            refine Cx.condD rfl (fun h18 => ?_) (fun h18 => ?_)
            · skip
              have k2 : kk = 2 := by have := h18; omega
              have ht : takeF (d + 1) deep c = ((c.bytes 1).1.uint.1, .mk 2 false (zig (c.bytes 1).1.uint.2) [] [] []) := by rw [ht0]; unfold takeK; rw [if_neg k0, if_neg k1, if_pos k2]
              subst k2
              refine Cx.region ?_
              refine Lx.y (ldA Try.underlying100 rfl sz100 rfl (Cells.own (n := 3) PickB.eq rfl) rfl) rfl ?_
              refine Lx.cp rfl rfl rfl (RcInt_ct _ _ hc1) rfl ?_
              refine Lx.y (mv rfl) rfl ?_
              refine Lx.y (ext rfl rfl) rfl ?_
              refine Lx.y (ext rfl rfl) rfl ?_
              refine Lx.st (stA (d := .bool) sz100 rfl rfl rfl rfl (by show 0 + 3 ≤ 3; omega) rfl) ?_
              refine Lx.y (fa' fo53_2 rfl) rfl ?_
              refine Lx.st (stO Try.underlying2 sz2 rfl rfl rfl (by simp) rfl) ?_
              refine Lx.nil ?_
              refine Xx.bn ?_
              exact Xx.mkK (⟨2, false, zig (c.bytes 1).1.uint.2, [], 0, (c.bytes 1).1.uint.1, rfl, rfl, Cu.uint_ok hc1, by decide, ⟨by decide, zig_range (Cu.uint_lt _)⟩, by rw [ht]; rfl, rfl⟩) (Sub.cons (s := 8) rfl (Sub.cons (s := 0) rfl (Sub.cons (s := 1) rfl (Sub.cons (s := 2) rfl (Sub.cons (s := 4) rfl (Sub.cons (s := 5) rfl (Sub.cons (s := 6) rfl (Sub.cons (s := 7) rfl (Sub.cons (s := 22) rfl (Sub.cons (s := 23) rfl (Sub.cons (s := 24) rfl (Sub.cons (s := 25) rfl (Sub.cons (s := 26) rfl (Sub.cons (s := 27) rfl (Sub.cons (s := 28) rfl (Sub.cons (s := 29) rfl (Sub.cons (s := 32) rfl (Sub.cons (s := 33) rfl (Sub.cons (s := 34) rfl (Sub.cons (s := 35) rfl (Sub.nil _)))))))))))))))))))))
            · skip
              have k2 : ¬ kk = 2 := by have := h18; omega
              refine Cx.cutK (ds' := []) (Sub.cons (s := 0) rfl (Sub.cons (s := 1) rfl (Sub.cons (s := 2) rfl (Sub.cons (s := 4) rfl (Sub.cons (s := 5) rfl (Sub.cons (s := 6) rfl (Sub.cons (s := 7) rfl (Sub.cons (s := 8) rfl (Sub.cons (s := 22) rfl (Sub.cons (s := 23) rfl (Sub.cons (s := 24) rfl (Sub.cons (s := 25) rfl (Sub.cons (s := 26) rfl (Sub.cons (s := 27) rfl (Sub.cons (s := 28) rfl (Sub.cons (s := 29) rfl (Sub.cons (s := 32) rfl (Sub.cons (s := 33) rfl (Sub.cons (s := 34) rfl (Sub.cons (s := 35) rfl (Sub.cons (s := 36) rfl (Sub.cons (s := 37) rfl (Sub.cons (s := 39) rfl (Sub.cons (s := 40) rfl (Sub.cons (s := 41) rfl (Sub.cons (s := 42) rfl (Sub.cons (s := 49) rfl (Sub.cons (s := 50) rfl (Sub.nil _))))))))))))))))))))))))))))) (fun ρ' B' H' => ρ' = [(57, .bool (decide (kk = 3 ∨ kk = 4)))] ∧ B = B' ∧ row b7 53 [i64 (kk : Nat), .bool false, i64 0, str [], .slice none 0 0, .slice none 0 0] * (row b2 100 (cvs (c.bytes 1).1) * (row b5 53 [i64 0, .bool false, i64 0, str [], .slice none 0 0, .slice none 0 0] * (row b4 100 [str [], i64 0, i64 0] * R))) = H') ?_ ?_
              · skip
                refine Cx.seq (fun K19 k19 => ?_)
                refine Cx.region ?_
                refine Lx.y (eqI rfl rfl) rfl ?_
                refine Lx.y (asg rfl) rfl ?_
                refine Lx.nil ?_
                refine Xx.tn (k19 _ _ _ _ ?_)
                refine Cx.condD rfl (fun h20 => ?_) (fun h20 => ?_)
                · skip
                  have k3 := h20
                  refine Cx.skip ?_
                  exact Xx.mkK (⟨rfl, rfl, rfl⟩) (Sub.consE (s := 57) rfl (by first | exact congrArg Value.bool (decide_eq_true (by omega)).symm | exact congrArg Value.bool (decide_eq_decide.2 (by omega))) (Sub.cons (s := 0) rfl (Sub.cons (s := 1) rfl (Sub.cons (s := 2) rfl (Sub.cons (s := 4) rfl (Sub.cons (s := 5) rfl (Sub.cons (s := 6) rfl (Sub.cons (s := 7) rfl (Sub.cons (s := 8) rfl (Sub.cons (s := 22) rfl (Sub.cons (s := 23) rfl (Sub.cons (s := 24) rfl (Sub.cons (s := 25) rfl (Sub.cons (s := 26) rfl (Sub.cons (s := 27) rfl (Sub.cons (s := 28) rfl (Sub.cons (s := 29) rfl (Sub.cons (s := 32) rfl (Sub.cons (s := 33) rfl (Sub.cons (s := 34) rfl (Sub.cons (s := 35) rfl (Sub.cons (s := 36) rfl (Sub.cons (s := 37) rfl (Sub.cons (s := 39) rfl (Sub.cons (s := 40) rfl (Sub.cons (s := 41) rfl (Sub.cons (s := 42) rfl (Sub.cons (s := 49) rfl (Sub.cons (s := 50) rfl (Sub.nil _))))))))))))))))))))))))))))))
                · skip
                  have k3 := h20
                  refine Cx.region ?_
                  refine Lx.y (eqI rfl rfl) rfl ?_
                  refine Lx.y (asg rfl) rfl ?_
                  refine Lx.nil ?_
                  exact Xx.mkK (⟨rfl, rfl, rfl⟩) (Sub.consE (s := 57) rfl (by first | exact congrArg Value.bool (decide_eq_true (by omega)).symm | exact congrArg Value.bool (decide_eq_decide.2 (by omega))) (Sub.cons (s := 0) rfl (Sub.cons (s := 1) rfl (Sub.cons (s := 2) rfl (Sub.cons (s := 4) rfl (Sub.cons (s := 5) rfl (Sub.cons (s := 6) rfl (Sub.cons (s := 7) rfl (Sub.cons (s := 8) rfl (Sub.cons (s := 22) rfl (Sub.cons (s := 23) rfl (Sub.cons (s := 24) rfl (Sub.cons (s := 25) rfl (Sub.cons (s := 26) rfl (Sub.cons (s := 27) rfl (Sub.cons (s := 28) rfl (Sub.cons (s := 29) rfl (Sub.cons (s := 32) rfl (Sub.cons (s := 33) rfl (Sub.cons (s := 34) rfl (Sub.cons (s := 35) rfl (Sub.cons (s := 36) rfl (Sub.cons (s := 37) rfl (Sub.cons (s := 39) rfl (Sub.cons (s := 40) rfl (Sub.cons (s := 41) rfl (Sub.cons (s := 42) rfl (Sub.cons (s := 49) rfl (Sub.cons (s := 50) rfl (Sub.nil _))))))))))))))))))))))))))))))
              · rintro ρ' B' H' ⟨rfl, rfl, rfl⟩
                refine Cx.condD rfl (fun h21 => ?_) (fun h21 => ?_)
                · skip
                  have k3 := h21
                  have ht : takeF (d + 1) deep c = (((c.bytes 1).1.text 1024).1, .mk (kk : Nat) false 0 ((c.bytes 1).1.text 1024).2 [] []) := by rw [ht0]; unfold takeK; rw [if_neg k0, if_neg k1, if_neg k2, if_pos k3]
                  have htl := Cu.text_le (c.bytes 1).1 1024
                  refine Cx.region ?_
                  refine Lx.y (ldA Try.underlying100 rfl sz100 rfl (Cells.own (n := 3) PickB.eq rfl) rfl) rfl ?_
                  refine Lx.cp rfl rfl rfl (RcText_ct _ 1024 (by decide) _ hc1) rfl ?_
                  refine Lx.y (mv rfl) rfl ?_
                  refine Lx.y (ext rfl rfl) rfl ?_
                  refine Lx.y (ext rfl rfl) rfl ?_
                  refine Lx.st (stA (d := .bool) sz100 rfl rfl rfl rfl (by show 0 + 3 ≤ 3; omega) rfl) ?_
                  refine Lx.y (fa' fo53_3 rfl) rfl ?_
                  refine Lx.st (stO Try.underlying9 sz9 rfl rfl rfl (by simp) rfl) ?_
                  refine Lx.nil ?_
                  refine Xx.bn ?_
                  exact Xx.mkK (⟨(kk : Nat), false, 0, ((c.bytes 1).1.text 1024).2, 0, ((c.bytes 1).1.text 1024).1, rfl, rfl, Cu.text_ok hc1 _, by decide, ⟨by omega, by decide, by decide⟩, by rw [ht]; rfl, rfl⟩) (Sub.cons (s := 8) rfl (Sub.cons (s := 0) rfl (Sub.cons (s := 1) rfl (Sub.cons (s := 2) rfl (Sub.cons (s := 4) rfl (Sub.cons (s := 5) rfl (Sub.cons (s := 6) rfl (Sub.cons (s := 7) rfl (Sub.cons (s := 22) rfl (Sub.cons (s := 23) rfl (Sub.cons (s := 24) rfl (Sub.cons (s := 25) rfl (Sub.cons (s := 26) rfl (Sub.cons (s := 27) rfl (Sub.cons (s := 28) rfl (Sub.cons (s := 29) rfl (Sub.cons (s := 32) rfl (Sub.cons (s := 33) rfl (Sub.cons (s := 34) rfl (Sub.cons (s := 35) rfl (Sub.nil _)))))))))))))))))))))
                · skip
                  have k3 := h21
                  refine Cx.cutK (ds' := []) (Sub.cons (s := 0) rfl (Sub.cons (s := 1) rfl (Sub.cons (s := 2) rfl (Sub.cons (s := 4) rfl (Sub.cons (s := 5) rfl (Sub.cons (s := 6) rfl (Sub.cons (s := 7) rfl (Sub.cons (s := 8) rfl (Sub.cons (s := 22) rfl (Sub.cons (s := 23) rfl (Sub.cons (s := 24) rfl (Sub.cons (s := 25) rfl (Sub.cons (s := 26) rfl (Sub.cons (s := 27) rfl (Sub.cons (s := 28) rfl (Sub.cons (s := 29) rfl (Sub.cons (s := 32) rfl (Sub.cons (s := 33) rfl (Sub.cons (s := 34) rfl (Sub.cons (s := 35) rfl (Sub.cons (s := 36) rfl (Sub.cons (s := 37) rfl (Sub.cons (s := 39) rfl (Sub.cons (s := 40) rfl (Sub.cons (s := 41) rfl (Sub.cons (s := 42) rfl (Sub.cons (s := 49) rfl (Sub.cons (s := 50) rfl (Sub.cons (s := 57) rfl (Sub.nil _)))))))))))))))))))))))))))))) (fun ρ' B' H' => ρ' = [(66, .bool (decide (kk = 5 ∨ kk = 6)))] ∧ B = B' ∧ row b7 53 [i64 (kk : Nat), .bool false, i64 0, str [], .slice none 0 0, .slice none 0 0] * (row b2 100 (cvs (c.bytes 1).1) * (row b5 53 [i64 0, .bool false, i64 0, str [], .slice none 0 0, .slice none 0 0] * (row b4 100 [str [], i64 0, i64 0] * R))) = H') ?_ ?_
                  · skip
                    refine Cx.seq (fun K22 k22 => ?_)
                    refine Cx.region ?_
                    refine Lx.y (eqI rfl rfl) rfl ?_
                    refine Lx.y (asg rfl) rfl ?_
                    refine Lx.nil ?_
                    refine Xx.tn (k22 _ _ _ _ ?_)
                    refine Cx.condD rfl (fun h23 => ?_) (fun h23 => ?_)
                    · skip
                      have k5 := h23
                      refine Cx.skip ?_
                      exact Xx.mkK (⟨rfl, rfl, rfl⟩) (Sub.consE (s := 66) rfl (by first | exact congrArg Value.bool (decide_eq_true (by omega)).symm | exact congrArg Value.bool (decide_eq_decide.2 (by omega))) (Sub.cons (s := 0) rfl (Sub.cons (s := 1) rfl (Sub.cons (s := 2) rfl (Sub.cons (s := 4) rfl (Sub.cons (s := 5) rfl (Sub.cons (s := 6) rfl (Sub.cons (s := 7) rfl (Sub.cons (s := 8) rfl (Sub.cons (s := 22) rfl (Sub.cons (s := 23) rfl (Sub.cons (s := 24) rfl (Sub.cons (s := 25) rfl (Sub.cons (s := 26) rfl (Sub.cons (s := 27) rfl (Sub.cons (s := 28) rfl (Sub.cons (s := 29) rfl (Sub.cons (s := 32) rfl (Sub.cons (s := 33) rfl (Sub.cons (s := 34) rfl (Sub.cons (s := 35) rfl (Sub.cons (s := 36) rfl (Sub.cons (s := 37) rfl (Sub.cons (s := 39) rfl (Sub.cons (s := 40) rfl (Sub.cons (s := 41) rfl (Sub.cons (s := 42) rfl (Sub.cons (s := 49) rfl (Sub.cons (s := 50) rfl (Sub.cons (s := 57) rfl (Sub.nil _)))))))))))))))))))))))))))))))
                    · skip
                      have k5 := h23
                      refine Cx.region ?_
                      refine Lx.y (eqI rfl rfl) rfl ?_
                      refine Lx.y (asg rfl) rfl ?_
                      refine Lx.nil ?_
                      exact Xx.mkK (⟨rfl, rfl, rfl⟩) (Sub.consE (s := 66) rfl (by first | exact congrArg Value.bool (decide_eq_true (by omega)).symm | exact congrArg Value.bool (decide_eq_decide.2 (by omega))) (Sub.cons (s := 0) rfl (Sub.cons (s := 1) rfl (Sub.cons (s := 2) rfl (Sub.cons (s := 4) rfl (Sub.cons (s := 5) rfl (Sub.cons (s := 6) rfl (Sub.cons (s := 7) rfl (Sub.cons (s := 8) rfl (Sub.cons (s := 22) rfl (Sub.cons (s := 23) rfl (Sub.cons (s := 24) rfl (Sub.cons (s := 25) rfl (Sub.cons (s := 26) rfl (Sub.cons (s := 27) rfl (Sub.cons (s := 28) rfl (Sub.cons (s := 29) rfl (Sub.cons (s := 32) rfl (Sub.cons (s := 33) rfl (Sub.cons (s := 34) rfl (Sub.cons (s := 35) rfl (Sub.cons (s := 36) rfl (Sub.cons (s := 37) rfl (Sub.cons (s := 39) rfl (Sub.cons (s := 40) rfl (Sub.cons (s := 41) rfl (Sub.cons (s := 42) rfl (Sub.cons (s := 49) rfl (Sub.cons (s := 50) rfl (Sub.cons (s := 57) rfl (Sub.nil _)))))))))))))))))))))))))))))))
                  · rintro ρ' B' H' ⟨rfl, rfl, rfl⟩
                    refine Cx.condD rfl (fun h24 => ?_) (fun h24 => ?_)
                    · skip
                      have k5 := h24
                      have ht := takeF_many ht0 k5
                      refine Cx.region ?_
                      refine Lx.y (ldA Try.underlying100 rfl sz100 rfl (Cells.own (n := 3) PickB.eq rfl) rfl) rfl ?_
                      refine Lx.cp rfl rfl rfl (RcCount_ct _ 32 (by decide) _ hc1) rfl ?_
                      refine Lx.y (mv rfl) rfl ?_
                      refine Lx.y (ext rfl rfl) rfl ?_
                      refine Lx.y (ext rfl rfl) rfl ?_
                      refine Lx.st (stA (d := .bool) sz100 rfl rfl rfl rfl (by show 0 + 3 ≤ 3; omega) rfl) ?_
                      refine Lx.y (asg rfl) rfl ?_
                      refine Lx.nil ?_
                      refine Xx.bn ?_
                      exact Xx.mkK (⟨(kk : Nat), false, 0, [], ((c.bytes 1).1.count 32).2, ((c.bytes 1).1.count 32).1, rfl, rfl, Cu.count_ok hc1 _, Cu.count_le _ _, ⟨by decide, by decide, by decide⟩, ht, star_left _ _ _⟩) (Sub.cons (s := 8) rfl (Sub.cons (s := 0) rfl (Sub.cons (s := 1) rfl (Sub.cons (s := 2) rfl (Sub.cons (s := 4) rfl (Sub.cons (s := 5) rfl (Sub.cons (s := 6) rfl (Sub.cons (s := 7) rfl (Sub.cons (s := 22) rfl (Sub.cons (s := 23) rfl (Sub.cons (s := 24) rfl (Sub.cons (s := 25) rfl (Sub.cons (s := 26) rfl (Sub.cons (s := 27) rfl (Sub.cons (s := 28) rfl (Sub.cons (s := 29) rfl (Sub.cons (s := 32) rfl (Sub.cons (s := 33) rfl (Sub.cons (s := 34) rfl (Sub.cons (s := 35) rfl (Sub.nil _)))))))))))))))))))))
                    · skip
                      have k5 := h24
                      have ht : takeF (d + 1) deep c = (⟨(c.bytes 1).1.s, (c.bytes 1).1.at', 6⟩, .mk (kk : Nat) false 0 [] [] []) := by rw [ht0]; unfold takeK; rw [if_neg k0, if_neg k1, if_neg k2, if_neg k3, if_neg k5, stop_eq he1]
                      refine Cx.region ?_
                      refine Lx.y (fa' fo100_2 rfl) rfl ?_
                      refine Lx.st (stO Try.underlying3 sz3 rfl rfl rfl (by simp) rfl) ?_
                      refine Lx.nil ?_
                      refine Xx.bn ?_
                      exact Xx.mkK (⟨(kk : Nat), false, 0, [], 0, ⟨(c.bytes 1).1.s, (c.bytes 1).1.at', 6⟩, rfl, rfl, hc1, by decide, ⟨by decide, by decide, by decide⟩, by rw [ht]; rfl, star_left _ _ _⟩) (Sub.cons (s := 8) rfl (Sub.cons (s := 0) rfl (Sub.cons (s := 1) rfl (Sub.cons (s := 2) rfl (Sub.cons (s := 4) rfl (Sub.cons (s := 5) rfl (Sub.cons (s := 6) rfl (Sub.cons (s := 7) rfl (Sub.cons (s := 22) rfl (Sub.cons (s := 23) rfl (Sub.cons (s := 24) rfl (Sub.cons (s := 25) rfl (Sub.cons (s := 26) rfl (Sub.cons (s := 27) rfl (Sub.cons (s := 28) rfl (Sub.cons (s := 29) rfl (Sub.cons (s := 32) rfl (Sub.cons (s := 33) rfl (Sub.cons (s := 34) rfl (Sub.cons (s := 35) rfl (Sub.nil _)))))))))))))))))))))
      · rintro ρ' B' H' ⟨k, bb, nn, ss, n, cu, rfl, rfl, hcu, hn32, hss, hTK, rfl⟩
        refine Cx.seq (fun K25 k25 => ?_)
        refine Cx.seq (fun K26 k26 => ?_)
        refine Cx.region ?_
        refine Lx.y (asg rfl) rfl ?_
        refine Lx.nil ?_
        refine Xx.tn (k26 _ _ _ _ ?_)
        refine Cx.block ?_
        refine Cx.loopK (Sub.cons (s := 0) rfl (Sub.cons (s := 1) rfl (Sub.cons (s := 2) rfl (Sub.cons (s := 4) rfl (Sub.cons (s := 5) rfl (Sub.cons (s := 6) rfl (Sub.cons (s := 7) rfl (Sub.cons (s := 8) rfl (Sub.cons (s := 22) rfl (Sub.cons (s := 23) rfl (Sub.cons (s := 24) rfl (Sub.cons (s := 25) rfl (Sub.cons (s := 26) rfl (Sub.cons (s := 27) rfl (Sub.cons (s := 28) rfl (Sub.cons (s := 29) rfl (Sub.cons (s := 32) rfl (Sub.cons (s := 33) rfl (Sub.cons (s := 34) rfl (Sub.cons (s := 35) rfl (Sub.nil _))))))))))))))))))))) (fun m ρ' B' H' => ∃ (i : Nat) (cu2 : Cu) (ns : List (List UInt8)) (ps : List V) (An : Option Addr) (cn : Nat) (Ap : Option Addr) (cp : Nat) (xs : List Value) (B2 : Frag), (partsF (takeF d (deep + 1)) (decide (k = 6)) n cu [] [] = partsF (takeF d (deep + 1)) (decide (k = 6)) (n - i) cu2 ns ps ∧ cu2.ok ∧ NmR ns ∧ ns.length ≤ ps.length ∧ ps.length = i ∧ i ≤ n ∧ B.le B2 ∧ PartsR B2 d (fun k => ps.getD k default) ps.length xs) ∧ m = 1 + (n - i) ∧ ρ' = [(9, i64 i)] ∧ B2 = B' ∧ sbuf 53 6 Ap ps.length cp xs * (sbuf 9 1 An ns.length cn (ns.map str) * (row b2 100 (cvs cu2) * (row b7 53 [i64 k, .bool bb, i64 nn, str ss, .slice Ap ps.length cp, .slice An ns.length cn] * (row b5 53 [i64 0, .bool false, i64 0, str [], .slice none 0 0, .slice none 0 0] * (row b4 100 [str [], i64 0, i64 0] * R))))) = H') ⟨0, cu, [], [], none, 0, none, 0, [], _, ⟨rfl, hcu, (fun x hx => (by cases hx)), by show 0 ≤ 0; omega, rfl, by omega, Frag.le_refl _, rfl, fun k hk => absurd hk (by show ¬ k < 0; omega)⟩, rfl, rfl, rfl, by rw [show ([] : List (List UInt8)).length = 0 from rfl, show ([] : List V).length = 0 from rfl, show ([] : List (List UInt8)).map str = [] from rfl, sbuf_nil, sbuf_nil, one_star, one_star]; exact star_left _ _ _⟩ (Sub.cons (s := 9) rfl (Sub.cons (s := 0) rfl (Sub.cons (s := 1) rfl (Sub.cons (s := 2) rfl (Sub.cons (s := 4) rfl (Sub.cons (s := 5) rfl (Sub.cons (s := 6) rfl (Sub.cons (s := 7) rfl (Sub.cons (s := 8) rfl (Sub.cons (s := 22) rfl (Sub.cons (s := 23) rfl (Sub.cons (s := 24) rfl (Sub.cons (s := 25) rfl (Sub.cons (s := 26) rfl (Sub.cons (s := 27) rfl (Sub.cons (s := 28) rfl (Sub.cons (s := 29) rfl (Sub.cons (s := 32) rfl (Sub.cons (s := 33) rfl (Sub.cons (s := 34) rfl (Sub.cons (s := 35) rfl (Sub.nil _)))))))))))))))))))))) ?_
        rintro m ρ' B' H' ⟨i, cu2, ns, ps, An, cn, Ap, cp, xs, B2, ⟨hpf, hcu2, hnm, hnl, hpl, hin, hB2, hpr⟩, rfl, rfl, rfl, rfl⟩
        refine Cx.seq (fun K27 k27 => ?_)
        refine Cx.seq (fun K28 k28 => ?_)
        refine Cx.region ?_
        refine Lx.y (mv rfl) rfl ?_
        refine Lx.y (mv rfl) rfl ?_
        refine Lx.y (lss rfl rfl) rfl ?_
        refine Lx.y (mv rfl) rfl ?_
        refine Xx.ifD (t := 77) rfl (fun h29 => ?_) (fun h29 => ?_)
        · skip
          have hlt := h29
          refine Lx.gT rfl rfl rfl ?_
          refine Lx.y (fa' fo100_2 rfl) rfl ?_
          refine Lx.gT rfl rfl rfl ?_
          refine Lx.y (ld Try.underlying3 rfl rfl rfl) rfl ?_
          refine Lx.gT rfl rfl rfl ?_
          refine Lx.y (eqI rfl rfl) rfl ?_
          refine Lx.y (pickT rfl rfl) rfl ?_
          refine Lx.nil ?_
          refine Xx.tn (k28 _ _ _ _ ?_)
          refine Cx.condD rfl (fun h30 => ?_) (fun h30 => ?_)
          · skip
            have he2 : cu2.e = 0 := h30
            refine Cx.skip ?_
            refine Xx.tn (k27 _ _ _ _ ?_)
            refine Cx.seq (fun K31 k31 => ?_)
            refine Cx.block ?_
            refine Cx.cutK (ds' := []) (Sub.cons (s := 0) rfl (Sub.cons (s := 1) rfl (Sub.cons (s := 2) rfl (Sub.cons (s := 4) rfl (Sub.cons (s := 5) rfl (Sub.cons (s := 6) rfl (Sub.cons (s := 7) rfl (Sub.cons (s := 8) rfl (Sub.cons (s := 9) rfl (Sub.cons (s := 22) rfl (Sub.cons (s := 23) rfl (Sub.cons (s := 24) rfl (Sub.cons (s := 25) rfl (Sub.cons (s := 26) rfl (Sub.cons (s := 27) rfl (Sub.cons (s := 28) rfl (Sub.cons (s := 29) rfl (Sub.cons (s := 32) rfl (Sub.cons (s := 33) rfl (Sub.cons (s := 34) rfl (Sub.cons (s := 35) rfl (Sub.cons (s := 74) rfl (Sub.cons (s := 75) rfl (Sub.cons (s := 76) rfl (Sub.cons (s := 77) rfl (Sub.cons (s := 78) rfl (Sub.cons (s := 79) rfl (Sub.cons (s := 80) rfl (Sub.cons (s := 81) rfl (Sub.nil _)))))))))))))))))))))))))))))) (fun ρ' B' H' => ∃ An2 cn2, ρ' = [] ∧ B2 = B' ∧ sbuf 53 6 Ap ps.length cp xs * (sbuf 9 1 An2 (nameN (decide (k = 6)) cu2 ns).length cn2 ((nameN (decide (k = 6)) cu2 ns).map str) * (row b2 100 (cvs (nameC (decide (k = 6)) cu2)) * (row b7 53 [i64 k, .bool bb, i64 nn, str ss, .slice Ap ps.length cp, .slice An2 (nameN (decide (k = 6)) cu2 ns).length cn2] * (row b5 53 [i64 0, .bool false, i64 0, str [], .slice none 0 0, .slice none 0 0] * (row b4 100 [str [], i64 0, i64 0] * R))))) = H') ?_ ?_
            · skip
              refine Cx.seq (fun K32 k32 => ?_)
              refine Cx.region ?_
              refine Lx.y (fa' fo53_0 rfl) rfl ?_
              refine Lx.y (ld Try.underlying3 rfl rfl rfl) rfl ?_
              refine Lx.y (eqI rfl rfl) rfl ?_
              refine Lx.nil ?_
              refine Xx.tn (k32 _ _ _ _ ?_)
              refine Cx.condD rfl (fun h33 => ?_) (fun h33 => ?_)
              · skip
                have k6 : k = 6 := h33
                have hT : decide (k = 6) = true := decide_eq_true k6
                refine Cx.seq (fun K34 k34 => ?_)
                refine Cx.region ?_
                refine Lx.y (ldA Try.underlying100 rfl sz100 rfl (Cells.own (n := 3) PickB.eq rfl) rfl) rfl ?_
                refine Lx.cp rfl rfl rfl (RcText_ct cu2 16 (by decide) _ hcu2) rfl ?_
                refine Lx.y (mv rfl) rfl ?_
                refine Lx.y (ext rfl rfl) rfl ?_
                refine Lx.y (ext rfl rfl) rfl ?_
                refine Lx.new (allocO ti100) rfl (fun b10 => ?_)
                refine Lx.st (stA (d := .bool) sz100 rfl rfl rfl rfl (by show 0 + 3 ≤ 3; omega) rfl) ?_
                refine Lx.y (asg rfl) rfl ?_
                refine Lx.nil ?_
                refine Xx.tn (k34 _ _ _ _ ?_)
                refine Cx.seq (fun K35 k35 => ?_)
                refine Cx.region ?_
                refine Lx.y (ldA Try.underlying100 rfl sz100 rfl (Cells.own (n := 3) PickB.eq rfl) rfl) rfl ?_
                refine Lx.st (stA (d := .bool) sz100 rfl rfl rfl rfl (by show 0 + 3 ≤ 3; omega) rfl) ?_
                refine Lx.nil ?_
                refine Xx.tn (k35 _ _ _ _ ?_)
                refine Cx.region ?_
                refine Lx.y (fa' fo53_5 rfl) rfl ?_
                refine Lx.y (ld Try.underlying22 rfl rfl rfl) rfl ?_
                refine Lx.y (mv rfl) rfl ?_
                refine Lx.bsl (bsl1 Try.underlying22 ti9 rfl rfl rfl (by decide)) rfl (fun b11 => ?_)
                refine Lx.o (appN (et := 9) (nameN (decide (k = 6)) cu2 ns).length [str (cu2.text 16).2] ((nameN (decide (k = 6)) cu2 ns).map str) Try.underlying22 Try.underlying22 ti9 rfl rfl rfl rfl rfl (by omega) (by omega) (by rw [hT]; simp [nameN]) (by rw [hT]; simp [nameN])) rfl (fun v B' H' hΦ hB => ?_)
                obtain ⟨A3, c3, rfl, hA3, hl3, hc3, hBB, rfl⟩ := hΦ
                obtain rfl := hBB.symm
                clear hB
                refine Lx.y (fa' fo53_5 rfl) rfl ?_
                refine Lx.st (stO Try.underlying22 sz22 rfl rfl rfl (by simp) rfl) ?_
                refine Lx.nil ?_
                refine Xx.dropB b11 (Xx.dropB b10 ?_)
                exact Xx.mkK (⟨A3, c3, rfl, rfl, by rw [show nameC (decide (k = 6)) cu2 = (cu2.text 16).1 by rw [hT]; rfl]; ac_rfl⟩) (Sub.cons (s := 0) rfl (Sub.cons (s := 1) rfl (Sub.cons (s := 2) rfl (Sub.cons (s := 4) rfl (Sub.cons (s := 5) rfl (Sub.cons (s := 6) rfl (Sub.cons (s := 7) rfl (Sub.cons (s := 8) rfl (Sub.cons (s := 9) rfl (Sub.cons (s := 22) rfl (Sub.cons (s := 23) rfl (Sub.cons (s := 24) rfl (Sub.cons (s := 25) rfl (Sub.cons (s := 26) rfl (Sub.cons (s := 27) rfl (Sub.cons (s := 28) rfl (Sub.cons (s := 29) rfl (Sub.cons (s := 32) rfl (Sub.cons (s := 33) rfl (Sub.cons (s := 34) rfl (Sub.cons (s := 35) rfl (Sub.cons (s := 74) rfl (Sub.cons (s := 75) rfl (Sub.cons (s := 76) rfl (Sub.cons (s := 77) rfl (Sub.cons (s := 78) rfl (Sub.cons (s := 79) rfl (Sub.cons (s := 80) rfl (Sub.cons (s := 81) rfl (Sub.nil _))))))))))))))))))))))))))))))
              · skip
                have k6 : ¬ k = 6 := h33
                have hF : decide (k = 6) = false := decide_eq_false k6
                refine Cx.skip ?_
                exact Xx.mkK (⟨An, cn, rfl, rfl, by rw [hF]; show sbuf _ _ _ _ _ _ * (sbuf _ _ _ _ _ _ * (row _ _ _ * (row _ _ _ * _))) = _; rfl⟩) (Sub.cons (s := 0) rfl (Sub.cons (s := 1) rfl (Sub.cons (s := 2) rfl (Sub.cons (s := 4) rfl (Sub.cons (s := 5) rfl (Sub.cons (s := 6) rfl (Sub.cons (s := 7) rfl (Sub.cons (s := 8) rfl (Sub.cons (s := 9) rfl (Sub.cons (s := 22) rfl (Sub.cons (s := 23) rfl (Sub.cons (s := 24) rfl (Sub.cons (s := 25) rfl (Sub.cons (s := 26) rfl (Sub.cons (s := 27) rfl (Sub.cons (s := 28) rfl (Sub.cons (s := 29) rfl (Sub.cons (s := 32) rfl (Sub.cons (s := 33) rfl (Sub.cons (s := 34) rfl (Sub.cons (s := 35) rfl (Sub.cons (s := 74) rfl (Sub.cons (s := 75) rfl (Sub.cons (s := 76) rfl (Sub.cons (s := 77) rfl (Sub.cons (s := 78) rfl (Sub.cons (s := 79) rfl (Sub.cons (s := 80) rfl (Sub.cons (s := 81) rfl (Sub.nil _))))))))))))))))))))))))))))))
            · rintro ρ' B' H' ⟨An2, cn2, rfl, rfl, rfl⟩
              refine Cx.seq (fun K36 k36 => ?_)
              refine Cx.region ?_
              refine Lx.y (ldA Try.underlying100 rfl sz100 rfl (Cells.own (n := 3) PickB.eq rfl) rfl) rfl ?_
              refine Lx.y (mv rfl) rfl ?_
              refine Lx.y (add rfl rfl (by first | exact wrap64 (by omega) (by omega) | rfl)) rfl ?_
              refine Lx.cb rfl rfl rfl (ih (nameC (decide (k = 6)) cu2) _ (by omega) (nameC_ok hcu2)) rfl ?_
              rintro v B3 ⟨cs2, rfl, hv3⟩ hBc
              obtain ⟨Ap3, cp3, An3, cn3, rfl⟩ := ValR.shape hv3
              refine Lx.y (mv rfl) rfl ?_
              refine Lx.y (ext rfl rfl) rfl ?_
              refine Lx.y (ext rfl rfl) rfl ?_
              refine Lx.new (allocO ti100) rfl (fun b12 => ?_)
              refine Lx.new (allocO ti53) rfl (fun b13 => ?_)
              refine Lx.st (stA (d := .bool) sz100 rfl rfl rfl rfl (by show 0 + 3 ≤ 3; omega) rfl) ?_
              refine Lx.st (stA (d := .bool) sz53 rfl rfl rfl rfl (by show 0 + 6 ≤ 6; omega) rfl) ?_
              refine Lx.nil ?_
              refine Xx.tn (k36 _ _ _ _ ?_)
              refine Cx.seq (fun K38 k38 => ?_)
              refine Cx.region ?_
              refine Lx.y (ldA Try.underlying100 rfl sz100 rfl (Cells.own (n := 3) PickB.eq rfl) rfl) rfl ?_
              refine Lx.st (stA (d := .bool) sz100 rfl rfl rfl rfl (by show 0 + 3 ≤ 3; omega) rfl) ?_
              refine Lx.nil ?_
              refine Xx.tn (k38 _ _ _ _ ?_)
              refine Cx.region ?_
              refine Lx.y (fa' fo53_4 rfl) rfl ?_
              refine Lx.y (ld Try.underlying51 rfl rfl rfl) rfl ?_
              refine Lx.y (ldA Try.underlying53 rfl sz53 rfl (Cells.own (n := 6) PickB.eq rfl) rfl) rfl ?_
              refine Lx.bsl (bslA Try.underlying51 ti53 rfl rfl (by decide)) rfl (fun b30 => ?_)
              refine Lx.o (appN (et := 53) (ps ++ [(takeF d (deep + 1) (nameC (decide (k = 6)) cu2)).2]).length (vcs (takeF d (deep + 1) (nameC (decide (k = 6)) cu2)).2 Ap3 cp3 An3 cn3) (xs ++ vcs (takeF d (deep + 1) (nameC (decide (k = 6)) cu2)).2 Ap3 cp3 An3 cn3) Try.underlying51 Try.underlying51 ti53 rfl rfl rfl rfl rfl (by omega) (by omega) (by simp) rfl) rfl (fun v B' H' hΦ hB => ?_)
              obtain ⟨A2, c2, rfl, hA2, hl2, hc2, hBB, rfl⟩ := hΦ
              obtain rfl := hBB.symm
              clear hB
              refine Lx.y (fa' fo53_4 rfl) rfl ?_
              refine Lx.st (stO Try.underlying51 sz51 rfl rfl rfl (by simp) rfl) ?_
              refine Lx.nil ?_
              refine Xx.bn ?_
              refine Xx.tn (k31 _ _ _ _ ?_)
              refine Cx.region ?_
              refine Lx.y (mv rfl) rfl ?_
              refine Lx.y (add rfl rfl (by first | exact wrap64 (by omega) (by omega) | rfl)) rfl ?_
              refine Lx.y (asg rfl) rfl ?_
              refine Lx.nil ?_
              refine Xx.dropB b30 (Xx.dropB b12 (Xx.dropB b13 ?_))
              exact Xx.againK ⟨i + 1, (takeF d (deep + 1) (nameC (decide (k = 6)) cu2)).1, nameN (decide (k = 6)) cu2 ns, ps ++ [(takeF d (deep + 1) (nameC (decide (k = 6)) cu2)).2], An2, cn2, A2, c2, xs ++ vcs (takeF d (deep + 1) (nameC (decide (k = 6)) cu2)).2 Ap3 cp3 An3 cn3, _, ⟨by rw [hpf, show n - i = (n - (i + 1)) + 1 by omega]; exact partsF_step he2, takeF_ok _ _ _ (nameC_ok hcu2), nameN_ok hnm, by simp; have := nameN_len (six := decide (k = 6)) (c := cu2) hnl; omega, by simp; omega, by omega, Frag.le_trans hB2 hBc, by rw [List.length_append]; exact PartsR.push (hpr.mono hBc) rfl hv3⟩, rfl, rfl, rfl, by ac_rfl⟩ (by omega) (Sub.cons (s := 9) rfl (Sub.cons (s := 0) rfl (Sub.cons (s := 1) rfl (Sub.cons (s := 2) rfl (Sub.cons (s := 4) rfl (Sub.cons (s := 5) rfl (Sub.cons (s := 6) rfl (Sub.cons (s := 7) rfl (Sub.cons (s := 8) rfl (Sub.cons (s := 22) rfl (Sub.cons (s := 23) rfl (Sub.cons (s := 24) rfl (Sub.cons (s := 25) rfl (Sub.cons (s := 26) rfl (Sub.cons (s := 27) rfl (Sub.cons (s := 28) rfl (Sub.cons (s := 29) rfl (Sub.cons (s := 32) rfl (Sub.cons (s := 33) rfl (Sub.cons (s := 34) rfl (Sub.cons (s := 35) rfl (Sub.nil _))))))))))))))))))))))
          · skip
            have hexit : n - i = 0 ∨ ¬ cu2.e = 0 := .inr h30
            refine Cx.exit ?_
            refine Xx.te ?_
            refine Xx.te ?_
            refine Xx.bh ?_
            refine Xx.tn (k25 _ _ _ _ ?_)
            refine Cx.seq (fun K39 k39 => ?_)
            have hpz := hpf.trans (partsF_zero hexit)
            rw [hpz] at hTK
            refine Cx.drawn (by kernel_rfl) ?_
            refine Dx.r (i := 0) rfl (by kernel_rfl) (ldA Try.underlying100 rfl sz100 rfl (Cells.own (n := 3) PickB.eq rfl) rfl) rfl ?_
            refine Dx.r (i := 1) rfl (by kernel_rfl) (ldA Try.underlying53 rfl sz53 rfl (Cells.own (n := 6) PickB.eq rfl) rfl) rfl ?_
            refine Dx.one (i := 2) (by kernel_rfl) ?_
            refine Dstep.o0 (i := 2) rfl (stA (d := .bool) sz100 rfl rfl rfl rfl (by show 0 + 3 ≤ 3; omega) rfl) (fun v B' H' hΦ hB => ?_)
            obtain ⟨rfl, rfl⟩ := hΦ; clear hB v
            refine ⟨JOk.yes (JOk.edge (JOk.top) (by kernel_rfl)) (ldA Try.underlying53 rfl sz53 rfl (Cells.own (n := 6) PickB.eq rfl) rfl), ?_⟩
            refine Dx.one (i := 3) (by kernel_rfl) ?_
            refine Dstep.o0 (i := 3) rfl (stA (d := .bool) sz53 rfl rfl rfl rfl (by show 0 + 6 ≤ 6; omega) rfl) (fun v B' H' hΦ hB => ?_)
            obtain ⟨rfl, rfl⟩ := hΦ; clear hB v
            refine ⟨JOk.edge (JOk.edge (JOk.top) (by kernel_rfl)) (by kernel_rfl), ?_⟩
            refine Dx.done (by kernel_rfl) ?_
            refine Xx.tn (k39 _ _ _ _ ?_)
            refine Cx.ret ?_
            refine Xx.freezeT Ap fun B3 hB3 hRo hnc _ => ?_
            refine Xx.freezeT An fun B4 hB4 hRo4 hnc4 _ => ?_
            refine Xx.dropB b7 (Xx.dropB b2 ?_)
            refine Xx.rBcc rfl Try.underlying100 rfl sz100 rfl Try.underlying53 rfl sz53 rfl rfl rfl ⟨vcs (.mk k bb nn ss ps ns) Ap cp An cn, ?_, ?_⟩ (Frag.le_trans hB2 (Frag.le_trans hB3 hB4))
            · rw [hTK]; rfl
            · rw [hTK]; exact ValR.mk ⟨by show ss.length ≤ _; omega, hss.2.1, hss.2.2, hnc4, hnc⟩ (by show ps.length ≤ _; omega) (by show ns.length ≤ _; omega) (RoS.roe hRo4) (fun x hx => Nat.le_trans (hnm x hx) (by decide)) (hRo.mono hB4) (fun k hk => (PartsR.at (PartsR.mono hB4 (PartsR.mono hB3 hpr)) hk))
        · skip
          have hlt := h29
          have hexit : n - i = 0 ∨ ¬ cu2.e = 0 := by omega
          refine Lx.gF rfl rfl rfl rfl ?_
          refine Lx.gF rfl rfl rfl rfl ?_
          refine Lx.gF rfl rfl rfl rfl ?_
          refine Lx.y (pickF rfl rfl) rfl ?_
          refine Lx.nil ?_
          refine Xx.tn (k28 _ _ _ _ ?_)
          refine Cx.condF rfl ?_
          refine Cx.exit ?_
          refine Xx.te ?_
          refine Xx.te ?_
          refine Xx.bh ?_
          refine Xx.tn (k25 _ _ _ _ ?_)
          refine Cx.seq (fun K40 k40 => ?_)
          have hpz := hpf.trans (partsF_zero hexit)
          rw [hpz] at hTK
          refine Cx.drawn (by kernel_rfl) ?_
          refine Dx.r (i := 0) rfl (by kernel_rfl) (ldA Try.underlying100 rfl sz100 rfl (Cells.own (n := 3) PickB.eq rfl) rfl) rfl ?_
          refine Dx.r (i := 1) rfl (by kernel_rfl) (ldA Try.underlying53 rfl sz53 rfl (Cells.own (n := 6) PickB.eq rfl) rfl) rfl ?_
          refine Dx.one (i := 2) (by kernel_rfl) ?_
          refine Dstep.o0 (i := 2) rfl (stA (d := .bool) sz100 rfl rfl rfl rfl (by show 0 + 3 ≤ 3; omega) rfl) (fun v B' H' hΦ hB => ?_)
          obtain ⟨rfl, rfl⟩ := hΦ; clear hB v
          refine ⟨JOk.yes (JOk.edge (JOk.top) (by kernel_rfl)) (ldA Try.underlying53 rfl sz53 rfl (Cells.own (n := 6) PickB.eq rfl) rfl), ?_⟩
          refine Dx.one (i := 3) (by kernel_rfl) ?_
          refine Dstep.o0 (i := 3) rfl (stA (d := .bool) sz53 rfl rfl rfl rfl (by show 0 + 6 ≤ 6; omega) rfl) (fun v B' H' hΦ hB => ?_)
          obtain ⟨rfl, rfl⟩ := hΦ; clear hB v
          refine ⟨JOk.edge (JOk.edge (JOk.top) (by kernel_rfl)) (by kernel_rfl), ?_⟩
          refine Dx.done (by kernel_rfl) ?_
          refine Xx.tn (k40 _ _ _ _ ?_)
          refine Cx.ret ?_
          refine Xx.freezeT Ap fun B3 hB3 hRo hnc _ => ?_
          refine Xx.freezeT An fun B4 hB4 hRo4 hnc4 _ => ?_
          refine Xx.dropB b7 (Xx.dropB b2 ?_)
          refine Xx.rBcc rfl Try.underlying100 rfl sz100 rfl Try.underlying53 rfl sz53 rfl rfl rfl ⟨vcs (.mk k bb nn ss ps ns) Ap cp An cn, ?_, ?_⟩ (Frag.le_trans hB2 (Frag.le_trans hB3 hB4))
          · rw [hTK]; rfl
          · rw [hTK]; exact ValR.mk ⟨by show ss.length ≤ _; omega, hss.2.1, hss.2.2, hnc4, hnc⟩ (by show ps.length ≤ _; omega) (by show ns.length ≤ _; omega) (RoS.roe hRo4) (fun x hx => Nat.le_trans (hnm x hx) (by decide)) (hRo.mono hB4) (fun k hk => (PartsR.at (PartsR.mono hB4 (PartsR.mono hB3 hpr)) hk))
end VaF
end Go.Proofs.Ytcoiejmlpinpbaa
