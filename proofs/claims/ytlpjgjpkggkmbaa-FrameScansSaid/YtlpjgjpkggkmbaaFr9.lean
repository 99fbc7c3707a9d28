/-
  The walk of the law of scans.
-/
import Derived.Test.YtlpjgjpkggkmbaaProg
import Derived.Test.YtlpjgjpkggkmbaaSlj
import Derived.Test.YtlpjgjpkggkmbaaFr8
import Derived.Test.YtlpjgjpkggkmbaaSlk
namespace Go.Proofs.Ytlpjgjpkggkmbaa
open Go.SL Go.RowKit
set_option linter.unusedVariables false
set_option linter.unusedSimpArgs false
set_option maxRecDepth 100000
open Fr1 Fr2 Fr3 Fr4 Fr5 Fr6 Fr7 Fr8
namespace Fr9
theorem sz3 : (Try.prog.info? 3).map (·.size) = some 1 := by kernel_rfl
theorem sz4 : (Try.prog.info? 4).map (·.size) = some 1 := by kernel_rfl
theorem sz9 : (Try.prog.info? 9).map (·.size) = some 1 := by kernel_rfl
theorem sz33 : (Try.prog.info? 33).map (·.size) = some 1 := by kernel_rfl
theorem sz36 : (Try.prog.info? 36).map (·.size) = some 1 := by kernel_rfl
theorem sz43 : (Try.prog.info? 43).map (·.size) = some 3 := by kernel_rfl
theorem sz44 : (Try.prog.info? 44).map (·.size) = some 3 := by kernel_rfl
theorem ti3 : TI Try.prog 3 [.int .i64 0] 1 8 := TI.of (by kernel_rfl) rfl rfl
theorem ti4 : TI Try.prog 4 [.bool false] 1 1 := TI.of (by kernel_rfl) rfl rfl
theorem ti5 : TI Try.prog 5 [.int .u8 0] 1 1 := TI.of (by kernel_rfl) rfl rfl
theorem ti33 : TI Try.prog 33 [.slice none 0 0] 1 24 := TI.of (by kernel_rfl) rfl rfl
theorem ti36 : TI Try.prog 36 [.slice none 0 0] 1 24 := TI.of (by kernel_rfl) rfl rfl
theorem ti43 : TI Try.prog 43 [.int .i64 0, str [], .bool false] 3 32 := TI.of (by kernel_rfl) rfl rfl

theorem RefScanS_ct (l : List UInt8) (B : Frag) (hl : l.length ≤ 1048576) : CtB Try.prog 14 [str l] B (fun v B' => ∃ A c, v = .tuple #[.slice A (scanL l).length c, i64 (endL (scanL l))] ∧ RoS B' 3 A (scanL l).length (flatF (scanL l)) ∧ (scanL l).length ≤ c) := by
  have := RefScan_ct l B hl
  rw [← scan_same, end_same] at this
  exact this
theorem get_map {xs : List (List UInt8)} {i : Nat} (h : i < xs.length) : (xs.map str)[i]? = some (str (xs.getD i [])) := by
  simp [List.getD, h]
theorem neF_run (p : Int) (b : List UInt8) (g : Bool) (w : World) : (binOp .neq 43 (.agg [i64 p, str b, .bool g].toArray) (.agg [i64 p, str b, .bool g].toArray)).run Try.prog w = .ok (.bool false) w := by
  rw [run_neq_struct, run_equalIn_agg w 9999 43 _ _ Try.underlying43 (by kernel_rfl)]
  simp [Program.fieldsOf, Try.underlying43, Op.eqFields, part, go_sem]
theorem neG_run (p : Int) (b : List UInt8) (g : Bool) (w : World) : (binOp .neq 44 (.agg [i64 p, str b, .bool g].toArray) (.agg [i64 p, str b, .bool g].toArray)).run Try.prog w = .ok (.bool false) w := by
  rw [run_neq_struct, run_equalIn_agg w 9999 44 _ _ Try.underlying44 (by kernel_rfl)]
  simp [Program.fieldsOf, Try.underlying44, Op.eqFields, part, go_sem]
theorem neF {ρ : Sl} {S : World → Prop} {x y : Operand} {t' ty : TypeId} {p : Int} {b : List UInt8} {g : Bool} (hx : ev ρ x = some (.agg [i64 p, str b, .bool g].toArray)) (hy : ev ρ y = some (.agg [i64 p, str b, .bool g].toArray)) :
    Yx Try.prog (.binOp .neq 43 x y t') ty ρ S (.bool false) := .of (fun _ h => by cases h) fun f w _ _ _ _ he _ =>
  run_binOp (he _ _ hx) (he _ _ hy) (run_eqGuard_agg w .neq 43 _ _ _ _ (by kernel_rfl)) (neF_run p b g w)
theorem neG {ρ : Sl} {S : World → Prop} {x y : Operand} {t' ty : TypeId} {p : Int} {b : List UInt8} {g : Bool} (hx : ev ρ x = some (.agg [i64 p, str b, .bool g].toArray)) (hy : ev ρ y = some (.agg [i64 p, str b, .bool g].toArray)) :
    Yx Try.prog (.binOp .neq 44 x y t') ty ρ S (.bool false) := .of (fun _ h => by cases h) fun f w _ _ _ _ he _ =>
  run_binOp (he _ _ hx) (he _ _ hy) (run_eqGuard_agg w .neq 44 _ _ _ _ (by kernel_rfl)) (neG_run p b g w)

set_option maxHeartbeats 1000000 in
theorem FrameScans_ct (A : Option Addr) (n c : Nat) (xs : List (List UInt8)) (rest : List UInt8) (a d : Int) (B : Frag) (hro : RoE B A n (xs.map str)) : CtB Try.prog 4 [.slice A n c, str rest, .agg [i64 a, i64 d].toArray] B (fun v _ => v = .bool true) := by
  have hnx : xs.length = n := by simpa using hro.1
  refine CtB.of_bodyM Try.func4 rfl (nt := 150) rfl (by kernel_rfl) rfl ?_
  intro N0 w0 R
  refine Cx.seq (fun K1 k1 => ?_)
  refine Cx.region ?_
  refine Lx.new (boxA rfl) rfl (fun b5 => ?_)
  refine Lx.new (allocO ti4) rfl (fun b6 => ?_)
  refine Lx.nil ?_
  refine Xx.tn (k1 _ _ _ _ ?_)
  refine Cx.seq (fun K2 k2 => ?_)
  refine Cx.drawn (by kernel_rfl) ?_
  refine Dx.p (i := 0) rfl (by kernel_rfl) (iaArr Try.underlying28 sz3 rfl rfl rfl (by decide) (by decide)) rfl ?_
  refine Dx.r (i := 1) rfl (by kernel_rfl) (ld Try.underlying3 rfl rfl rfl) rfl ?_
  refine Dx.p (i := 2) rfl (by kernel_rfl) (iaArr Try.underlying28 sz3 rfl rfl rfl (by decide) (by decide)) rfl ?_
  refine Dx.r (i := 3) rfl (by kernel_rfl) (ld Try.underlying3 rfl rfl rfl) rfl ?_
  refine Dx.p (i := 4) rfl (by kernel_rfl) (cvI rfl Try.underlying3 Try.underlying5 (wrap_u8 _)) rfl ?_
  refine Dx.p (i := 5) rfl (by kernel_rfl) (asg rfl) rfl ?_
  refine Dx.p (i := 6) rfl (by kernel_rfl) (asg rfl) rfl ?_
  refine Dx.done (by kernel_rfl) ?_
  refine Xx.tn (k2 _ _ _ _ ?_)
  refine Cx.seq (fun K3 k3 => ?_)
  refine Xx.dropB b5 ?_
  refine Cx.region ?_
  refine Lx.y (asg rfl) rfl ?_
  refine Lx.nil ?_
  refine Xx.tn (k3 _ _ _ _ ?_)
  refine Cx.cutK (ds' := []) (Sub.cons (s := 0) rfl (Sub.cons (s := 1) rfl (Sub.cons (s := 2) rfl (Sub.cons (s := 5) rfl (Sub.cons (s := 6) rfl (Sub.cons (s := 7) rfl (Sub.cons (s := 8) rfl (Sub.cons (s := 19) rfl (Sub.cons (s := 20) rfl (Sub.cons (s := 21) rfl (Sub.cons (s := 22) rfl (Sub.cons (s := 23) rfl (Sub.nil _))))))))))))) (fun ρ' B' H' => ∃ s : List UInt8, s.length ≤ 2600 ∧ ρ' = [(9, str s)] ∧ B = B' ∧ row b6 4 [.bool false] * R = H') ?_ ?_
  · skip
    refine Cx.seq (fun K4 k4 => ?_)
    refine Cx.region ?_
    refine Lx.y (asg rfl) rfl ?_
    refine Lx.nil ?_
    refine Xx.tn (k4 _ _ _ _ ?_)
    refine Cx.block ?_
    refine Cx.loopK (Sub.cons (s := 0) rfl (Sub.cons (s := 1) rfl (Sub.cons (s := 2) rfl (Sub.cons (s := 5) rfl (Sub.cons (s := 6) rfl (Sub.cons (s := 7) rfl (Sub.cons (s := 8) rfl (Sub.cons (s := 19) rfl (Sub.cons (s := 20) rfl (Sub.cons (s := 21) rfl (Sub.cons (s := 22) rfl (Sub.cons (s := 23) rfl (Sub.nil _))))))))))))) (fun m ρ' B' H' => ∃ (i : Nat) (s : List UInt8), (i ≤ n ∧ i ≤ 8 ∧ s.length ≤ 312 * i) ∧ m = 8 - i ∧ ρ' = [(9, str s), (10, i64 i)] ∧ B = B' ∧ row b6 4 [.bool false] * R = H') ⟨0, [], ⟨by omega, by omega, by simp⟩, rfl, rfl, rfl, rfl⟩ (Sub.cons (s := 9) rfl (Sub.cons (s := 10) rfl (Sub.cons (s := 0) rfl (Sub.cons (s := 1) rfl (Sub.cons (s := 2) rfl (Sub.cons (s := 5) rfl (Sub.cons (s := 6) rfl (Sub.cons (s := 7) rfl (Sub.cons (s := 8) rfl (Sub.cons (s := 19) rfl (Sub.cons (s := 20) rfl (Sub.cons (s := 21) rfl (Sub.cons (s := 22) rfl (Sub.cons (s := 23) rfl (Sub.nil _))))))))))))))) ?_
    rintro m ρ' B' H' ⟨i, s, ⟨hi, hi8, hsl⟩, rfl, rfl, rfl, rfl⟩
    refine Cx.seq (fun K5 k5 => ?_)
    refine Cx.seq (fun K6 k6 => ?_)
    refine Cx.region ?_
    refine Lx.y (mv rfl) rfl ?_
    refine Lx.y (mv rfl) rfl ?_
    refine Lx.y (lenV (ty' := 0) Try.underlying27 rfl) rfl ?_
    refine Lx.y (lss rfl rfl) rfl ?_
    refine Lx.y (mv rfl) rfl ?_
    refine Xx.ifD (t := 28) rfl (fun h7 => ?_) (fun h7 => ?_)
    · skip
      refine Lx.gT rfl rfl rfl ?_
      refine Lx.y (mv rfl) rfl ?_
      refine Lx.gT rfl rfl rfl ?_
      refine Lx.y (lss rfl rfl) rfl ?_
      refine Lx.y (pickT rfl rfl) rfl ?_
      refine Lx.nil ?_
      refine Xx.tn (k6 _ _ _ _ ?_)
      refine Cx.condD rfl (fun h8 => ?_) (fun h8 => ?_)
      · skip
        refine Cx.skip ?_
        refine Xx.tn (k5 _ _ _ _ ?_)
        refine Cx.seq (fun K9 k9 => ?_)
        refine Cx.block ?_
        refine Cx.seq (fun K10 k10 => ?_)
        obtain ⟨bq, oq, cq, eq, fq, rfl, hBq, hcq⟩ := hro.at1 (k := i) (by omega)
        rw [get_map (by omega)] at hcq
        generalize hg : xs.getD i [] = x0 at hcq
        have hfl := fewL_len x0
        have hml : (headL (fewL x0) ++ fewL x0).length = 12 + (fewL x0).length := by simp
        refine Cx.region ?_
        refine Lx.y (mv rfl) rfl ?_
        refine Lx.y (mv rfl) rfl ?_
        refine Lx.y (ia Try.underlying27 sz9 rfl rfl (by first | exact Int.toNat_natCast _ | rfl) (by omega) (by omega)) rfl ?_
        refine Lx.y (ldB Try.underlying9 rfl rfl hBq hcq) rfl ?_
        refine Lx.cp rfl rfl rfl (few_ct _ _) rfl ?_
        refine Lx.cp rfl rfl rfl (MakeY_ct _ _ (Nat.le_trans (fewL_len _) (by decide))) rfl ?_
        refine Lx.y (mv rfl) rfl ?_
        refine Lx.y (ext rfl rfl) rfl ?_
        refine Lx.y (ext rfl rfl) rfl ?_
        refine Lx.y (asg rfl) rfl ?_
        refine Lx.y (asg rfl) rfl ?_
        refine Lx.nil ?_
        refine Xx.tn (k10 _ _ _ _ ?_)
        refine Cx.seq (fun K11 k11 => ?_)
        refine Cx.seq (fun K12 k12 => ?_)
        refine Cx.drawn (by kernel_rfl) ?_
        refine Dx.p (i := 0) rfl (by kernel_rfl) (mv rfl) rfl ?_
        refine Dx.p (i := 1) rfl (by kernel_rfl) (neI rfl rfl) rfl ?_
        refine Dx.p (i := 2) rfl (by kernel_rfl) (mv rfl) rfl ?_
        refine Xx.ifN (t := 45) rfl (fun h13 => ?_) (fun h13 => ?_)
        · skip
          exact absurd rfl h13
        · skip
          refine Dx.pT (i := 3) rfl rfl rfl rfl (by kernel_rfl) (mv rfl) rfl ?_
          refine Dx.pT (i := 4) rfl rfl rfl rfl (by kernel_rfl) (mv rfl) rfl ?_
          refine Dx.pT (i := 5) rfl rfl rfl rfl (by kernel_rfl) (mv rfl) rfl ?_
          refine Dx.pT (i := 6) rfl rfl rfl rfl (by kernel_rfl) (ia Try.underlying27 sz9 rfl rfl (by first | exact Int.toNat_natCast _ | rfl) (by omega) (by omega)) rfl ?_
          refine Dx.rT (i := 7) rfl rfl rfl rfl (by kernel_rfl) (ldB Try.underlying9 rfl rfl hBq hcq) rfl ?_
          refine Dx.one (i := 8) (by kernel_rfl) ?_
          refine Dstep.oT (i := 8) rfl rfl rfl rfl (Ox.cb rfl rfl rfl (few_ct _ _)) rfl (fun v B' H' hΦ hB => ?_)
          obtain ⟨rfl, rfl, rfl⟩ := hΦ; clear hB
          refine ⟨JOk.edge (JOk.top) (by kernel_rfl), ?_⟩
          refine Dx.one (i := 9) (by kernel_rfl) ?_
          refine Dstep.oT (i := 9) rfl rfl rfl rfl (Ox.cb rfl rfl rfl (RefFrame_ct _ _ (Nat.le_trans (fewL_len _) (by decide)))) rfl (fun v B' H' hΦ hB => ?_)
          obtain ⟨rfl, rfl, rfl⟩ := hΦ; clear hB
          refine ⟨JOk.yes (JOk.top) (ldB Try.underlying9 rfl rfl hBq hcq), ?_⟩
          refine Dx.pT (i := 10) rfl rfl rfl rfl (by kernel_rfl) (neS rfl rfl) rfl ?_
          refine Dx.p (i := 11) rfl (by kernel_rfl) (pickF rfl rfl) rfl ?_
          refine Dx.p (i := 12) rfl (by kernel_rfl) (mv rfl) rfl ?_
          refine Xx.ifN (t := 55) rfl (fun h14 => ?_) (fun h14 => ?_)
          · skip
            exact absurd (refFrame_eq _).symm h14
          · skip
            refine Dx.pT (i := 13) rfl rfl rfl rfl (by kernel_rfl) (mv rfl) rfl ?_
            refine Dx.pT (i := 14) rfl rfl rfl rfl (by kernel_rfl) (sl2S Try.underlying9 rfl rfl (show Int.toNat _ = 12 from rfl) (by omega) (by omega)) rfl ?_
            refine Dx.pT (i := 15) rfl rfl rfl rfl (by kernel_rfl) (mv rfl) rfl ?_
            refine Dx.pT (i := 16) rfl rfl rfl rfl (by kernel_rfl) (mv rfl) rfl ?_
            refine Dx.pT (i := 17) rfl rfl rfl rfl (by kernel_rfl) (ia Try.underlying27 sz9 rfl rfl (by first | exact Int.toNat_natCast _ | rfl) (by omega) (by omega)) rfl ?_
            refine Dx.rT (i := 18) rfl rfl rfl rfl (by kernel_rfl) (ldB Try.underlying9 rfl rfl hBq hcq) rfl ?_
            refine Dx.one (i := 19) (by kernel_rfl) ?_
            refine Dstep.oT (i := 19) rfl rfl rfl rfl (Ox.cb rfl rfl rfl (few_ct _ _)) rfl (fun v B' H' hΦ hB => ?_)
            obtain ⟨rfl, rfl, rfl⟩ := hΦ; clear hB
            refine ⟨JOk.edge (JOk.yes (JOk.top) (ldB Try.underlying9 rfl rfl hBq hcq)) (by kernel_rfl), ?_⟩
            refine Dx.one (i := 20) (by kernel_rfl) ?_
            refine Dstep.oT (i := 20) rfl rfl rfl rfl (Ox.cb rfl rfl rfl (Head_ct _ _ (Nat.le_trans (fewL_len _) (by decide)))) rfl (fun v B' H' hΦ hB => ?_)
            obtain ⟨rfl, rfl, rfl⟩ := hΦ; clear hB
            refine ⟨JOk.yes (JOk.yes (JOk.top) (ldB Try.underlying9 rfl rfl hBq hcq)) (ldB Try.underlying9 rfl rfl hBq hcq), ?_⟩
            refine Dx.pT (i := 21) rfl rfl rfl rfl (by kernel_rfl) (neS rfl rfl) rfl ?_
            refine Dx.p (i := 22) rfl (by kernel_rfl) (pickF rfl rfl) rfl ?_
            refine Dx.done (by kernel_rfl) ?_
            refine Xx.tn (k12 _ _ _ _ ?_)
            refine Cx.condN rfl (fun h15 => ?_) (fun h15 => ?_)
            · skip
              exact absurd (List.take_left' (headL_len _)) h15
            · skip
              refine Cx.skip ?_
              refine Xx.tn (k11 _ _ _ _ ?_)
              refine Cx.region ?_
              refine Lx.y (mv rfl) rfl ?_
              refine Lx.y (mv rfl) rfl ?_
              refine Lx.y (catS rfl rfl (by first | omega | (simp <;> omega))) rfl ?_
              refine Lx.y (asg rfl) rfl ?_
              refine Lx.nil ?_
              refine Xx.bn ?_
              refine Xx.tn (k9 _ _ _ _ ?_)
              refine Cx.region ?_
              refine Lx.y (mv rfl) rfl ?_
              refine Lx.y (add rfl rfl (by first | exact wrap64 (by omega) (by omega) | rfl)) rfl ?_
              refine Lx.y (asg rfl) rfl ?_
              refine Lx.nil ?_
              exact Xx.againK ⟨i + 1, s ++ (headL (fewL x0) ++ fewL x0), ⟨by omega, by omega, by rw [List.length_append]; omega⟩, rfl, rfl, rfl, rfl⟩ (by omega) (Sub.cons (s := 9) rfl (Sub.cons (s := 10) rfl (Sub.cons (s := 0) rfl (Sub.cons (s := 1) rfl (Sub.cons (s := 2) rfl (Sub.cons (s := 5) rfl (Sub.cons (s := 6) rfl (Sub.cons (s := 7) rfl (Sub.cons (s := 8) rfl (Sub.cons (s := 19) rfl (Sub.cons (s := 20) rfl (Sub.cons (s := 21) rfl (Sub.cons (s := 22) rfl (Sub.cons (s := 23) rfl (Sub.nil _)))))))))))))))
      · skip
        refine Cx.exit ?_
        refine Xx.te ?_
        refine Xx.te ?_
        refine Xx.bh ?_
        exact Xx.mkK (⟨s, by omega, rfl, rfl, rfl⟩) (Sub.cons (s := 9) rfl (Sub.cons (s := 0) rfl (Sub.cons (s := 1) rfl (Sub.cons (s := 2) rfl (Sub.cons (s := 5) rfl (Sub.cons (s := 6) rfl (Sub.cons (s := 7) rfl (Sub.cons (s := 8) rfl (Sub.cons (s := 19) rfl (Sub.cons (s := 20) rfl (Sub.cons (s := 21) rfl (Sub.cons (s := 22) rfl (Sub.cons (s := 23) rfl (Sub.nil _))))))))))))))
    · skip
      refine Lx.gF rfl rfl rfl rfl ?_
      refine Lx.gF rfl rfl rfl rfl ?_
      refine Lx.y (pickF rfl rfl) rfl ?_
      refine Lx.nil ?_
      refine Xx.tn (k6 _ _ _ _ ?_)
      refine Cx.condF rfl ?_
      refine Cx.exit ?_
      refine Xx.te ?_
      refine Xx.te ?_
      refine Xx.bh ?_
      exact Xx.mkK (⟨s, by omega, rfl, rfl, rfl⟩) (Sub.cons (s := 9) rfl (Sub.cons (s := 0) rfl (Sub.cons (s := 1) rfl (Sub.cons (s := 2) rfl (Sub.cons (s := 5) rfl (Sub.cons (s := 6) rfl (Sub.cons (s := 7) rfl (Sub.cons (s := 8) rfl (Sub.cons (s := 19) rfl (Sub.cons (s := 20) rfl (Sub.cons (s := 21) rfl (Sub.cons (s := 22) rfl (Sub.cons (s := 23) rfl (Sub.nil _))))))))))))))
  · rintro ρ' B' H' ⟨s, hs, rfl, rfl, rfl⟩
    refine Cx.seq (fun K16 k16 => ?_)
    refine Cx.region ?_
    refine Lx.y (mv rfl) rfl ?_
    refine Lx.y (mv rfl) rfl ?_
    refine Lx.cp rfl rfl rfl (few_ct _ _) rfl ?_
    have hfr := fewL_len rest
    have hlr : (s ++ fewL rest).length = s.length + (fewL rest).length := List.length_append
    refine Lx.y (catS rfl rfl (by first | omega | (simp <;> omega))) rfl ?_
    refine Lx.y (asg rfl) rfl ?_
    refine Lx.nil ?_
    refine Xx.tn (k16 _ _ _ _ ?_)
    refine Cx.cutK (ds' := []) (Sub.cons (s := 0) rfl (Sub.cons (s := 1) rfl (Sub.cons (s := 2) rfl (Sub.cons (s := 5) rfl (Sub.cons (s := 6) rfl (Sub.cons (s := 7) rfl (Sub.cons (s := 8) rfl (Sub.cons (s := 19) rfl (Sub.cons (s := 20) rfl (Sub.cons (s := 21) rfl (Sub.cons (s := 22) rfl (Sub.cons (s := 23) rfl (Sub.cons (s := 69) rfl (Sub.cons (s := 70) rfl (Sub.cons (s := 71) rfl (Sub.cons (s := 72) rfl (Sub.nil _))))))))))))))))) (fun ρ' B' H' => ∃ s : List UInt8, s.length ≤ 1000000 ∧ ρ' = [(9, str s)] ∧ B = B' ∧ row b6 4 [.bool false] * R = H') ?_ ?_
    · skip
      refine Cx.seq (fun K17 k17 => ?_)
      refine Cx.region ?_
      refine Lx.y (mv rfl) rfl ?_
      refine Lx.y (geq rfl rfl) rfl ?_
      refine Lx.y (mv rfl) rfl ?_
      refine Xx.ifD (t := 75) rfl (fun h18 => ?_) (fun h18 => ?_)
      · skip
        obtain ⟨p, rfl⟩ := Int.eq_ofNat_of_zero_le h18
        refine Lx.gT rfl rfl rfl ?_
        refine Lx.y (mv rfl) rfl ?_
        refine Lx.gT rfl rfl rfl ?_
        refine Lx.y (mv rfl) rfl ?_
        refine Lx.gT rfl rfl rfl ?_
        refine Lx.y (lenS Try.underlying9 rfl) rfl ?_
        refine Lx.gT rfl rfl rfl ?_
        refine Lx.y (lss rfl rfl) rfl ?_
        refine Lx.y (pickT rfl rfl) rfl ?_
        refine Lx.nil ?_
        refine Xx.tn (k17 _ _ _ _ ?_)
        refine Cx.condD rfl (fun h19 => ?_) (fun h19 => ?_)
        · skip
          refine Cx.drawn (by kernel_rfl) ?_
          refine Dx.p (i := 0) rfl (by kernel_rfl) (mv rfl) rfl ?_
          refine Dx.p (i := 1) rfl (by kernel_rfl) (mv rfl) rfl ?_
          refine Dx.p (i := 2) rfl (by kernel_rfl) (sl2S Try.underlying9 rfl rfl (by first | exact Int.toNat_natCast _ | rfl) (by omega) (by omega)) rfl ?_
          refine Dx.p (i := 3) rfl (by kernel_rfl) (mv rfl) rfl ?_
          refine Dx.p (i := 4) rfl (by kernel_rfl) (mv rfl) rfl ?_
          refine Dx.p (i := 5) rfl (by kernel_rfl) (ixS Try.underlying9 rfl rfl (by first | exact Int.toNat_natCast _ | rfl) (by omega) (by omega)) rfl ?_
          refine Dx.p (i := 6) rfl (by kernel_rfl) (mv rfl) rfl ?_
          refine Dx.p (i := 7) rfl (by kernel_rfl) (bxor rfl rfl (show bXor .u8 _ _ = ((toB _).toNat : Nat) from wrap_u8 _)) rfl ?_
          refine Dx.p (i := 11) rfl (by kernel_rfl) (mv rfl) rfl ?_
          refine Dx.p (i := 12) rfl (by kernel_rfl) (mv rfl) rfl ?_
          refine Dx.p (i := 13) rfl (by kernel_rfl) (add rfl rfl (by first | exact wrap64 (by omega) (by omega) | rfl)) rfl ?_
          refine Dx.p (i := 14) rfl (by kernel_rfl) (sl1S Try.underlying9 rfl rfl (by first | exact Int.toNat_natCast _ | rfl) (by omega) (by omega)) rfl ?_
          refine Dx.one (i := 8) (by kernel_rfl) ?_
          refine Dstep.o (i := 8) rfl (bsl1 Try.underlying32 ti5 rfl rfl rfl (by decide)) rfl (fun v B' H' hΦ hB => ?_)
          obtain ⟨b89, rfl, rfl, rfl⟩ := hΦ; clear hB
          refine ⟨JOk.top, ?_⟩
          refine Dx.r (i := 9) rfl (by kernel_rfl) (b2sR Try.underlying32 Try.underlying5 Try.underlying9 rfl (u8s_cons u8s_nil) rfl) rfl ?_
          refine Dx.p (i := 10) rfl (by kernel_rfl) (catS rfl rfl (by first | omega | (simp <;> omega))) rfl ?_
          refine Dx.p (i := 15) rfl (by kernel_rfl) (catS rfl rfl (by first | omega | (simp <;> omega))) rfl ?_
          refine Dx.p (i := 16) rfl (by kernel_rfl) (asg rfl) rfl ?_
          refine Dx.done (by kernel_rfl) ?_
          refine Xx.dropB b89 ?_
          exact Xx.mkK (⟨_, by simp; omega, rfl, rfl, rfl⟩) (Sub.cons (s := 9) rfl (Sub.cons (s := 0) rfl (Sub.cons (s := 1) rfl (Sub.cons (s := 2) rfl (Sub.cons (s := 5) rfl (Sub.cons (s := 6) rfl (Sub.cons (s := 7) rfl (Sub.cons (s := 8) rfl (Sub.cons (s := 19) rfl (Sub.cons (s := 20) rfl (Sub.cons (s := 21) rfl (Sub.cons (s := 22) rfl (Sub.cons (s := 23) rfl (Sub.cons (s := 69) rfl (Sub.cons (s := 70) rfl (Sub.cons (s := 71) rfl (Sub.cons (s := 72) rfl (Sub.nil _))))))))))))))))))
        · skip
          refine Cx.skip ?_
          exact Xx.mkK (⟨_, by simp; omega, rfl, rfl, rfl⟩) (Sub.cons (s := 9) rfl (Sub.cons (s := 0) rfl (Sub.cons (s := 1) rfl (Sub.cons (s := 2) rfl (Sub.cons (s := 5) rfl (Sub.cons (s := 6) rfl (Sub.cons (s := 7) rfl (Sub.cons (s := 8) rfl (Sub.cons (s := 19) rfl (Sub.cons (s := 20) rfl (Sub.cons (s := 21) rfl (Sub.cons (s := 22) rfl (Sub.cons (s := 23) rfl (Sub.cons (s := 69) rfl (Sub.cons (s := 70) rfl (Sub.cons (s := 71) rfl (Sub.cons (s := 72) rfl (Sub.nil _))))))))))))))))))
      · skip
        refine Lx.gF rfl rfl rfl rfl ?_
        refine Lx.gF rfl rfl rfl rfl ?_
        refine Lx.gF rfl rfl rfl rfl ?_
        refine Lx.gF rfl rfl rfl rfl ?_
        refine Lx.y (pickF rfl rfl) rfl ?_
        refine Lx.nil ?_
        refine Xx.tn (k17 _ _ _ _ ?_)
        refine Cx.condF rfl ?_
        refine Cx.skip ?_
        exact Xx.mkK (⟨_, by simp; omega, rfl, rfl, rfl⟩) (Sub.cons (s := 9) rfl (Sub.cons (s := 0) rfl (Sub.cons (s := 1) rfl (Sub.cons (s := 2) rfl (Sub.cons (s := 5) rfl (Sub.cons (s := 6) rfl (Sub.cons (s := 7) rfl (Sub.cons (s := 8) rfl (Sub.cons (s := 19) rfl (Sub.cons (s := 20) rfl (Sub.cons (s := 21) rfl (Sub.cons (s := 22) rfl (Sub.cons (s := 23) rfl (Sub.cons (s := 69) rfl (Sub.cons (s := 70) rfl (Sub.cons (s := 71) rfl (Sub.cons (s := 72) rfl (Sub.nil _))))))))))))))))))
    · rintro ρ' B' H' ⟨s, hs, rfl, rfl, rfl⟩
      refine Cx.seq (fun K20 k20 => ?_)
      refine Cx.region ?_
      refine Lx.y (mv rfl) rfl ?_
      refine Lx.cb rfl rfl rfl (RefScanS_ct s _ (by omega)) rfl ?_
      rintro v B3 ⟨A1, c1, rfl, hR1, hc1⟩ hB3
      refine Lx.y (mv rfl) rfl ?_
      refine Lx.y (ext rfl rfl) rfl ?_
      refine Lx.y (ext rfl rfl) rfl ?_
      refine Lx.new (allocO ti33) rfl (fun b13 => ?_)
      refine Lx.st (stO Try.underlying33 sz33 rfl rfl rfl (by simp) rfl) ?_
      refine Lx.y (asg rfl) rfl ?_
      refine Lx.nil ?_
      refine Xx.tn (k20 _ _ _ _ ?_)
      refine Cx.seq (fun K22 k22 => ?_)
      refine Cx.region ?_
      refine Lx.y (mv rfl) rfl ?_
      refine Lx.cb rfl rfl rfl (Scan_ct s _ (by omega)) rfl ?_
      rintro v B4 ⟨A2, c2, rfl, hR2, hc2⟩ hB4
      refine Lx.y (mv rfl) rfl ?_
      refine Lx.y (ext rfl rfl) rfl ?_
      refine Lx.y (ext rfl rfl) rfl ?_
      refine Lx.new (allocO ti36) rfl (fun b15 => ?_)
      refine Lx.st (stO Try.underlying36 sz36 rfl rfl rfl (by simp) rfl) ?_
      refine Lx.y (asg rfl) rfl ?_
      refine Lx.nil ?_
      refine Xx.tn (k22 _ _ _ _ ?_)
      refine Cx.seq (fun K24 k24 => ?_)
      refine Cx.seq (fun K25 k25 => ?_)
      refine Cx.region ?_
      refine Lx.cb rfl rfl rfl (awake_ct _) rfl ?_
      rintro v B5 rfl hB5
      refine Lx.y (not' rfl) rfl ?_
      refine Lx.y (mv rfl) rfl ?_
      refine Xx.ifB (t := 109) rfl (fun h27 => ?_) (fun h27 => ?_)
      · skip
        cases h27
      · skip
        refine Lx.gT rfl rfl rfl ?_
        refine Lx.y (mv rfl) rfl ?_
        refine Lx.gT rfl rfl rfl ?_
        refine Lx.y (mv rfl) rfl ?_
        refine Lx.gT rfl rfl rfl ?_
        refine Lx.y (neI rfl rfl) rfl ?_
        refine Lx.y (pickF rfl rfl) rfl ?_
        refine Lx.y (mv rfl) rfl ?_
        refine Xx.ifN (t := 114) rfl (fun h28 => ?_) (fun h28 => ?_)
        · skip
          exact absurd rfl h28
        · skip
          refine Lx.gT rfl rfl rfl ?_
          refine Lx.y (ld Try.underlying36 rfl rfl rfl) rfl ?_
          refine Lx.gT rfl rfl rfl ?_
          refine Lx.y (lenV (ty' := 0) Try.underlying36 rfl) rfl ?_
          refine Lx.gT rfl rfl rfl ?_
          refine Lx.y (ld Try.underlying33 rfl rfl rfl) rfl ?_
          refine Lx.gT rfl rfl rfl ?_
          refine Lx.y (lenV (ty' := 0) Try.underlying33 rfl) rfl ?_
          refine Lx.gT rfl rfl rfl ?_
          refine Lx.y (neI rfl rfl) rfl ?_
          refine Lx.y (pickF rfl rfl) rfl ?_
          refine Lx.nil ?_
          refine Xx.tn (k25 _ _ _ _ ?_)
          refine Cx.condN rfl (fun h29 => ?_) (fun h29 => ?_)
          · skip
            exact absurd rfl h29
          · skip
            refine Cx.skip ?_
            refine Xx.tn (k24 _ _ _ _ ?_)
            refine Cx.seq (fun K30 k30 => ?_)
            refine Cx.region ?_
            refine Lx.new (allocO ti3) rfl (fun b17 => ?_)
            refine Lx.st (stO Try.underlying3 sz3 rfl rfl rfl (by simp) rfl) ?_
            refine Lx.nil ?_
            refine Xx.tn (k30 _ _ _ _ ?_)
            refine Cx.seq (fun K31 k31 => ?_)
            refine Cx.seq (fun K32 k32 => ?_)
            refine Cx.region ?_
            refine Lx.y (mv rfl) rfl ?_
            refine Lx.cb rfl rfl rfl (All_ct s _) rfl ?_
            rintro v B6 ⟨bb, rfl, hbb⟩ hB6
            refine Lx.nil ?_
            refine Xx.tn (k32 _ _ _ _ ?_)
            refine Cx.block ?_
            refine Cx.rangeK (σ := _) (Sub.cons (s := 6) rfl (Sub.cons (s := 13) rfl (Sub.cons (s := 15) rfl (Sub.cons (s := 17) rfl (Sub.nil _))))) rfl rfl (All1_it s bb B6 (by omega) hbb) (show _ = 1 * ((row b17 3 [.int .i64 0] * (row b15 36 [.slice A2 (scanL s).length c2] * row b13 33 [.slice A1 (scanL s).length c1])) * (row b6 4 [.bool false] * R)) by rw [one_star]; ac_rfl) rfl (fun _ => rfl) (fun pre B' H' => ∃ k : Nat, k = pre.length ∧ H' = row b17 3 [i64 k] * (row b15 36 [.slice A2 (scanL s).length c2] * row b13 33 [.slice A1 (scanL s).length c1])) (fun _ _ _ _ => False) (fun pre x B1 ρ' B' H' => ∃ bf, ∃ k : Nat, k = pre.length ∧ ρ' = [(18, .pointer (some ⟨bf, 0, none⟩))] ∧ B' = B1 ∧ H' = row bf 43 [i64 x.pos, str x.body, .bool x.good] * (row b17 3 [i64 k] * (row b15 36 [.slice A2 (scanL s).length c2] * row b13 33 [.slice A1 (scanL s).length c1]))) (⟨0, rfl, rfl⟩) ?_ ?_ ?_ ?_
            · rintro lz Nz wz pre x post B1 H1 F K hxs hB1 hJ hK
              obtain ⟨k, hk, rfl⟩ := hJ
              refine Cx.region ?_
              refine Lx.new (allocO ti43) rfl (fun bf => ?_)
              refine Lx.st (stA (d := .bool) sz43 rfl rfl rfl rfl (by simp) rfl) ?_
              refine Lx.nil ?_
              refine Xx.tn ?_
              exact Xx.sub (Xx.perm (hK _ _ _ ⟨bf, k, hk, rfl, rfl, rfl⟩ (Frag.le_refl _)) (star_assoc _ _ _).symm) (Sub.cons (s := 18) rfl (Sub.cons (s := 6) rfl (Sub.cons (s := 13) rfl (Sub.cons (s := 15) rfl (Sub.cons (s := 17) rfl (Sub.nil _))))))
            · rintro lz Nz wz pre x post B1 F ρ' B' H' hxs hB1 hBx hAS
              obtain ⟨bf, k, hk, rfl, rfl, rfl⟩ := hAS
              have hlen := scanF_len s (s.length + 1) 0 (by omega)
              have hN : (scanL s).length = pre.length + 1 + post.length := by rw [hxs]; simp; omega
              have hN2 : 12 * (scanL s).length + 0 ≤ s.length := hlen
              have hkn : k < (scanL s).length := by omega
              obtain ⟨q1, o1, cs1, et1, fz1, rfl, hq1, hs1⟩ := hR1.at hkn
              obtain ⟨q2, o2, cs2, et2, fz2, rfl, hq2, hs2⟩ := hR2.at hkn
              have hx : ((flatF (scanL s)).drop (k * 3)).take 3 = [i64 x.pos, str x.body, .bool x.good] := by
                have e : flatF (scanL s) = flatF pre ++ ([i64 x.pos, str x.body, .bool x.good] ++ flatF post) := by rw [hxs]; simp [flatF]
                rw [e, hk, ← flatF_len pre, List.drop_left]; rfl
              simp only [star_assoc]
              refine Cx.block ?_
              refine Cx.seq (fun K34 k34 => ?_)
              refine Cx.seq (fun K35 k35 => ?_)
              refine Cx.drawn (by kernel_rfl) ?_
              refine Dx.r (i := 0) rfl (by kernel_rfl) (ld Try.underlying3 rfl rfl rfl) rfl ?_
              refine Dx.r (i := 1) rfl (by kernel_rfl) (ld Try.underlying33 rfl rfl rfl) rfl ?_
              refine Dx.p (i := 2) rfl (by kernel_rfl) (lenV (ty' := 0) Try.underlying33 rfl) rfl ?_
              refine Dx.p (i := 3) rfl (by kernel_rfl) (geq rfl rfl) rfl ?_
              refine Dx.p (i := 4) rfl (by kernel_rfl) (mv rfl) rfl ?_
              refine Xx.ifD (t := 128) rfl (fun h36 => ?_) (fun h36 => ?_)
              · skip
                exact absurd h36 (by omega)
              · skip
                refine Dx.rT (i := 5) rfl rfl rfl rfl (by kernel_rfl) (ldA Try.underlying43 rfl sz43 rfl (Cells.own (n := 3) PickB.eq rfl) rfl) rfl ?_
                refine Dx.rT (i := 6) rfl rfl rfl rfl (by kernel_rfl) (ld Try.underlying36 rfl rfl rfl) rfl ?_
                refine Dx.rT (i := 7) rfl rfl rfl rfl (by kernel_rfl) (ld Try.underlying3 rfl rfl rfl) rfl ?_
                refine Dx.pT (i := 8) rfl rfl rfl rfl (by kernel_rfl) (ia Try.underlying36 sz43 rfl rfl (by first | exact Int.toNat_natCast _ | rfl) (by omega) (by omega)) rfl ?_
                refine Dx.rT (i := 9) rfl rfl rfl rfl (by kernel_rfl) (ldA Try.underlying43 rfl sz43 rfl (Cells.base (n := 3) (hB1 _ _ (hB6 _ _ (hB5 _ _ hq2))) (hs2.trans hx)) rfl) rfl ?_
                refine Dx.pT (i := 10) rfl rfl rfl rfl (by kernel_rfl) (neF rfl rfl) rfl ?_
                refine Dx.p (i := 11) rfl (by kernel_rfl) (pickF rfl rfl) rfl ?_
                refine Dx.p (i := 12) rfl (by kernel_rfl) (mv rfl) rfl ?_
                refine Dx.rT (i := 13) rfl rfl rfl rfl (by kernel_rfl) (ldA Try.underlying43 rfl sz43 rfl (Cells.own (n := 3) PickB.eq rfl) rfl) rfl ?_
                refine Dx.rT (i := 14) rfl rfl rfl rfl (by kernel_rfl) (ld Try.underlying33 rfl rfl rfl) rfl ?_
                refine Dx.rT (i := 15) rfl rfl rfl rfl (by kernel_rfl) (ld Try.underlying3 rfl rfl rfl) rfl ?_
                refine Dx.pT (i := 16) rfl rfl rfl rfl (by kernel_rfl) (ia Try.underlying33 sz44 rfl rfl (by first | exact Int.toNat_natCast _ | rfl) (by omega) (by omega)) rfl ?_
                refine Dx.rT (i := 17) rfl rfl rfl rfl (by kernel_rfl) (ldA Try.underlying44 rfl sz44 rfl (Cells.base (n := 3) (hB1 _ _ (hB6 _ _ (hB5 _ _ (hB4 _ _ hq1)))) (hs1.trans hx)) rfl) rfl ?_
                refine Dx.pT (i := 18) rfl rfl rfl rfl (by kernel_rfl) (neG rfl rfl) rfl ?_
                refine Dx.p (i := 19) rfl (by kernel_rfl) (pickF rfl rfl) rfl ?_
                refine Dx.done (by kernel_rfl) ?_
                refine Xx.tn (k35 _ _ _ _ ?_)
                refine Cx.condF rfl ?_
                refine Cx.skip ?_
                refine Xx.tn (k34 _ _ _ _ ?_)
                refine Cx.region ?_
                refine Lx.y (ld Try.underlying3 rfl rfl rfl) rfl ?_
                refine Lx.y (add rfl rfl (by first | exact wrap64 (by omega) (by omega) | rfl)) rfl ?_
                refine Lx.st (stO Try.underlying3 sz3 rfl rfl rfl (by simp) rfl) ?_
                refine Lx.nil ?_
                refine Xx.bn ?_
                refine Xx.dropB bf ?_
                exact Xx.rqn ⟨k + 1, by simp [hk], rfl⟩ hBx (by simp only [star_assoc]; rfl)
            · rintro D B' H' hBx hJ
              obtain ⟨k, hk, rfl⟩ := hJ
              have hd : decide (((k : Nat) : Int) = (((scanL s).length : Nat) : Int)) = true := by rw [hk]; simp
              simp only [star_assoc]
              refine Xx.bn ?_
              refine Xx.tn (k31 _ _ _ _ ?_)
              refine Cx.seq (fun K37 k37 => ?_)
              refine Cx.region ?_
              refine Lx.y (ld Try.underlying3 rfl rfl rfl) rfl ?_
              refine Lx.y (ld Try.underlying33 rfl rfl rfl) rfl ?_
              refine Lx.y (lenV (ty' := 0) Try.underlying33 rfl) rfl ?_
              refine Lx.y (eqI rfl rfl) rfl ?_
              refine Lx.st (stO Try.underlying4 sz4 rfl rfl rfl (by simp) rfl) ?_
              refine Lx.nil ?_
              refine Xx.tn (k37 _ _ _ _ ?_)
              refine Cx.ret ?_
              rw [hd]
              refine Xx.dropB b17 (Xx.dropB b15 (Xx.dropB b13 ?_))
              exact Xx.rBMc (Ds := [D]) (G := row b6 4 [.bool true]) (resC1 rfl Try.underlying4 rfl rfl) rfl (Frag.le_trans (Frag.le_trans (Frag.le_trans (Frag.le_trans hB3 hB4) hB5) hB6) hBx) (by simp only [marks, one_star, star_assoc]; ac_rfl)
            · rintro D c pre post B' H' hxs hBx hJx
              exact hJx.elim
end Fr9
end Go.Proofs.Ytlpjgjpkggkmbaa
