/-
  The walks of the laws of values.
-/
import Derived.Test.YtcoiejmlpinpbaaProg
import Derived.Test.YtcoiejmlpinpbaaSlj
import Derived.Test.YtcoiejmlpinpbaaVaN
import Derived.Test.YtcoiejmlpinpbaaSlr
namespace Go.Proofs.Ytcoiejmlpinpbaa
open Go.SL Go.RowKit
set_option linter.unusedVariables false
set_option linter.unusedSimpArgs false
set_option maxRecDepth 100000
open Ke5 Ke6 Ke7 Ke8 Ke9 KeA KeB KeE KeF KeG KeH VaA VaB VaC VaD VaE VaF VaG VaH VaI VaJ VaK VaL VaM VaN
namespace VaO
theorem sz46 : (Try.prog.info? 46).map (·.size) = some 6 := by kernel_rfl
theorem sz53 : (Try.prog.info? 53).map (·.size) = some 6 := by kernel_rfl
theorem ti46 : TI Try.prog 46 [.int .i64 0, .bool false, .int .i64 0, str [], .slice none 0 0, .slice none 0 0] 6 88 := TI.of (by kernel_rfl) rfl rfl
theorem ti53 : TI Try.prog 53 [.int .i64 0, .bool false, .int .i64 0, str [], .slice none 0 0, .slice none 0 0] 6 88 := TI.of (by kernel_rfl) rfl rfl
theorem fo46_0 : FO Try.prog 46 0 0 1 false := FO.of Try.underlying46 rfl rfl (by kernel_rfl) Try.underlying3 rfl rfl
theorem fo46_3 : FO Try.prog 46 3 3 1 false := FO.of Try.underlying46 rfl rfl (by kernel_rfl) Try.underlying9 rfl rfl
theorem fo46_4 : FO Try.prog 46 4 4 1 false := FO.of Try.underlying46 rfl rfl (by kernel_rfl) Try.underlying44 rfl rfl

theorem bytes_inj {a b : V} (h1 : CheckF 9 a = 0) (h2 : CheckF 9 b = 0) (r1 : Rg 9 a) (r2 : Rg 9 b) (h : bytesF 9 a = bytesF 9 b) : a = b := by
  have e1 := (dec_to h1 r1).2
  have e2 := (dec_to h2 r2).2
  rw [h] at e1
  exact e1.symm.trans e2

set_option maxHeartbeats 1000000 in
theorem ValueChecks_ct (x : V) (cs : List Value) (d : Nat) (B : Frag) (hx : ValR B d x cs) : CtB Try.prog 5 [.agg cs.toArray] B (fun v _ => v = .bool true) := by
  obtain ⟨Ap, cp, An, cn, rfl⟩ := ValR.shape hx
  refine CtB.of_body Try.func5 rfl (nt := 15) rfl (by kernel_rfl) rfl ?_
  intro N0 w0 R
  refine Cx.seq (fun K1 k1 => ?_)
  refine Cx.region ?_
  refine Lx.new (boxA rfl) rfl (fun b1 => ?_)
  refine Lx.y (asg rfl) rfl ?_
  refine Lx.nil ?_
  refine Xx.tn (k1 _ _ _ _ ?_)
  refine Cx.seq (fun K2 k2 => ?_)
  refine Cx.region ?_
  refine Lx.y (ldA Try.underlying46 rfl sz46 rfl (Cells.own (n := 6) PickB.eq rfl) rfl) rfl ?_
  refine Lx.cb rfl rfl rfl (Cut_ct 10 33 _ _ _ _ (by decide) (by decide) (hx)) rfl ?_
  rintro r B2 ⟨cs2, rfl, hv2⟩ hB2
  obtain ⟨Apcs2, cpcs2, Ancs2, cncs2, rfl⟩ := ValR.shape hv2
  refine Lx.new (allocO ti46) rfl (fun b3 => ?_)
  refine Lx.st (stA (d := .bool) sz46 rfl rfl rfl rfl (by show 0 + 6 ≤ 6; omega) rfl) ?_
  refine Lx.nil ?_
  refine Xx.tn (k2 _ _ _ _ ?_)
  refine Cx.seq (fun K4 k4 => ?_)
  refine Cx.drawn (by kernel_rfl) ?_
  refine Dx.one (i := 0) (by kernel_rfl) ?_
  refine Dstep.o (i := 0) rfl (Ox.cb rfl rfl rfl (awake_ct _)) rfl (fun v B' H' hΦ hB => ?_)
  obtain ⟨rfl, hΦ⟩ := hΦ
  obtain rfl := hΦ
  have hB3 := hB
  refine ⟨JOk.top, ?_⟩
  refine Dx.p (i := 1) rfl (by kernel_rfl) (mv rfl) rfl ?_
  refine Dx.rT (i := 2) rfl rfl rfl rfl (by kernel_rfl) (ldA Try.underlying46 rfl sz46 rfl (Cells.own (n := 6) PickB.eq rfl) rfl) rfl ?_
  refine Dx.rT (i := 4) rfl rfl rfl rfl (by kernel_rfl) (ldA Try.underlying46 rfl sz46 rfl (Cells.own (n := 6) PickB.eq rfl) rfl) rfl ?_
  refine Dx.one (i := 3) (by kernel_rfl) ?_
  refine Dstep.oT (i := 3) rfl rfl rfl rfl (Ox.cb rfl rfl rfl (Check_ct 11 _ _ _ (ValR.mono hB3 hv2) (fun z => cut_bytes z))) rfl (fun v B' H' hΦ hB => ?_)
  obtain ⟨rfl, rfl, rfl⟩ := hΦ; clear hB
  refine ⟨JOk.yes (JOk.edge (JOk.top) (by kernel_rfl)) (ldA Try.underlying46 rfl sz46 rfl (Cells.own (n := 6) PickB.eq rfl) rfl), ?_⟩
  refine Dx.one (i := 5) (by kernel_rfl) ?_
  refine Dstep.oT (i := 5) rfl rfl rfl rfl (Ox.cb rfl rfl rfl (Ref_ct 11 _ _ _ (ValR.mono hB3 hv2) (cutF_few _ _ _ _ (by decide)))) rfl (fun v B' H' hΦ hB => ?_)
  obtain ⟨rfl, hΦ⟩ := hΦ
  obtain ⟨cs4, rfl, hv4⟩ := hΦ
  obtain ⟨Apcs4, cpcs4, Ancs4, cncs4, rfl⟩ := ValR.shape hv4
  have hB4 := hB
  refine ⟨JOk.edge (JOk.yes (JOk.top) (ldA Try.underlying46 rfl sz46 rfl (Cells.own (n := 6) PickB.eq rfl) rfl)) (by kernel_rfl), ?_⟩
  refine Dx.one (i := 6) (by kernel_rfl) ?_
  refine Dstep.oT (i := 6) rfl rfl rfl rfl (Ox.cb rfl rfl rfl (RCheck_ct 11 _ _ _ hv4 (fun z => cut_bytes z))) rfl (fun v B' H' hΦ hB => ?_)
  obtain ⟨rfl, rfl, rfl⟩ := hΦ; clear hB
  refine ⟨JOk.yes (JOk.yes (JOk.top) (ldA Try.underlying46 rfl sz46 rfl (Cells.own (n := 6) PickB.eq rfl) rfl)) (ldA Try.underlying46 rfl sz46 rfl (Cells.own (n := 6) PickB.eq rfl) rfl), ?_⟩
  refine Dx.pT (i := 7) rfl rfl rfl rfl (by kernel_rfl) (Yx.tt (eqI rfl rfl) (decide_eq_true rfl)) rfl ?_
  refine Dx.p (i := 8) rfl (by kernel_rfl) (pickT rfl rfl) rfl ?_
  refine Dx.p (i := 9) rfl (by kernel_rfl) (asg rfl) rfl ?_
  refine Dx.done (by kernel_rfl) ?_
  refine Xx.tn (k4 _ _ _ _ ?_)
  refine Cx.ret ?_
  refine Xx.dropB b3 (Xx.dropB b1 ?_)
  exact Xx.rB1 rfl rfl rfl (Frag.le_trans hB2 (Frag.le_trans hB3 hB4)) rfl

set_option maxHeartbeats 1000000 in
theorem ValueBytes_ct (x : V) (cs : List Value) (d : Nat) (B : Frag) (hx : ValR B d x cs) : CtB Try.prog 6 [.agg cs.toArray] B (fun v _ => v = .bool true) := by
  obtain ⟨Ap, cp, An, cn, rfl⟩ := ValR.shape hx
  refine CtB.of_body Try.func6 rfl (nt := 65) rfl (by kernel_rfl) rfl ?_
  intro N0 w0 R
  refine Cx.seq (fun K1 k1 => ?_)
  refine Cx.region ?_
  refine Lx.new (boxA rfl) rfl (fun b1 => ?_)
  refine Lx.y (asg rfl) rfl ?_
  refine Lx.nil ?_
  refine Xx.tn (k1 _ _ _ _ ?_)
  refine Cx.seq (fun K2 k2 => ?_)
  refine Cx.region ?_
  refine Lx.y (ldA Try.underlying46 rfl sz46 rfl (Cells.own (n := 6) PickB.eq rfl) rfl) rfl ?_
  refine Lx.cb rfl rfl rfl (Cut_ct 10 33 _ _ _ _ (by decide) (by decide) (hx)) rfl ?_
  rintro r B2 ⟨cs2, rfl, hv2⟩ hB2
  obtain ⟨Apcs2, cpcs2, Ancs2, cncs2, rfl⟩ := ValR.shape hv2
  refine Lx.new (allocO ti46) rfl (fun b3 => ?_)
  refine Lx.st (stA (d := .bool) sz46 rfl rfl rfl rfl (by show 0 + 6 ≤ 6; omega) rfl) ?_
  refine Lx.nil ?_
  refine Xx.tn (k2 _ _ _ _ ?_)
  refine Cx.seq (fun K4 k4 => ?_)
  refine Cx.region ?_
  refine Lx.y (ldA Try.underlying46 rfl sz46 rfl (Cells.own (n := 6) PickB.eq rfl) rfl) rfl ?_
  refine Lx.cp rfl rfl rfl (Encode_ct 11 _ _ _ hv2 (fun z => cut_bytes z)) rfl ?_
  refine Lx.y (mv rfl) rfl ?_
  refine Lx.y (ext rfl rfl) rfl ?_
  refine Lx.y (ext rfl rfl) rfl ?_
  refine Lx.y (asg rfl) rfl ?_
  refine Lx.y (asg rfl) rfl ?_
  refine Lx.nil ?_
  refine Xx.tn (k4 _ _ _ _ ?_)
  refine Cx.seq (fun K5 k5 => ?_)
  refine Cx.region ?_
  refine Lx.y (ldA Try.underlying46 rfl sz46 rfl (Cells.own (n := 6) PickB.eq rfl) rfl) rfl ?_
  refine Lx.cb rfl rfl rfl (Ref_ct 11 _ _ _ (hv2) (cutF_few _ _ _ _ (by decide))) rfl ?_
  rintro r B3 ⟨cs3, rfl, hv3⟩ hB3
  obtain ⟨Apcs3, cpcs3, Ancs3, cncs3, rfl⟩ := ValR.shape hv3
  refine Lx.cp rfl rfl rfl (RCheck_ct 11 _ _ _ hv3 (fun z => cut_bytes z)) rfl ?_
  refine Lx.y (asg rfl) rfl ?_
  refine Lx.nil ?_
  refine Xx.tn (k5 _ _ _ _ ?_)
  refine Cx.seq (fun K7 k7 => ?_)
  refine Cx.seq (fun K8 k8 => ?_)
  refine Cx.region ?_
  refine Lx.cb rfl rfl rfl (awake_ct _) rfl ?_
  rintro v B4 rfl hB4
  refine Lx.y (not' rfl) rfl ?_
  refine Lx.y (mv rfl) rfl ?_
  refine Lx.gT rfl rfl rfl ?_
  refine Lx.y (mv rfl) rfl ?_
  refine Lx.gT rfl rfl rfl ?_
  refine Lx.y (mv rfl) rfl ?_
  refine Lx.gT rfl rfl rfl ?_
  refine Lx.y (Yx.ff (neI rfl rfl) (by simp)) rfl ?_
  refine Lx.y (pickF rfl rfl) rfl ?_
  refine Lx.nil ?_
  refine Xx.tn (k8 _ _ _ _ ?_)
  refine Cx.condF rfl ?_
  refine Cx.skip ?_
  refine Xx.tn (k7 _ _ _ _ ?_)
  refine Cx.seq (fun K10 k10 => ?_)
  refine Cx.seq (fun K11 k11 => ?_)
  refine Cx.region ?_
  refine Lx.y (mv rfl) rfl ?_
  refine Lx.y (neI rfl rfl) rfl ?_
  refine Lx.nil ?_
  refine Xx.tn (k11 _ _ _ _ ?_)
  refine Cx.condN rfl (fun h12 => ?_) (fun h12 => ?_)
  · skip
    have hz := h12
    rw [if_neg hz]
    refine Cx.seq (fun K13 k13 => ?_)
    refine Cx.region ?_
    refine Lx.y (mv rfl) rfl ?_
    refine Lx.y (eqS rfl rfl) rfl ?_
    refine Lx.y (asg rfl) rfl ?_
    refine Lx.nil ?_
    refine Xx.tn (k13 _ _ _ _ ?_)
    refine Cx.ret ?_
    refine Xx.tr ?_
    refine Xx.dropB b3 (Xx.dropB b1 ?_)
    exact Xx.rB1 rfl rfl rfl (Frag.le_trans hB2 (Frag.le_trans hB3 hB4)) rfl
  · skip
    have hz : CheckF 11 (cutF 10 33 x) = 0 := h12
    rw [if_pos hz]
    have hz9 : CheckF 9 (cutF 10 33 x) = 0 := (Check11 _).symm.trans hz
    obtain ⟨hok9, hby9⟩ := CheckF_zero hz9
    obtain ⟨hok, hby⟩ := CheckF_zero hz
    have hb9 := bytes11 hok9
    obtain ⟨hd1, hd2⟩ := dec_to hz9 (Rg.down (Rg.down (ValR.rg hv2)))
    refine Cx.skip ?_
    refine Xx.tn (k10 _ _ _ _ ?_)
    refine Cx.seq (fun K14 k14 => ?_)
    refine Cx.region ?_
    refine Lx.y (mv rfl) rfl ?_
    refine Lx.cb rfl rfl rfl (Decode_ct (bytesF 11 (cutF 10 33 x)) _ (Nat.le_trans hby (by decide))) rfl ?_
    rintro v B5 ⟨cs5, rfl, hv5⟩ hB5
    have hd0 : decE (bytesF 11 (cutF 10 33 x)) = 0 := by rw [hb9]; exact hd1
    have hdv : decV (bytesF 11 (cutF 10 33 x)) = (cutF 10 33 x) := by rw [hb9]; exact hd2
    rw [hd0]
    rw [hdv] at hv5
    obtain ⟨Apcs5, cpcs5, Ancs5, cncs5, rfl⟩ := ValR.shape hv5
    refine Lx.y (mv rfl) rfl ?_
    refine Lx.y (ext rfl rfl) rfl ?_
    refine Lx.y (ext rfl rfl) rfl ?_
    refine Lx.new (allocO ti46) rfl (fun b7 => ?_)
    refine Lx.st (stA (d := .bool) sz46 rfl rfl rfl rfl (by show 0 + 6 ≤ 6; omega) rfl) ?_
    refine Lx.y (asg rfl) rfl ?_
    refine Lx.nil ?_
    refine Xx.tn (k14 _ _ _ _ ?_)
    refine Cx.seq (fun K16 k16 => ?_)
    refine Cx.region ?_
    refine Lx.y (ldA Try.underlying46 rfl sz46 rfl (Cells.own (n := 6) PickB.eq rfl) rfl) rfl ?_
    refine Lx.cp rfl rfl rfl (Encode_ct 9 _ _ _ hv5 (fun z => Nat.le_trans hby9 (by decide))) rfl ?_
    rw [if_pos hz9, hz9, ← hb9]
    refine Lx.y (mv rfl) rfl ?_
    refine Lx.y (ext rfl rfl) rfl ?_
    refine Lx.y (ext rfl rfl) rfl ?_
    refine Lx.y (asg rfl) rfl ?_
    refine Lx.y (asg rfl) rfl ?_
    refine Lx.nil ?_
    refine Xx.tn (k16 _ _ _ _ ?_)
    refine Cx.seq (fun K17 k17 => ?_)
    refine Cx.region ?_
    refine Lx.y (mv rfl) rfl ?_
    refine Lx.y (ldA Try.underlying46 rfl sz46 rfl (Cells.own (n := 6) PickB.eq rfl) rfl) rfl ?_
    refine Lx.cb rfl rfl rfl (Ref_ct 11 _ _ _ (ValR.mono hB5 (ValR.mono hB4 (ValR.mono hB3 hv2))) (cutF_few _ _ _ _ (by decide))) rfl ?_
    rintro r B6 ⟨cs6, rfl, hv6⟩ hB6
    obtain ⟨Apcs6, cpcs6, Ancs6, cncs6, rfl⟩ := ValR.shape hv6
    refine Lx.cp rfl rfl rfl (RBytes_ct 11 _ _ 1 _ hv6 hok (Nat.le_trans hby (by decide))) rfl ?_
    refine Lx.y (Yx.tt (eqS rfl rfl) (decide_eq_true rfl)) rfl ?_
    refine Lx.y (mv rfl) rfl ?_
    refine Lx.gT rfl rfl rfl ?_
    refine Lx.y (mv rfl) rfl ?_
    refine Lx.gT rfl rfl rfl ?_
    refine Lx.y (Yx.tt (eqI rfl rfl) (by decide)) rfl ?_
    refine Lx.y (pickT rfl rfl) rfl ?_
    refine Lx.y (mv rfl) rfl ?_
    refine Lx.gT rfl rfl rfl ?_
    refine Lx.y (ldA Try.underlying46 rfl sz46 rfl (Cells.own (n := 6) PickB.eq rfl) rfl) rfl ?_
    refine Lx.gT rfl rfl rfl ?_
    refine Lx.y (ldA Try.underlying46 rfl sz46 rfl (Cells.own (n := 6) PickB.eq rfl) rfl) rfl ?_
    refine Lx.gT rfl rfl rfl ?_
    refine Lx.cp rfl rfl rfl ((show CtP _ _ _ _ (.bool true) from (decide_eq_true (cmpF_refl 11 (cutF 10 33 x))) ▸ VSame_ct 11 _ _ 1 _ _ _ (ValR.mono hB6 (ValR.mono hB5 (ValR.mono hB4 (ValR.mono hB3 hv2)))) (ValR.up (d := 10) (ValR.up (d := 9) (ValR.mono hB6 hv5))) hok hok)) rfl ?_
    refine Lx.y (pickT rfl rfl) rfl ?_
    refine Lx.y (mv rfl) rfl ?_
    refine Lx.gT rfl rfl rfl ?_
    refine Lx.y (mv rfl) rfl ?_
    refine Lx.gT rfl rfl rfl ?_
    refine Lx.y (Yx.tt (eqI rfl rfl) (by decide)) rfl ?_
    refine Lx.y (pickT rfl rfl) rfl ?_
    refine Lx.y (mv rfl) rfl ?_
    refine Lx.gT rfl rfl rfl ?_
    refine Lx.y (mv rfl) rfl ?_
    refine Lx.gT rfl rfl rfl ?_
    refine Lx.y (mv rfl) rfl ?_
    refine Lx.gT rfl rfl rfl ?_
    refine Lx.y (Yx.tt (eqS rfl rfl) (decide_eq_true rfl)) rfl ?_
    refine Lx.y (pickT rfl rfl) rfl ?_
    refine Lx.y (asg rfl) rfl ?_
    refine Lx.nil ?_
    refine Xx.tn (k17 _ _ _ _ ?_)
    refine Cx.ret ?_
    refine Xx.dropB b7 (Xx.dropB b3 (Xx.dropB b1 ?_))
    exact Xx.rB1 rfl rfl rfl (Frag.le_trans hB2 (Frag.le_trans hB3 (Frag.le_trans hB4 (Frag.le_trans hB5 hB6)))) rfl

set_option maxHeartbeats 1000000 in
theorem ValueReads_ct (s0 : List UInt8) (B : Frag) : CtB Try.prog 7 [str s0] B (fun v _ => v = .bool true) := by
  refine CtB.of_body Try.func7 rfl (nt := 65) rfl (by kernel_rfl) rfl ?_
  intro N0 w0 R
  refine Cx.seq (fun K1 k1 => ?_)
  refine Cx.region ?_
  refine Lx.y (asg rfl) rfl ?_
  refine Lx.nil ?_
  refine Xx.tn (k1 _ _ _ _ ?_)
  refine Cx.cutK (ds' := []) (Sub.cons (s := 2) rfl (Sub.nil _)) (fun ρ' B' H' => ∃ s : List UInt8, ρ' = [(0, str s)] ∧ B = B' ∧ s.length ≤ 1500 ∧ R = H') ?_ ?_
  · skip
    refine Cx.seq (fun K2 k2 => ?_)
    refine Cx.region ?_
    refine Lx.y (mv rfl) rfl ?_
    refine Lx.y (lenS Try.underlying9 rfl) rfl ?_
    refine Lx.y (gtr rfl rfl) rfl ?_
    refine Lx.nil ?_
    refine Xx.tn (k2 _ _ _ _ ?_)
    refine Cx.condD rfl (fun h3 => ?_) (fun h3 => ?_)
    · skip
      have hl := h3
      refine Cx.region ?_
      refine Lx.y (mv rfl) rfl ?_
      refine Lx.y (sl2S Try.underlying9 rfl rfl (show Int.toNat _ = 1500 from rfl) (by omega) (by omega)) rfl ?_
      refine Lx.y (asg rfl) rfl ?_
      refine Lx.nil ?_
      exact Xx.mkK (⟨s0.take 1500, rfl, rfl, by rw [List.length_take]; omega, rfl⟩) (Sub.cons (s := 0) rfl (Sub.cons (s := 2) rfl (Sub.nil _)))
    · skip
      have hl := h3
      refine Cx.skip ?_
      exact Xx.mkK (⟨s0, rfl, rfl, by omega, rfl⟩) (Sub.cons (s := 0) rfl (Sub.cons (s := 2) rfl (Sub.nil _)))
  · rintro ρ' B' H' ⟨s, rfl, rfl, hs, rfl⟩
    refine Cx.seq (fun K4 k4 => ?_)
    refine Cx.region ?_
    refine Lx.y (mv rfl) rfl ?_
    refine Lx.cb rfl rfl rfl (Decode_ct s _ (by omega)) rfl ?_
    rintro v B2 ⟨cs2, rfl, hv2⟩ hB2
    obtain ⟨Apcs2, cpcs2, Ancs2, cncs2, rfl⟩ := ValR.shape hv2
    refine Lx.y (mv rfl) rfl ?_
    refine Lx.y (ext rfl rfl) rfl ?_
    refine Lx.y (ext rfl rfl) rfl ?_
    refine Lx.new (allocO ti46) rfl (fun b3 => ?_)
    refine Lx.st (stA (d := .bool) sz46 rfl rfl rfl rfl (by show 0 + 6 ≤ 6; omega) rfl) ?_
    refine Lx.y (asg rfl) rfl ?_
    refine Lx.nil ?_
    refine Xx.tn (k4 _ _ _ _ ?_)
    refine Cx.seq (fun K6 k6 => ?_)
    refine Cx.region ?_
    refine Lx.y (mv rfl) rfl ?_
    refine Lx.cb rfl rfl rfl (RDecode_ct s _ (by omega)) rfl ?_
    rintro v B3 ⟨cs3, rfl, hv3⟩ hB3
    obtain ⟨Apcs3, cpcs3, Ancs3, cncs3, rfl⟩ := ValR.shape hv3
    refine Lx.y (mv rfl) rfl ?_
    refine Lx.y (ext rfl rfl) rfl ?_
    refine Lx.y (ext rfl rfl) rfl ?_
    refine Lx.new (allocO ti53) rfl (fun b5 => ?_)
    refine Lx.st (stA (d := .bool) sz53 rfl rfl rfl rfl (by show 0 + 6 ≤ 6; omega) rfl) ?_
    refine Lx.y (asg rfl) rfl ?_
    refine Lx.nil ?_
    refine Xx.tn (k6 _ _ _ _ ?_)
    refine Cx.seq (fun K8 k8 => ?_)
    refine Cx.seq (fun K9 k9 => ?_)
    refine Cx.region ?_
    refine Lx.cb rfl rfl rfl (awake_ct _) rfl ?_
    rintro v B4 rfl hB4
    refine Lx.y (not' rfl) rfl ?_
    refine Lx.y (mv rfl) rfl ?_
    refine Lx.gT rfl rfl rfl ?_
    refine Lx.y (mv rfl) rfl ?_
    refine Lx.gT rfl rfl rfl ?_
    refine Lx.y (mv rfl) rfl ?_
    refine Lx.gT rfl rfl rfl ?_
    refine Lx.y (Yx.ff (neI rfl rfl) (by simp)) rfl ?_
    refine Lx.y (pickF rfl rfl) rfl ?_
    refine Lx.nil ?_
    refine Xx.tn (k9 _ _ _ _ ?_)
    refine Cx.condF rfl ?_
    refine Cx.skip ?_
    refine Xx.tn (k8 _ _ _ _ ?_)
    refine Cx.seq (fun K11 k11 => ?_)
    refine Cx.seq (fun K12 k12 => ?_)
    refine Cx.region ?_
    refine Lx.y (mv rfl) rfl ?_
    refine Lx.y (neI rfl rfl) rfl ?_
    refine Lx.nil ?_
    refine Xx.tn (k12 _ _ _ _ ?_)
    refine Cx.condN rfl (fun h13 => ?_) (fun h13 => ?_)
    · skip
      have hz := h13
      have hV : decV s = V0 := by unfold decV; rw [if_neg hz]
      rw [hV]
      refine Cx.seq (fun K14 k14 => ?_)
      refine Cx.region ?_
      refine Lx.y (fa' fo46_0 rfl) rfl ?_
      refine Lx.y (ld Try.underlying3 rfl rfl rfl) rfl ?_
      refine Lx.y (Yx.tt (eqI rfl rfl) (by decide)) rfl ?_
      refine Lx.y (mv rfl) rfl ?_
      refine Lx.gT rfl rfl rfl ?_
      refine Lx.y (fa' fo46_4 rfl) rfl ?_
      refine Lx.gT rfl rfl rfl ?_
      refine Lx.y (ld Try.underlying44 rfl rfl rfl) rfl ?_
      refine Lx.gT rfl rfl rfl ?_
      refine Lx.y (lenV (ty' := 0) Try.underlying44 rfl) rfl ?_
      refine Lx.gT rfl rfl rfl ?_
      refine Lx.y (Yx.tt (eqI rfl rfl) (by decide)) rfl ?_
      refine Lx.y (pickT rfl rfl) rfl ?_
      refine Lx.y (mv rfl) rfl ?_
      refine Lx.gT rfl rfl rfl ?_
      refine Lx.y (fa' fo46_3 rfl) rfl ?_
      refine Lx.gT rfl rfl rfl ?_
      refine Lx.y (ld Try.underlying9 rfl rfl rfl) rfl ?_
      refine Lx.gT rfl rfl rfl ?_
      refine Lx.y (Yx.tt (eqS rfl rfl) (decide_eq_true rfl)) rfl ?_
      refine Lx.y (pickT rfl rfl) rfl ?_
      refine Lx.y (asg rfl) rfl ?_
      refine Lx.nil ?_
      refine Xx.tn (k14 _ _ _ _ ?_)
      refine Cx.ret ?_
      refine Xx.tr ?_
      refine Xx.dropB b5 (Xx.dropB b3 ?_)
      exact Xx.rB1 rfl rfl rfl (Frag.le_trans hB2 (Frag.le_trans hB3 hB4)) rfl
    · skip
      have hz : decE s = 0 := h13
      obtain ⟨_, hc9, hbs⟩ := dec_of hz
      obtain ⟨hok, hby⟩ := CheckF_zero hc9
      refine Cx.skip ?_
      refine Xx.tn (k11 _ _ _ _ ?_)
      refine Cx.seq (fun K15 k15 => ?_)
      refine Cx.region ?_
      refine Lx.y (ldA Try.underlying46 rfl sz46 rfl (Cells.own (n := 6) PickB.eq rfl) rfl) rfl ?_
      refine Lx.cp rfl rfl rfl (Encode_ct 9 _ _ _ (ValR.mono hB4 (ValR.mono hB3 hv2)) (fun z => Nat.le_trans hby (by decide))) rfl ?_
      rw [if_pos hc9, hc9, hbs]
      refine Lx.y (mv rfl) rfl ?_
      refine Lx.y (ext rfl rfl) rfl ?_
      refine Lx.y (ext rfl rfl) rfl ?_
      refine Lx.y (asg rfl) rfl ?_
      refine Lx.y (asg rfl) rfl ?_
      refine Lx.nil ?_
      refine Xx.tn (k15 _ _ _ _ ?_)
      refine Cx.seq (fun K16 k16 => ?_)
      refine Cx.region ?_
      refine Lx.y (mv rfl) rfl ?_
      refine Lx.y (Yx.tt (eqI rfl rfl) (by decide)) rfl ?_
      refine Lx.y (mv rfl) rfl ?_
      refine Lx.gT rfl rfl rfl ?_
      refine Lx.y (mv rfl) rfl ?_
      refine Lx.gT rfl rfl rfl ?_
      refine Lx.y (mv rfl) rfl ?_
      refine Lx.gT rfl rfl rfl ?_
      refine Lx.y (Yx.tt (eqS rfl rfl) (decide_eq_true rfl)) rfl ?_
      refine Lx.y (pickT rfl rfl) rfl ?_
      refine Lx.y (mv rfl) rfl ?_
      refine Lx.gT rfl rfl rfl ?_
      refine Lx.y (ldA Try.underlying53 rfl sz53 rfl (Cells.own (n := 6) PickB.eq rfl) rfl) rfl ?_
      refine Lx.gT rfl rfl rfl ?_
      refine Lx.cp rfl rfl rfl (RBytes_ct 9 _ _ 1 _ (ValR.mono hB4 hv3) hok (Nat.le_trans hby (by decide))) rfl ?_
      rw [hbs]
      refine Lx.gT rfl rfl rfl ?_
      refine Lx.y (mv rfl) rfl ?_
      refine Lx.gT rfl rfl rfl ?_
      refine Lx.y (Yx.tt (eqS rfl rfl) (decide_eq_true rfl)) rfl ?_
      refine Lx.y (pickT rfl rfl) rfl ?_
      refine Lx.y (asg rfl) rfl ?_
      refine Lx.nil ?_
      refine Xx.tn (k16 _ _ _ _ ?_)
      refine Cx.ret ?_
      refine Xx.dropB b5 (Xx.dropB b3 ?_)
      exact Xx.rB1 rfl rfl rfl (Frag.le_trans hB2 (Frag.le_trans hB3 hB4)) rfl
end VaO
end Go.Proofs.Ytcoiejmlpinpbaa
