/-
  What a look sees, what a touch hits: the program, the reference.
-/
import Derived.Test.YtfnfkoldifpmhaaDoorProg
import Derived.Test.YtfnfkoldifpmhaaDoorSlj
import Derived.Test.YtfnfkoldifpmhaaDoorRgB
namespace Go.Proofs.YtfnfkoldifpmhaaDoor
open Go.SL Go.RowKit
set_option linter.unusedVariables false
set_option linter.unusedSimpArgs false
set_option maxRecDepth 100000
open Ke1 Ke3 Ke4 Ke5 Ke6 Ke7 Ke8 Ke9 KeA KeB KeC KeD KeE KeF KeG KeI RgA RgB
namespace RgC
theorem sz26 : (Tryd.prog.info? 26).map (·.size) = some 6 := by kernel_rfl
theorem sz30 : (Tryd.prog.info? 30).map (·.size) = some 16 := by kernel_rfl
theorem sz34 : (Tryd.prog.info? 34).map (·.size) = some 2 := by kernel_rfl
theorem sz36 : (Tryd.prog.info? 36).map (·.size) = some 4 := by kernel_rfl
theorem ti36 : TI Tryd.prog 36 [str [], str [], str [], str []] 4 64 := TI.of (by kernel_rfl) rfl rfl
theorem fo30_0 : FO Tryd.prog 30 0 0 1 false := FO.of Tryd.underlying30 rfl rfl (by kernel_rfl) Tryd.underlying9 rfl rfl
theorem fo30_1 : FO Tryd.prog 30 1 1 1 false := FO.of Tryd.underlying30 rfl rfl (by kernel_rfl) Tryd.underlying4 rfl rfl
theorem fo30_2 : FO Tryd.prog 30 2 2 6 true := FO.of Tryd.underlying30 rfl rfl (by kernel_rfl) Tryd.underlying26 rfl rfl
theorem fo30_3 : FO Tryd.prog 30 3 8 6 true := FO.of Tryd.underlying30 rfl rfl (by kernel_rfl) Tryd.underlying26 rfl rfl
theorem fo30_4 : FO Tryd.prog 30 4 14 1 false := FO.of Tryd.underlying30 rfl rfl (by kernel_rfl) Tryd.underlying4 rfl rfl
theorem fo30_5 : FO Tryd.prog 30 5 15 1 false := FO.of Tryd.underlying30 rfl rfl (by kernel_rfl) Tryd.underlying4 rfl rfl
theorem fo34_0 : FO Tryd.prog 34 0 0 1 false := FO.of Tryd.underlying34 rfl rfl (by kernel_rfl) Tryd.underlying9 rfl rfl
theorem fo34_1 : FO Tryd.prog 34 1 1 1 false := FO.of Tryd.underlying34 rfl rfl (by kernel_rfl) Tryd.underlying9 rfl rfl
theorem fo36_0 : FO Tryd.prog 36 0 0 1 false := FO.of Tryd.underlying36 rfl rfl (by kernel_rfl) Tryd.underlying9 rfl rfl
theorem fo36_1 : FO Tryd.prog 36 1 1 1 false := FO.of Tryd.underlying36 rfl rfl (by kernel_rfl) Tryd.underlying9 rfl rfl
theorem fo36_2 : FO Tryd.prog 36 2 2 2 true := FO.of Tryd.underlying36 rfl rfl (by kernel_rfl) Tryd.underlying34 rfl rfl
theorem pl36 : PL Tryd.prog 36 [(0, 1), (1, 1), (2, 2)] := PL.of Tryd.underlying36 (by kernel_rfl)

structure Rd where
  t : List UInt8
  f : List UInt8
  lo : List UInt8
  hi : List UInt8
/-- The cells of a look. -/
def rcs (r : Rd) : List Value := [str r.t, str r.f, str r.lo, str r.hi]
/-- The cells of a touch. -/
def tcs (tb : List UInt8) (sh : Bool) (co cn : List Value) (was is : Bool) : List Value := [str tb, .bool sh] ++ co ++ cn ++ [.bool was, .bool is]
noncomputable def seesB (d : Nat) (r : Rd) (v : V) : Bool := decide (r.f = []) || hasB r.lo r.hi (keyF (d + 1) (getV v r.f))
noncomputable def hitsB (d : Nat) (r : Rd) (tb : List UInt8) (sh : Bool) (vo vn : V) (was is : Bool) : Bool := decide (r.t = tb) && (sh || (was && seesB d r vo) || (is && seesB d r vn))
/-- A value that may be, of not too many bytes. -/
def GoodV (B : Frag) (d : Nat) (v : V) (cs : List Value) : Prop := ValR B (d + 2) v cs ∧ checkF (d + 2) v 1 = 0 ∧ (bytesF (d + 2) v).length ≤ 1024
theorem GoodV.mono {B B' : Frag} {d : Nat} {v : V} {cs : List Value} (h : GoodV B d v cs) (hB : B.le B') : GoodV B' d v cs := ⟨ValR.mono hB h.1, h.2⟩

set_option maxHeartbeats 1000000 in
theorem sees_ct (d : Nat) (r : Rd) (v : V) (cs : List Value) (B : Frag) (h : GoodV B d v cs) (hM : MaxLenIn B) : CtP Tryd.prog 25 [.agg (rcs r).toArray, .agg cs.toArray] B (.bool (seesB d r v)) := by
  obtain ⟨hv, hok, hby⟩ := h
  have hgb := getV_bytes r.f hok
  obtain ⟨Ap, cp, An, cn, rfl⟩ := ValR.shape hv
  refine CtB.of_body Tryd.func25 rfl (nt := 18) rfl (by kernel_rfl) rfl ?_
  intro N0 w0 R
  refine Cx.seq (fun K1 k1 => ?_)
  refine Cx.region ?_
  refine Lx.new (boxA rfl) rfl (fun b2 => ?_)
  refine Lx.new (boxA rfl) rfl (fun b3 => ?_)
  refine Lx.y (asg rfl) rfl ?_
  refine Lx.nil ?_
  refine Xx.tn (k1 _ _ _ _ ?_)
  refine Cx.seq (fun K2 k2 => ?_)
  refine Cx.drawn (by kernel_rfl) ?_
  refine Dx.p (i := 0) rfl (by kernel_rfl) (fa' fo36_1 rfl) rfl ?_
  refine Dx.r (i := 1) rfl (by kernel_rfl) (ld Tryd.underlying9 rfl rfl rfl) rfl ?_
  refine Dx.p (i := 2) rfl (by kernel_rfl) (eqS rfl rfl) rfl ?_
  refine Dx.p (i := 3) rfl (by kernel_rfl) (mv rfl) rfl ?_
  refine Xx.ifD (t := 8) rfl (fun h3 => ?_) (fun h3 => ?_)
  · skip
    have hf := h3
    refine Dx.pF (i := 4) rfl (fun _ h => by cases h) rfl rfl rfl (by kernel_rfl) rfl ?_
    refine Dx.pF (i := 5) rfl (fun _ h => by cases h) rfl rfl rfl (by kernel_rfl) rfl ?_
    refine Dx.pF (i := 6) rfl (fun _ h => by cases h) rfl rfl rfl (by kernel_rfl) rfl ?_
    refine Dx.pF (i := 7) rfl (fun _ h => by cases h) rfl rfl rfl (by kernel_rfl) rfl ?_
    refine Dx.pF (i := 8) rfl (fun _ h => by cases h) rfl rfl rfl (by kernel_rfl) rfl ?_
    refine Dx.pF (i := 9) rfl (fun _ h => by cases h) rfl rfl rfl (by kernel_rfl) rfl ?_
    refine Dx.pF (i := 10) rfl (fun _ h => by cases h) rfl rfl rfl (by kernel_rfl) rfl ?_
    refine Dx.pF (i := 11) rfl (fun _ h => by cases h) rfl rfl rfl (by kernel_rfl) rfl ?_
    refine Dx.p (i := 12) rfl (by kernel_rfl) (pickT rfl rfl) rfl ?_
    refine Dx.p (i := 13) rfl (by kernel_rfl) (asg rfl) rfl ?_
    refine Dx.done (by kernel_rfl) ?_
    refine Xx.tn (k2 _ _ _ _ ?_)
    refine Cx.ret ?_
    exact Xx.dropB b2 (Xx.dropB b3 (Xx.rB1 rfl rfl ⟨congrArg Value.bool (by unfold seesB; rw [decide_eq_true hf]; rfl), rfl⟩ (Frag.le_refl _) rfl))
  · skip
    have hf := h3
    refine Dx.pT (i := 4) rfl rfl rfl rfl (by kernel_rfl) (fa' fo36_2 rfl) rfl ?_
    refine Dx.rT (i := 5) rfl rfl rfl rfl (by kernel_rfl) (ldA Tryd.underlying34 rfl sz34 rfl (Cells.own (n := 2) PickB.eq rfl) rfl) rfl ?_
    refine Dx.rT (i := 6) rfl rfl rfl rfl (by kernel_rfl) (ldA Tryd.underlying26 rfl sz26 rfl (Cells.own (n := 6) PickB.eq rfl) rfl) rfl ?_
    refine Dx.pT (i := 7) rfl rfl rfl rfl (by kernel_rfl) (fa' fo36_1 rfl) rfl ?_
    refine Dx.rT (i := 8) rfl rfl rfl rfl (by kernel_rfl) (ld Tryd.underlying9 rfl rfl rfl) rfl ?_
    refine Dx.one (i := 9) (by kernel_rfl) ?_
    refine Dstep.oT (i := 9) rfl rfl rfl rfl (Ox.cb rfl rfl rfl (Get_ct d v r.f 1 _ _ hv hok)) rfl (fun v B' H' hΦ hB => ?_)
    obtain ⟨rfl, hΦ⟩ := hΦ
    obtain ⟨hBB, cs2, rfl, hg⟩ := hΦ
    have hBB2 := hBB.symm
    subst hBB2
    clear hB
    obtain ⟨Ap2, cp2, An2, cn2, rfl⟩ := ValR.shape hg
    refine ⟨JOk.edge (JOk.edge (JOk.yes (JOk.yes (JOk.top) (ld Tryd.underlying9 rfl rfl rfl)) (ldA Tryd.underlying34 rfl sz34 rfl (Cells.own (n := 2) PickB.eq rfl) rfl)) (by kernel_rfl)) (by kernel_rfl), ?_⟩
    refine Dx.one (i := 10) (by kernel_rfl) ?_
    refine Dstep.oT (i := 10) rfl rfl rfl rfl (Ox.cb rfl rfl rfl (Of_ct (d + 1) _ _ _ hg hM (by omega))) rfl (fun v B' H' hΦ hB => ?_)
    obtain ⟨rfl, rfl, hBB⟩ := hΦ; have hBB2 := hBB.symm; subst hBB2; clear hB
    refine ⟨JOk.yes (JOk.yes (JOk.yes (JOk.yes (JOk.top) (ld Tryd.underlying9 rfl rfl rfl)) (ldA Tryd.underlying34 rfl sz34 rfl (Cells.own (n := 2) PickB.eq rfl) rfl)) (ldA Tryd.underlying26 rfl sz26 rfl (Cells.own (n := 6) PickB.eq rfl) rfl)) (ld Tryd.underlying9 rfl rfl rfl), ?_⟩
    refine Dx.one (i := 11) (by kernel_rfl) ?_
    refine Dstep.oT (i := 11) rfl rfl rfl rfl (Ox.cb rfl rfl rfl (Has_ct _ _ _ _)) rfl (fun v B' H' hΦ hB => ?_)
    obtain ⟨rfl, rfl, hBB⟩ := hΦ; have hBB2 := hBB.symm; subst hBB2; clear hB
    refine ⟨JOk.yes (JOk.yes (JOk.edge (JOk.yes (JOk.top) (ld Tryd.underlying9 rfl rfl rfl)) (by kernel_rfl)) (ldA Tryd.underlying26 rfl sz26 rfl (Cells.own (n := 6) PickB.eq rfl) rfl)) (ld Tryd.underlying9 rfl rfl rfl), ?_⟩
    refine Dx.p (i := 12) rfl (by kernel_rfl) (pickF rfl rfl) rfl ?_
    refine Dx.p (i := 13) rfl (by kernel_rfl) (asg rfl) rfl ?_
    refine Dx.done (by kernel_rfl) ?_
    refine Xx.tn (k2 _ _ _ _ ?_)
    refine Cx.ret ?_
    exact Xx.dropB b2 (Xx.dropB b3 (Xx.rB1 rfl rfl ⟨congrArg Value.bool (by unfold seesB; rw [decide_eq_false hf]; rfl), rfl⟩ (Frag.le_refl _) rfl))

set_option maxHeartbeats 1000000 in
theorem rsees_ct (d : Nat) (r : Rd) (v : V) (cs : List Value) (B : Frag) (h : GoodV B d v cs) (hfew : Few (d + 2) v) : CtB Tryd.prog 39 [.agg (rcs r).toArray, .agg cs.toArray] B (fun v2 _ => v2 = .bool (seesB d r v)) := by
  obtain ⟨hv, hok, hby⟩ := h
  have hgb := getV_bytes r.f hok
  obtain ⟨Ap, cp, An, cn, rfl⟩ := ValR.shape hv
  refine CtB.of_body Tryd.func39 rfl (nt := 33) rfl (by kernel_rfl) rfl ?_
  intro N0 w0 R
  refine Cx.seq (fun K1 k1 => ?_)
  refine Cx.region ?_
  refine Lx.new (boxA rfl) rfl (fun b2 => ?_)
  refine Lx.new (boxA rfl) rfl (fun b3 => ?_)
  refine Lx.y (asg rfl) rfl ?_
  refine Lx.nil ?_
  refine Xx.tn (k1 _ _ _ _ ?_)
  refine Cx.seq (fun K2 k2 => ?_)
  refine Cx.seq (fun K3 k3 => ?_)
  refine Cx.region ?_
  refine Lx.y (fa' fo36_1 rfl) rfl ?_
  refine Lx.y (ld Tryd.underlying9 rfl rfl rfl) rfl ?_
  refine Lx.y (eqS rfl rfl) rfl ?_
  refine Lx.nil ?_
  refine Xx.tn (k3 _ _ _ _ ?_)
  refine Cx.condD rfl (fun h4 => ?_) (fun h4 => ?_)
  · skip
    have hf := h4
    refine Cx.seq (fun K5 k5 => ?_)
    refine Cx.region ?_
    refine Lx.y (asg rfl) rfl ?_
    refine Lx.nil ?_
    refine Xx.tn (k5 _ _ _ _ ?_)
    refine Cx.ret ?_
    refine Xx.tr ?_
    exact Xx.dropB b2 (Xx.dropB b3 (Xx.rB1 rfl rfl (congrArg Value.bool (by unfold seesB; rw [decide_eq_true hf]; rfl)) (Frag.le_refl _) rfl))
  · skip
    have hf := h4
    refine Cx.skip ?_
    refine Xx.tn (k2 _ _ _ _ ?_)
    refine Cx.seq (fun K6 k6 => ?_)
    refine Cx.drawn (by kernel_rfl) ?_
    refine Dx.r (i := 0) rfl (by kernel_rfl) (ldA Tryd.underlying26 rfl sz26 rfl (Cells.own (n := 6) PickB.eq rfl) rfl) rfl ?_
    refine Dx.p (i := 2) rfl (by kernel_rfl) (fa' fo36_1 rfl) rfl ?_
    refine Dx.r (i := 3) rfl (by kernel_rfl) (ld Tryd.underlying9 rfl rfl rfl) rfl ?_
    refine Dx.one (i := 1) (by kernel_rfl) ?_
    refine Dstep.o (i := 1) rfl (Ox.cb rfl rfl rfl (Ref_ct (d + 2) _ _ _ hv hfew)) rfl (fun v B' H' hΦ hB => ?_)
    obtain ⟨rfl, hΦ⟩ := hΦ
    obtain ⟨cs3, rfl, hv3⟩ := hΦ
    have hB3 := hB
    obtain ⟨Ap3, cp3, An3, cn3, rfl⟩ := ValR.shape hv3
    refine ⟨JOk.yes (JOk.edge (JOk.top) (by kernel_rfl)) (ld Tryd.underlying9 rfl rfl rfl), ?_⟩
    refine Dx.one (i := 4) (by kernel_rfl) ?_
    refine Dstep.o (i := 4) rfl (Ox.cb rfl rfl rfl (RGet_ct d v r.f 1 _ _ hv3 hok)) rfl (fun v B' H' hΦ hB => ?_)
    obtain ⟨rfl, hΦ⟩ := hΦ
    obtain ⟨hBB, cs4, rfl, hg⟩ := hΦ
    have hBB2 := hBB.symm
    subst hBB2
    clear hB
    obtain ⟨Ap4, cp4, An4, cn4, rfl⟩ := ValR.shape hg
    refine ⟨JOk.edge (JOk.yes (JOk.top) (ldA Tryd.underlying26 rfl sz26 rfl (Cells.own (n := 6) PickB.eq rfl) rfl)) (by kernel_rfl), ?_⟩
    refine Dx.one (i := 5) (by kernel_rfl) ?_
    refine Dstep.o (i := 5) rfl (Ox.cb rfl rfl rfl (RKey_ct (d + 1) _ _ 2 _ hg (getV_ok r.f (by decide) hok) (by omega))) rfl (fun v B' H' hΦ hB => ?_)
    obtain ⟨rfl, rfl, hBB⟩ := hΦ; have hBB2 := hBB.symm; subst hBB2; clear hB
    refine ⟨JOk.yes (JOk.yes (JOk.top) (ldA Tryd.underlying26 rfl sz26 rfl (Cells.own (n := 6) PickB.eq rfl) rfl)) (ld Tryd.underlying9 rfl rfl rfl), ?_⟩
    refine Dx.p (i := 6) rfl (by kernel_rfl) (asg rfl) rfl ?_
    refine Dx.done (by kernel_rfl) ?_
    refine Xx.tn (k6 _ _ _ _ ?_)
    refine Cx.seq (fun K7 k7 => ?_)
    refine Cx.region ?_
    refine Lx.y (mv rfl) rfl ?_
    refine Lx.y (fa' fo36_2 rfl) rfl ?_
    refine Lx.y (fa' fo34_0 rfl) rfl ?_
    refine Lx.y (ld Tryd.underlying9 rfl rfl rfl) rfl ?_
    refine Lx.y (geqS rfl rfl) rfl ?_
    refine Lx.y (mv rfl) rfl ?_
    refine Xx.ifB (t := 20) rfl (fun h8 => ?_) (fun h8 => ?_)
    · skip
      have g1 := h8
      refine Lx.gT rfl rfl rfl ?_
      refine Lx.y (fa' fo36_2 rfl) rfl ?_
      refine Lx.gT rfl rfl rfl ?_
      refine Lx.y (fa' fo34_1 rfl) rfl ?_
      refine Lx.gT rfl rfl rfl ?_
      refine Lx.y (ld Tryd.underlying9 rfl rfl rfl) rfl ?_
      refine Lx.gT rfl rfl rfl ?_
      refine Lx.y (eqS rfl rfl) rfl ?_
      refine Lx.gT rfl rfl rfl ?_
      refine Lx.y (mv rfl) rfl ?_
      refine Xx.ifD (t := 25) rfl (fun h9 => ?_) (fun h9 => ?_)
      · skip
        have g2 := h9
        refine Lx.gF rfl rfl rfl rfl ?_
        refine Lx.gF rfl rfl rfl rfl ?_
        refine Lx.gF rfl rfl rfl rfl ?_
        refine Lx.gF rfl rfl rfl rfl ?_
        refine Lx.gF rfl rfl rfl rfl ?_
        refine Lx.gT rfl rfl rfl ?_
        refine Lx.y (pickT rfl rfl) rfl ?_
        refine Lx.y (pickT rfl rfl) rfl ?_
        refine Lx.y (asg rfl) rfl ?_
        refine Lx.nil ?_
        refine Xx.tn (k7 _ _ _ _ ?_)
        refine Cx.ret ?_
        exact Xx.dropB b2 (Xx.dropB b3 (Xx.rB1 rfl rfl (congrArg Value.bool (by unfold seesB hasB; simp_all)) hB3 rfl))
      · skip
        have g2 := h9
        refine Lx.gT rfl rfl rfl ?_
        refine Lx.y (mv rfl) rfl ?_
        refine Lx.gT rfl rfl rfl ?_
        refine Lx.y (fa' fo36_2 rfl) rfl ?_
        refine Lx.gT rfl rfl rfl ?_
        refine Lx.y (fa' fo34_1 rfl) rfl ?_
        refine Lx.gT rfl rfl rfl ?_
        refine Lx.y (ld Tryd.underlying9 rfl rfl rfl) rfl ?_
        refine Lx.gT rfl rfl rfl ?_
        refine Lx.y (lssS rfl rfl) rfl ?_
        refine Lx.gT rfl rfl rfl ?_
        refine Lx.y (pickF rfl rfl) rfl ?_
        refine Lx.y (pickT rfl rfl) rfl ?_
        refine Lx.y (asg rfl) rfl ?_
        refine Lx.nil ?_
        refine Xx.tn (k7 _ _ _ _ ?_)
        refine Cx.ret ?_
        exact Xx.dropB b2 (Xx.dropB b3 (Xx.rB1 rfl rfl (congrArg Value.bool (by unfold seesB hasB; simp_all)) hB3 rfl))
    · skip
      have g1 := h8
      refine Lx.gF rfl rfl rfl rfl ?_
      refine Lx.gF rfl rfl rfl rfl ?_
      refine Lx.gF rfl rfl rfl rfl ?_
      refine Lx.gF rfl rfl rfl rfl ?_
      refine Lx.gF rfl rfl rfl rfl ?_
      refine Lx.gU rfl rfl rfl rfl ?_
      refine Lx.gU rfl rfl rfl rfl ?_
      refine Lx.gU rfl rfl rfl rfl ?_
      refine Lx.gU rfl rfl rfl rfl ?_
      refine Lx.gU rfl rfl rfl rfl ?_
      refine Lx.gF rfl rfl rfl rfl ?_
      refine Lx.y (pickF rfl rfl) rfl ?_
      refine Lx.y (asg rfl) rfl ?_
      refine Lx.nil ?_
      refine Xx.tn (k7 _ _ _ _ ?_)
      refine Cx.ret ?_
      exact Xx.dropB b2 (Xx.dropB b3 (Xx.rB1 rfl rfl (congrArg Value.bool (by unfold seesB hasB; simp_all)) hB3 rfl))

set_option maxHeartbeats 1000000 in
theorem Part_ct (t f lo hi : List UInt8) (B : Frag) : CtP Tryd.prog 11 [str t, str f, .agg [str lo, str hi].toArray] B (.agg (rcs ⟨t, f, lo, hi⟩).toArray) := by
  refine CtB.of_body Tryd.func11 rfl (nt := 11) rfl (by kernel_rfl) rfl ?_
  intro N0 w0 R
  refine Cx.seq (fun K1 k1 => ?_)
  refine Cx.region ?_
  refine Lx.new (boxA rfl) rfl (fun b5 => ?_)
  refine Lx.new (allocO ti36) rfl (fun b6 => ?_)
  refine Lx.nil ?_
  refine Xx.tn (k1 _ _ _ _ ?_)
  refine Cx.seq (fun K2 k2 => ?_)
  refine Cx.region ?_
  refine Lx.y (mv rfl) rfl ?_
  refine Lx.y (mv rfl) rfl ?_
  refine Lx.y (ldA Tryd.underlying34 rfl sz34 rfl (Cells.own (n := 2) PickB.eq rfl) rfl) rfl ?_
  refine Lx.y (bld ti36 pl36 rfl rfl) rfl ?_
  refine Lx.st (stA (d := .bool) sz36 rfl rfl rfl rfl (by show 0 + 4 ≤ 4; omega) rfl) ?_
  refine Lx.nil ?_
  refine Xx.tn (k2 _ _ _ _ ?_)
  refine Cx.ret ?_
  exact Xx.dropB b5 (Xx.rBa rfl Tryd.underlying36 rfl sz36 rfl rfl ⟨rfl, rfl⟩ (Frag.le_refl _))

set_option maxHeartbeats 1000000 in
theorem Whole_ct (t : List UInt8) (B : Frag) : CtP Tryd.prog 15 [str t] B (.agg (rcs ⟨t, [], [], []⟩).toArray) := by
  refine CtB.of_body Tryd.func15 rfl (nt := 5) rfl (by kernel_rfl) rfl ?_
  intro N0 w0 R
  refine Cx.seq (fun K1 k1 => ?_)
  refine Cx.region ?_
  refine Lx.new (allocO ti36) rfl (fun b6 => ?_)
  refine Lx.nil ?_
  refine Xx.tn (k1 _ _ _ _ ?_)
  refine Cx.seq (fun K2 k2 => ?_)
  refine Cx.region ?_
  refine Lx.y (mv rfl) rfl ?_
  refine Lx.y (bld ti36 pl36 rfl rfl) rfl ?_
  refine Lx.st (stA (d := .bool) sz36 rfl rfl rfl rfl (by show 0 + 4 ≤ 4; omega) rfl) ?_
  refine Lx.nil ?_
  refine Xx.tn (k2 _ _ _ _ ?_)
  refine Cx.ret ?_
  exact Xx.rBa rfl Tryd.underlying36 rfl sz36 rfl rfl ⟨rfl, rfl⟩ (Frag.le_refl _)

set_option maxHeartbeats 2000000 in
theorem Hits_ct (d : Nat) (r : Rd) (tb : List UInt8) (sh was is : Bool) (vo vn : V) (co cn : List Value) (B : Frag) (ho : GoodV B d vo co) (hn : GoodV B d vn cn) (hM : MaxLenIn B) : CtP Tryd.prog 10 [.agg (rcs r).toArray, .agg (tcs tb sh co cn was is).toArray] B (.bool (hitsB d r tb sh vo vn was is)) := by
  obtain ⟨Ap1, cp1, An1, cn1, rfl⟩ := ValR.shape ho.1
  obtain ⟨Ap2, cp2, An2, cn2, rfl⟩ := ValR.shape hn.1
  refine CtB.of_body Tryd.func10 rfl (nt := 30) rfl (by kernel_rfl) rfl ?_
  intro N0 w0 R
  refine Cx.seq (fun K1 k1 => ?_)
  refine Cx.region ?_
  refine Lx.new (boxA rfl) rfl (fun b2 => ?_)
  refine Lx.new (boxA rfl) rfl (fun b3 => ?_)
  refine Lx.y (asg rfl) rfl ?_
  refine Lx.nil ?_
  refine Xx.tn (k1 _ _ _ _ ?_)
  refine Cx.seq (fun K2 k2 => ?_)
  refine Cx.seq (fun K3 k3 => ?_)
  refine Cx.region ?_
  refine Lx.y (fa' fo36_0 rfl) rfl ?_
  refine Lx.y (ld Tryd.underlying9 rfl rfl rfl) rfl ?_
  refine Lx.y (fa' fo30_0 rfl) rfl ?_
  refine Lx.y (ld Tryd.underlying9 rfl rfl rfl) rfl ?_
  refine Lx.y (neS rfl rfl) rfl ?_
  refine Lx.nil ?_
  refine Xx.tn (k3 _ _ _ _ ?_)
  refine Cx.condN rfl (fun h4 => ?_) (fun h4 => ?_)
  · skip
    have g0 := h4
    refine Cx.seq (fun K5 k5 => ?_)
    refine Cx.region ?_
    refine Lx.y (asg rfl) rfl ?_
    refine Lx.nil ?_
    refine Xx.tn (k5 _ _ _ _ ?_)
    refine Cx.ret ?_
    refine Xx.tr ?_
    exact Xx.dropB b2 (Xx.dropB b3 (Xx.rB1 rfl rfl ⟨congrArg Value.bool (by unfold hitsB; simp_all), rfl⟩ (Frag.le_refl _) rfl))
  · skip
    have g0 := h4
    refine Cx.skip ?_
    refine Xx.tn (k2 _ _ _ _ ?_)
    refine Cx.seq (fun K6 k6 => ?_)
    refine Cx.seq (fun K7 k7 => ?_)
    refine Cx.region ?_
    refine Lx.y (fa' fo30_1 rfl) rfl ?_
    refine Lx.y (ld Tryd.underlying4 rfl rfl rfl) rfl ?_
    refine Lx.nil ?_
    refine Xx.tn (k7 _ _ _ _ ?_)
    refine Cx.condB rfl (fun h8 => ?_) (fun h8 => ?_)
    · skip
      have g1 := h8
      refine Cx.seq (fun K9 k9 => ?_)
      refine Cx.region ?_
      refine Lx.y (asg rfl) rfl ?_
      refine Lx.nil ?_
      refine Xx.tn (k9 _ _ _ _ ?_)
      refine Cx.ret ?_
      refine Xx.tr ?_
      exact Xx.dropB b2 (Xx.dropB b3 (Xx.rB1 rfl rfl ⟨congrArg Value.bool (by unfold hitsB; simp_all), rfl⟩ (Frag.le_refl _) rfl))
    · skip
      have g1 := h8
      refine Cx.skip ?_
      refine Xx.tn (k6 _ _ _ _ ?_)
      refine Cx.seq (fun K10 k10 => ?_)
      refine Cx.region ?_
      refine Lx.y (fa' fo30_4 rfl) rfl ?_
      refine Lx.y (ld Tryd.underlying4 rfl rfl rfl) rfl ?_
      refine Lx.y (mv rfl) rfl ?_
      refine Xx.ifB (t := 14) rfl (fun h11 => ?_) (fun h11 => ?_)
      · skip
        have g2 := h11
        refine Lx.gT rfl rfl rfl ?_
        refine Lx.y (ldA Tryd.underlying36 rfl sz36 rfl (Cells.own (n := 4) PickB.eq rfl) rfl) rfl ?_
        refine Lx.gT rfl rfl rfl ?_
        refine Lx.y (fa' fo30_2 rfl) rfl ?_
        refine Lx.gT rfl rfl rfl ?_
        refine Lx.y (ldA Tryd.underlying26 rfl sz26 rfl (Cells.own (n := 6) PickB.eq rfl) rfl) rfl ?_
        refine Lx.gT rfl rfl rfl ?_
        refine Lx.cp rfl rfl rfl (sees_ct d r vo _ _ ho hM) rfl ?_
        refine Lx.y (pickT rfl rfl) rfl ?_
        refine Lx.y (mv rfl) rfl ?_
        refine Xx.ifB (t := 20) rfl (fun h12 => ?_) (fun h12 => ?_)
        · skip
          have g3 := h12
          refine Lx.gF rfl rfl rfl rfl ?_
          refine Lx.gF rfl rfl rfl rfl ?_
          refine Lx.gF rfl rfl rfl rfl ?_
          refine Lx.gU rfl rfl rfl rfl ?_
          refine Lx.gU rfl rfl rfl rfl ?_
          refine Lx.gU rfl rfl rfl rfl ?_
          refine Lx.gU rfl rfl rfl rfl ?_
          refine Lx.gF rfl rfl rfl rfl ?_
          refine Lx.y (pickT rfl rfl) rfl ?_
          refine Lx.y (asg rfl) rfl ?_
          refine Lx.nil ?_
          refine Xx.tn (k10 _ _ _ _ ?_)
          refine Cx.ret ?_
          exact Xx.dropB b2 (Xx.dropB b3 (Xx.rB1 rfl rfl ⟨congrArg Value.bool (by unfold hitsB; simp_all), rfl⟩ (Frag.le_refl _) rfl))
        · skip
          have g3 := h12
          refine Lx.gT rfl rfl rfl ?_
          refine Lx.y (fa' fo30_5 rfl) rfl ?_
          refine Lx.gT rfl rfl rfl ?_
          refine Lx.y (ld Tryd.underlying4 rfl rfl rfl) rfl ?_
          refine Lx.gT rfl rfl rfl ?_
          refine Lx.y (mv rfl) rfl ?_
          refine Xx.ifB (t := 23) rfl (fun h13 => ?_) (fun h13 => ?_)
          · skip
            have g4 := h13
            refine Lx.gT rfl rfl rfl ?_
            refine Lx.y (ldA Tryd.underlying36 rfl sz36 rfl (Cells.own (n := 4) PickB.eq rfl) rfl) rfl ?_
            refine Lx.gT rfl rfl rfl ?_
            refine Lx.y (fa' fo30_3 rfl) rfl ?_
            refine Lx.gT rfl rfl rfl ?_
            refine Lx.y (ldA Tryd.underlying26 rfl sz26 rfl (Cells.own (n := 6) PickB.eq rfl) rfl) rfl ?_
            refine Lx.gT rfl rfl rfl ?_
            refine Lx.cp rfl rfl rfl (sees_ct d r vn _ _ hn hM) rfl ?_
            refine Lx.gT rfl rfl rfl ?_
            refine Lx.y (pickT rfl rfl) rfl ?_
            refine Lx.y (pickF rfl rfl) rfl ?_
            refine Lx.y (asg rfl) rfl ?_
            refine Lx.nil ?_
            refine Xx.tn (k10 _ _ _ _ ?_)
            refine Cx.ret ?_
            exact Xx.dropB b2 (Xx.dropB b3 (Xx.rB1 rfl rfl ⟨congrArg Value.bool (by unfold hitsB; simp_all), rfl⟩ (Frag.le_refl _) rfl))
          · skip
            have g4 := h13
            refine Lx.gF rfl rfl rfl rfl ?_
            refine Lx.gF rfl rfl rfl rfl ?_
            refine Lx.gF rfl rfl rfl rfl ?_
            refine Lx.gF rfl rfl rfl rfl ?_
            refine Lx.gT rfl rfl rfl ?_
            refine Lx.y (pickF rfl rfl) rfl ?_
            refine Lx.y (pickF rfl rfl) rfl ?_
            refine Lx.y (asg rfl) rfl ?_
            refine Lx.nil ?_
            refine Xx.tn (k10 _ _ _ _ ?_)
            refine Cx.ret ?_
            exact Xx.dropB b2 (Xx.dropB b3 (Xx.rB1 rfl rfl ⟨congrArg Value.bool (by unfold hitsB; simp_all), rfl⟩ (Frag.le_refl _) rfl))
      · skip
        have g2 := h11
        refine Lx.gF rfl rfl rfl rfl ?_
        refine Lx.gF rfl rfl rfl rfl ?_
        refine Lx.gF rfl rfl rfl rfl ?_
        refine Lx.gF rfl rfl rfl rfl ?_
        refine Lx.y (pickF rfl rfl) rfl ?_
        refine Lx.y (mv rfl) rfl ?_
        refine Lx.gT rfl rfl rfl ?_
        refine Lx.y (fa' fo30_5 rfl) rfl ?_
        refine Lx.gT rfl rfl rfl ?_
        refine Lx.y (ld Tryd.underlying4 rfl rfl rfl) rfl ?_
        refine Lx.gT rfl rfl rfl ?_
        refine Lx.y (mv rfl) rfl ?_
        refine Xx.ifB (t := 23) rfl (fun h14 => ?_) (fun h14 => ?_)
        · skip
          have g4 := h14
          refine Lx.gT rfl rfl rfl ?_
          refine Lx.y (ldA Tryd.underlying36 rfl sz36 rfl (Cells.own (n := 4) PickB.eq rfl) rfl) rfl ?_
          refine Lx.gT rfl rfl rfl ?_
          refine Lx.y (fa' fo30_3 rfl) rfl ?_
          refine Lx.gT rfl rfl rfl ?_
          refine Lx.y (ldA Tryd.underlying26 rfl sz26 rfl (Cells.own (n := 6) PickB.eq rfl) rfl) rfl ?_
          refine Lx.gT rfl rfl rfl ?_
          refine Lx.cp rfl rfl rfl (sees_ct d r vn _ _ hn hM) rfl ?_
          refine Lx.gT rfl rfl rfl ?_
          refine Lx.y (pickT rfl rfl) rfl ?_
          refine Lx.y (pickF rfl rfl) rfl ?_
          refine Lx.y (asg rfl) rfl ?_
          refine Lx.nil ?_
          refine Xx.tn (k10 _ _ _ _ ?_)
          refine Cx.ret ?_
          exact Xx.dropB b2 (Xx.dropB b3 (Xx.rB1 rfl rfl ⟨congrArg Value.bool (by unfold hitsB; simp_all), rfl⟩ (Frag.le_refl _) rfl))
        · skip
          have g4 := h14
          refine Lx.gF rfl rfl rfl rfl ?_
          refine Lx.gF rfl rfl rfl rfl ?_
          refine Lx.gF rfl rfl rfl rfl ?_
          refine Lx.gF rfl rfl rfl rfl ?_
          refine Lx.gT rfl rfl rfl ?_
          refine Lx.y (pickF rfl rfl) rfl ?_
          refine Lx.y (pickF rfl rfl) rfl ?_
          refine Lx.y (asg rfl) rfl ?_
          refine Lx.nil ?_
          refine Xx.tn (k10 _ _ _ _ ?_)
          refine Cx.ret ?_
          exact Xx.dropB b2 (Xx.dropB b3 (Xx.rB1 rfl rfl ⟨congrArg Value.bool (by unfold hitsB; simp_all), rfl⟩ (Frag.le_refl _) rfl))

set_option maxHeartbeats 2000000 in
theorem hits_ct (d : Nat) (r : Rd) (tb : List UInt8) (sh was is : Bool) (vo vn : V) (co cn : List Value) (B : Frag) (ho : GoodV B d vo co) (hn : GoodV B d vn cn) (hfo : Few (d + 2) vo) (hfn : Few (d + 2) vn) : CtB Tryd.prog 20 [.agg (rcs r).toArray, .agg (tcs tb sh co cn was is).toArray] B (fun v2 _ => v2 = .bool (hitsB d r tb sh vo vn was is)) := by
  obtain ⟨Ap1, cp1, An1, cn1, rfl⟩ := ValR.shape ho.1
  obtain ⟨Ap2, cp2, An2, cn2, rfl⟩ := ValR.shape hn.1
  refine CtB.of_body Tryd.func20 rfl (nt := 34) rfl (by kernel_rfl) rfl ?_
  intro N0 w0 R
  refine Cx.seq (fun K1 k1 => ?_)
  refine Cx.region ?_
  refine Lx.new (boxA rfl) rfl (fun b2 => ?_)
  refine Lx.new (boxA rfl) rfl (fun b3 => ?_)
  refine Lx.y (asg rfl) rfl ?_
  refine Lx.nil ?_
  refine Xx.tn (k1 _ _ _ _ ?_)
  refine Cx.seq (fun K2 k2 => ?_)
  refine Cx.region ?_
  refine Lx.y (fa' fo36_0 rfl) rfl ?_
  refine Lx.y (ld Tryd.underlying9 rfl rfl rfl) rfl ?_
  refine Lx.y (fa' fo30_0 rfl) rfl ?_
  refine Lx.y (ld Tryd.underlying9 rfl rfl rfl) rfl ?_
  refine Lx.y (eqS rfl rfl) rfl ?_
  refine Lx.y (mv rfl) rfl ?_
  refine Xx.ifD (t := 10) rfl (fun h3 => ?_) (fun h3 => ?_)
  · skip
    have g0 := h3
    refine Lx.gT rfl rfl rfl ?_
    refine Lx.y (fa' fo30_1 rfl) rfl ?_
    refine Lx.gT rfl rfl rfl ?_
    refine Lx.y (ld Tryd.underlying4 rfl rfl rfl) rfl ?_
    refine Lx.gT rfl rfl rfl ?_
    refine Lx.y (mv rfl) rfl ?_
    refine Xx.ifB (t := 13) rfl (fun h4 => ?_) (fun h4 => ?_)
    · skip
      have g1 := h4
      refine Lx.gF rfl rfl rfl rfl ?_
      refine Lx.gF rfl rfl rfl rfl ?_
      refine Lx.gF rfl rfl rfl rfl ?_
      refine Lx.gU rfl rfl rfl rfl ?_
      refine Lx.gU rfl rfl rfl rfl ?_
      refine Lx.gU rfl rfl rfl rfl ?_
      refine Lx.gU rfl rfl rfl rfl ?_
      refine Lx.gF rfl rfl rfl rfl ?_
      refine Lx.gT rfl rfl rfl ?_
      refine Lx.y (pickT rfl rfl) rfl ?_
      refine Lx.gT rfl rfl rfl ?_
      refine Lx.y (mv rfl) rfl ?_
      refine Lx.gF rfl rfl rfl rfl ?_
      refine Lx.gF rfl rfl rfl rfl ?_
      refine Lx.gF rfl rfl rfl rfl ?_
      refine Lx.gU rfl rfl rfl rfl ?_
      refine Lx.gU rfl rfl rfl rfl ?_
      refine Lx.gU rfl rfl rfl rfl ?_
      refine Lx.gU rfl rfl rfl rfl ?_
      refine Lx.gF rfl rfl rfl rfl ?_
      refine Lx.gT rfl rfl rfl ?_
      refine Lx.y (pickT rfl rfl) rfl ?_
      refine Lx.y (pickT rfl rfl) rfl ?_
      refine Lx.y (asg rfl) rfl ?_
      refine Lx.nil ?_
      refine Xx.tn (k2 _ _ _ _ ?_)
      refine Cx.ret ?_
      exact Xx.dropB b2 (Xx.dropB b3 (Xx.rB1 rfl rfl (congrArg Value.bool (by unfold hitsB; simp_all)) (by first | exact Frag.le_refl _ | exact hB3 | exact hB4 | exact Frag.le_trans hB3 hB4) rfl))
    · skip
      have g1 := h4
      refine Lx.gT rfl rfl rfl ?_
      refine Lx.y (fa' fo30_4 rfl) rfl ?_
      refine Lx.gT rfl rfl rfl ?_
      refine Lx.y (ld Tryd.underlying4 rfl rfl rfl) rfl ?_
      refine Lx.gT rfl rfl rfl ?_
      refine Lx.y (mv rfl) rfl ?_
      refine Xx.ifB (t := 16) rfl (fun h5 => ?_) (fun h5 => ?_)
      · skip
        have g2 := h5
        refine Lx.gT rfl rfl rfl ?_
        refine Lx.y (ldA Tryd.underlying36 rfl sz36 rfl (Cells.own (n := 4) PickB.eq rfl) rfl) rfl ?_
        refine Lx.gT rfl rfl rfl ?_
        refine Lx.y (fa' fo30_2 rfl) rfl ?_
        refine Lx.gT rfl rfl rfl ?_
        refine Lx.y (ldA Tryd.underlying26 rfl sz26 rfl (Cells.own (n := 6) PickB.eq rfl) rfl) rfl ?_
        refine Lx.gT rfl rfl rfl ?_
        refine Lx.cb rfl rfl rfl (rsees_ct d r vo _ _ ho hfo) rfl ?_
        rintro v3 B3 rfl hB3
        refine Lx.gT rfl rfl rfl ?_
        refine Lx.y (pickT rfl rfl) rfl ?_
        refine Lx.gT rfl rfl rfl ?_
        refine Lx.y (pickF rfl rfl) rfl ?_
        refine Lx.gT rfl rfl rfl ?_
        refine Lx.y (mv rfl) rfl ?_
        refine Xx.ifB (t := 23) rfl (fun h7 => ?_) (fun h7 => ?_)
        · skip
          have g3 := h7
          refine Lx.gF rfl rfl rfl rfl ?_
          refine Lx.gF rfl rfl rfl rfl ?_
          refine Lx.gF rfl rfl rfl rfl ?_
          refine Lx.gU rfl rfl rfl rfl ?_
          refine Lx.gU rfl rfl rfl rfl ?_
          refine Lx.gU rfl rfl rfl rfl ?_
          refine Lx.gU rfl rfl rfl rfl ?_
          refine Lx.gF rfl rfl rfl rfl ?_
          refine Lx.gT rfl rfl rfl ?_
          refine Lx.y (pickT rfl rfl) rfl ?_
          refine Lx.y (pickT rfl rfl) rfl ?_
          refine Lx.y (asg rfl) rfl ?_
          refine Lx.nil ?_
          refine Xx.tn (k2 _ _ _ _ ?_)
          refine Cx.ret ?_
          exact Xx.dropB b2 (Xx.dropB b3 (Xx.rB1 rfl rfl (congrArg Value.bool (by unfold hitsB; simp_all)) (by first | exact Frag.le_refl _ | exact hB3 | exact hB4 | exact Frag.le_trans hB3 hB4) rfl))
        · skip
          have g3 := h7
          refine Lx.gT rfl rfl rfl ?_
          refine Lx.y (fa' fo30_5 rfl) rfl ?_
          refine Lx.gT rfl rfl rfl ?_
          refine Lx.y (ld Tryd.underlying4 rfl rfl rfl) rfl ?_
          refine Lx.gT rfl rfl rfl ?_
          refine Lx.y (mv rfl) rfl ?_
          refine Xx.ifB (t := 26) rfl (fun h8 => ?_) (fun h8 => ?_)
          · skip
            have g4 := h8
            refine Lx.gT rfl rfl rfl ?_
            refine Lx.y (ldA Tryd.underlying36 rfl sz36 rfl (Cells.own (n := 4) PickB.eq rfl) rfl) rfl ?_
            refine Lx.gT rfl rfl rfl ?_
            refine Lx.y (fa' fo30_3 rfl) rfl ?_
            refine Lx.gT rfl rfl rfl ?_
            refine Lx.y (ldA Tryd.underlying26 rfl sz26 rfl (Cells.own (n := 6) PickB.eq rfl) rfl) rfl ?_
            refine Lx.gT rfl rfl rfl ?_
            refine Lx.cb rfl rfl rfl (rsees_ct d r vn _ _ (by first | exact hn | exact hn.mono hB3) hfn) rfl ?_
            rintro v4 B4 rfl hB4
            refine Lx.gT rfl rfl rfl ?_
            refine Lx.y (pickT rfl rfl) rfl ?_
            refine Lx.gT rfl rfl rfl ?_
            refine Lx.y (pickF rfl rfl) rfl ?_
            refine Lx.y (pickT rfl rfl) rfl ?_
            refine Lx.y (asg rfl) rfl ?_
            refine Lx.nil ?_
            refine Xx.tn (k2 _ _ _ _ ?_)
            refine Cx.ret ?_
            exact Xx.dropB b2 (Xx.dropB b3 (Xx.rB1 rfl rfl (congrArg Value.bool (by unfold hitsB; simp_all)) (by first | exact Frag.le_refl _ | exact hB3 | exact hB4 | exact Frag.le_trans hB3 hB4) rfl))
          · skip
            have g4 := h8
            refine Lx.gF rfl rfl rfl rfl ?_
            refine Lx.gF rfl rfl rfl rfl ?_
            refine Lx.gF rfl rfl rfl rfl ?_
            refine Lx.gF rfl rfl rfl rfl ?_
            refine Lx.gT rfl rfl rfl ?_
            refine Lx.y (pickF rfl rfl) rfl ?_
            refine Lx.gT rfl rfl rfl ?_
            refine Lx.y (pickF rfl rfl) rfl ?_
            refine Lx.y (pickT rfl rfl) rfl ?_
            refine Lx.y (asg rfl) rfl ?_
            refine Lx.nil ?_
            refine Xx.tn (k2 _ _ _ _ ?_)
            refine Cx.ret ?_
            exact Xx.dropB b2 (Xx.dropB b3 (Xx.rB1 rfl rfl (congrArg Value.bool (by unfold hitsB; simp_all)) (by first | exact Frag.le_refl _ | exact hB3 | exact hB4 | exact Frag.le_trans hB3 hB4) rfl))
      · skip
        have g2 := h5
        refine Lx.gF rfl rfl rfl rfl ?_
        refine Lx.gF rfl rfl rfl rfl ?_
        refine Lx.gF rfl rfl rfl rfl ?_
        refine Lx.gF rfl rfl rfl rfl ?_
        refine Lx.gT rfl rfl rfl ?_
        refine Lx.y (pickF rfl rfl) rfl ?_
        refine Lx.gT rfl rfl rfl ?_
        refine Lx.y (pickF rfl rfl) rfl ?_
        refine Lx.gT rfl rfl rfl ?_
        refine Lx.y (mv rfl) rfl ?_
        refine Lx.gT rfl rfl rfl ?_
        refine Lx.y (fa' fo30_5 rfl) rfl ?_
        refine Lx.gT rfl rfl rfl ?_
        refine Lx.y (ld Tryd.underlying4 rfl rfl rfl) rfl ?_
        refine Lx.gT rfl rfl rfl ?_
        refine Lx.y (mv rfl) rfl ?_
        refine Xx.ifB (t := 26) rfl (fun h10 => ?_) (fun h10 => ?_)
        · skip
          have g4 := h10
          refine Lx.gT rfl rfl rfl ?_
          refine Lx.y (ldA Tryd.underlying36 rfl sz36 rfl (Cells.own (n := 4) PickB.eq rfl) rfl) rfl ?_
          refine Lx.gT rfl rfl rfl ?_
          refine Lx.y (fa' fo30_3 rfl) rfl ?_
          refine Lx.gT rfl rfl rfl ?_
          refine Lx.y (ldA Tryd.underlying26 rfl sz26 rfl (Cells.own (n := 6) PickB.eq rfl) rfl) rfl ?_
          refine Lx.gT rfl rfl rfl ?_
          refine Lx.cb rfl rfl rfl (rsees_ct d r vn _ _ (by first | exact hn | exact hn.mono hB3) hfn) rfl ?_
          rintro v4 B4 rfl hB4
          refine Lx.gT rfl rfl rfl ?_
          refine Lx.y (pickT rfl rfl) rfl ?_
          refine Lx.gT rfl rfl rfl ?_
          refine Lx.y (pickF rfl rfl) rfl ?_
          refine Lx.y (pickT rfl rfl) rfl ?_
          refine Lx.y (asg rfl) rfl ?_
          refine Lx.nil ?_
          refine Xx.tn (k2 _ _ _ _ ?_)
          refine Cx.ret ?_
          exact Xx.dropB b2 (Xx.dropB b3 (Xx.rB1 rfl rfl (congrArg Value.bool (by unfold hitsB; simp_all)) (by first | exact Frag.le_refl _ | exact hB3 | exact hB4 | exact Frag.le_trans hB3 hB4) rfl))
        · skip
          have g4 := h10
          refine Lx.gF rfl rfl rfl rfl ?_
          refine Lx.gF rfl rfl rfl rfl ?_
          refine Lx.gF rfl rfl rfl rfl ?_
          refine Lx.gF rfl rfl rfl rfl ?_
          refine Lx.gT rfl rfl rfl ?_
          refine Lx.y (pickF rfl rfl) rfl ?_
          refine Lx.gT rfl rfl rfl ?_
          refine Lx.y (pickF rfl rfl) rfl ?_
          refine Lx.y (pickT rfl rfl) rfl ?_
          refine Lx.y (asg rfl) rfl ?_
          refine Lx.nil ?_
          refine Xx.tn (k2 _ _ _ _ ?_)
          refine Cx.ret ?_
          exact Xx.dropB b2 (Xx.dropB b3 (Xx.rB1 rfl rfl (congrArg Value.bool (by unfold hitsB; simp_all)) (by first | exact Frag.le_refl _ | exact hB3 | exact hB4 | exact Frag.le_trans hB3 hB4) rfl))
  · skip
    have g0 := h3
    refine Lx.gF rfl rfl rfl rfl ?_
    refine Lx.gF rfl rfl rfl rfl ?_
    refine Lx.gF rfl rfl rfl rfl ?_
    refine Lx.gU rfl rfl rfl rfl ?_
    refine Lx.gU rfl rfl rfl rfl ?_
    refine Lx.gU rfl rfl rfl rfl ?_
    refine Lx.gU rfl rfl rfl rfl ?_
    refine Lx.gU rfl rfl rfl rfl ?_
    refine Lx.gU rfl rfl rfl rfl ?_
    refine Lx.gU rfl rfl rfl rfl ?_
    refine Lx.gU rfl rfl rfl rfl ?_
    refine Lx.gF rfl rfl rfl rfl ?_
    refine Lx.gF rfl rfl rfl rfl ?_
    refine Lx.gU rfl rfl rfl rfl ?_
    refine Lx.gU rfl rfl rfl rfl ?_
    refine Lx.gU rfl rfl rfl rfl ?_
    refine Lx.gU rfl rfl rfl rfl ?_
    refine Lx.gU rfl rfl rfl rfl ?_
    refine Lx.gU rfl rfl rfl rfl ?_
    refine Lx.gU rfl rfl rfl rfl ?_
    refine Lx.gU rfl rfl rfl rfl ?_
    refine Lx.gF rfl rfl rfl rfl ?_
    refine Lx.y (pickF rfl rfl) rfl ?_
    refine Lx.y (asg rfl) rfl ?_
    refine Lx.nil ?_
    refine Xx.tn (k2 _ _ _ _ ?_)
    refine Cx.ret ?_
    exact Xx.dropB b2 (Xx.dropB b3 (Xx.rB1 rfl rfl (congrArg Value.bool (by unfold hitsB; simp_all)) (by first | exact Frag.le_refl _ | exact hB3 | exact hB4 | exact Frag.le_trans hB3 hB4) rfl))
end RgC
end Go.Proofs.YtfnfkoldifpmhaaDoor
