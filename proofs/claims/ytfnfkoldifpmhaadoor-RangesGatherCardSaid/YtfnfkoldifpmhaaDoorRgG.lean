/-
  A touch cut; the walks of two laws of what is hit.
-/
import Derived.Test.YtfnfkoldifpmhaaDoorProg
import Derived.Test.YtfnfkoldifpmhaaDoorSlj
import Derived.Test.YtfnfkoldifpmhaaDoorRgE
namespace Go.Proofs.YtfnfkoldifpmhaaDoor
open Go.SL Go.RowKit
set_option linter.unusedVariables false
set_option linter.unusedSimpArgs false
set_option maxRecDepth 100000
open Ke1 Ke3 Ke4 Ke5 Ke6 Ke7 Ke8 Ke9 KeA KeB KeC KeD KeE KeF KeG KeI RgA RgB RgC RgD RgE
namespace RgG
theorem sz26 : (Tryd.prog.info? 26).map (·.size) = some 6 := by kernel_rfl
theorem sz30 : (Tryd.prog.info? 30).map (·.size) = some 16 := by kernel_rfl
theorem sz34 : (Tryd.prog.info? 34).map (·.size) = some 2 := by kernel_rfl
theorem sz36 : (Tryd.prog.info? 36).map (·.size) = some 4 := by kernel_rfl
theorem ti30 : TI Tryd.prog 30 [str [], .bool false, .int .i64 0, .bool false, .int .i64 0, str [], .slice none 0 0, .slice none 0 0, .int .i64 0, .bool false, .int .i64 0, str [], .slice none 0 0, .slice none 0 0, .bool false, .bool false] 16 208 := TI.of (by kernel_rfl) rfl rfl
theorem ti36 : TI Tryd.prog 36 [str [], str [], str [], str []] 4 64 := TI.of (by kernel_rfl) rfl rfl
theorem fo30_0 : FO Tryd.prog 30 0 0 1 false := FO.of Tryd.underlying30 rfl rfl (by kernel_rfl) Tryd.underlying9 rfl rfl
theorem fo30_1 : FO Tryd.prog 30 1 1 1 false := FO.of Tryd.underlying30 rfl rfl (by kernel_rfl) Tryd.underlying4 rfl rfl
theorem fo30_2 : FO Tryd.prog 30 2 2 6 true := FO.of Tryd.underlying30 rfl rfl (by kernel_rfl) Tryd.underlying26 rfl rfl
theorem fo30_3 : FO Tryd.prog 30 3 8 6 true := FO.of Tryd.underlying30 rfl rfl (by kernel_rfl) Tryd.underlying26 rfl rfl
theorem fo30_4 : FO Tryd.prog 30 4 14 1 false := FO.of Tryd.underlying30 rfl rfl (by kernel_rfl) Tryd.underlying4 rfl rfl
theorem fo30_5 : FO Tryd.prog 30 5 15 1 false := FO.of Tryd.underlying30 rfl rfl (by kernel_rfl) Tryd.underlying4 rfl rfl
theorem fo36_1 : FO Tryd.prog 36 1 1 1 false := FO.of Tryd.underlying36 rfl rfl (by kernel_rfl) Tryd.underlying9 rfl rfl
theorem fo36_2 : FO Tryd.prog 36 2 2 2 true := FO.of Tryd.underlying36 rfl rfl (by kernel_rfl) Tryd.underlying34 rfl rfl
theorem pl36 : PL Tryd.prog 36 [(0, 1), (1, 1), (2, 2)] := PL.of Tryd.underlying36 (by kernel_rfl)

section
variable {P : Program} {ρ : Sl} {S : World → Prop} {ty t t' u : TypeId} {x y : Operand} {f0 f1 f2 g0 g1 : Field}
/-- Two looks, the same? -/
def eqRd (r q : Rd) : Bool := decide (r.t = q.t) && (decide (r.f = q.f) && (decide (r.lo = q.lo) && decide (r.hi = q.hi)))
theorem eqRd_iff {r q : Rd} : eqRd r q = true ↔ r = q := by
  obtain ⟨a, b, c, d⟩ := r
  obtain ⟨a', b', c', d'⟩ := q
  unfold eqRd
  simp only [Bool.and_eq_true, decide_eq_true_eq, Rd.mk.injEq]
theorem eqF_cons {w : World} {d : Nat} {xs ys : Array Value} {f : Field} {fs : List Field} {a b : Value} {r : Bool} (hn : f.name ≠ "_") (ha : (part f.type xs f.offset).run P w = .ok a w) (hb : (part f.type ys f.offset).run P w = .ok b w) (he : (Op.equalIn d f.type a b).run P w = .ok r w) :
    (Op.eqFields d xs ys (f :: fs)).run P w = if r = true then (Op.eqFields d xs ys fs).run P w else .ok false w := by
  rw [Op.eqFields, if_pos hn]
  simp only [Sem.run_bind, ha, hb, he, Result.andThen, Sem.run_ite, Sem.run_pure]
  cases r <;> rfl
theorem part1 {w : World} {u : TypeId} {xs : List Value} {o : Nat} {v : Value} {dd : TypeDesc} (h : P.underlying u = some dd) (hd : aggB dd = false) (hv : xs[o]? = some v) : (part u xs.toArray o).run P w = .ok v w := by
  have i0 := run_isAgg h w
  rw [hd] at i0
  have hv' : xs.toArray[o]? = some v := by simpa using hv
  simp only [part, Sem.run_bind, i0, Result.andThen, Bool.false_eq_true, if_false, hv', Sem.run_pure]
theorem partA {w : World} {u : TypeId} {xs : List Value} {o size : Nat} {dd : TypeDesc} (h : P.underlying u = some dd) (hd : aggB dd = true) (hz : (P.info? u).map (·.size) = some size) : (part u xs.toArray o).run P w = .ok (.agg ((xs.drop o).take size).toArray) w := by
  have i0 := run_isAgg h w
  rw [hd] at i0
  cases hq : P.info? u with
  | none => simp [hq] at hz
  | some i =>
    have hi : i.size = size := by simpa [hq] using hz
    have h9 : Array.extract xs.toArray o (o + size) = ((xs.drop o).take size).toArray := by
      apply Array.toList_inj.1; simp [List.drop_take]
    simp only [part, Sem.run_bind, i0, Result.andThen, if_true, sizeOf, typeInfo, run_program, hq, hi, Sem.run_pure, h9]
theorem eqStr {w : World} {d : Nat} {u : TypeId} {a b : List UInt8} (h : P.underlying u = some .string) : (Op.equalIn (d + 1) u (str a) (str b)).run P w = .ok (decide (a = b)) w := by
  have e := run_equalIn_string (P := P) w d u ⟨a.toArray⟩ ⟨b.toArray⟩ h
  rw [toList_inj] at e; exact e
theorem run_span {w : World} {d : Nat} {a b a' b' : List UInt8} (ht : P.underlying u = some (.struct #[g0, g1])) (h0 : P.underlying g0.type = some .string) (h1 : P.underlying g1.type = some .string)
    (n0 : g0.name ≠ "_") (n1 : g1.name ≠ "_") (o0 : g0.offset = 0) (o1 : g1.offset = 1) (hp : P.stoodInHeld u = false) :
    (Op.equalIn (d + 2) u (.agg [str a, str b].toArray) (.agg [str a', str b'].toArray)).run P w = .ok (decide (a = a') && decide (b = b')) w := by
  have hf : P.fieldsOf u = #[g0, g1] := by unfold Program.fieldsOf; rw [ht]
  rw [run_equalIn_struct w (d + 1) u _ _ (by rw [hf]; exact ht) hp, hf]
  show (Op.eqFields (d + 1) _ _ [g0, g1]).run P w = _
  rw [eqF_cons n0 (part1 h0 rfl (by rw [o0]; rfl)) (part1 h0 rfl (by rw [o0]; rfl)) (eqStr h0), eqF_cons n1 (part1 h1 rfl (by rw [o1]; rfl)) (part1 h1 rfl (by rw [o1]; rfl)) (eqStr h1)]
  simp only [Op.eqFields, Sem.run_pure]
  by_cases q0 : a = a' <;> by_cases q1 : b = b' <;> simp [q0, q1]
theorem eqR (r q : Rd) (ht : P.underlying t = some (.struct #[f0, f1, f2])) (h0 : P.underlying f0.type = some .string) (h1 : P.underlying f1.type = some .string) (h2 : P.underlying f2.type = some (.struct #[g0, g1])) (k0 : P.underlying g0.type = some .string) (k1 : P.underlying g1.type = some .string)
    (n0 : f0.name ≠ "_") (n1 : f1.name ≠ "_") (n2 : f2.name ≠ "_") (m0 : g0.name ≠ "_") (m1 : g1.name ≠ "_") (o0 : f0.offset = 0) (o1 : f1.offset = 1) (o2 : f2.offset = 2) (p0 : g0.offset = 0) (p1 : g1.offset = 1) (hz : (P.info? f2.type).map (·.size) = some 2)
    (hm : P.eqGuardType P.depth t = false) (hp : P.stoodInHeld t = false) (hp2 : P.stoodInHeld f2.type = false) (hx : ev ρ x = some (.agg (rcs r).toArray)) (hy : ev ρ y = some (.agg (rcs q).toArray)) :
    Yx P (.binOp .eql t x y t') ty ρ S (.bool (eqRd r q)) := .of (fun _ h => by cases h) fun f w _ _ _ _ he _ =>
  run_binOp (he _ _ hx) (he _ _ hy) (run_eqGuard_agg _ _ _ _ _ _ _ hm) (by
    have hf : P.fieldsOf t = #[f0, f1, f2] := by unfold Program.fieldsOf; rw [ht]
    rw [run_eql_struct, run_equalIn_struct w 9999 t _ _ (by rw [hf]; exact ht) hp, hf]
    obtain ⟨a, b, c, d⟩ := r
    obtain ⟨a', b', c', d'⟩ := q
    have e : (Op.eqFields 9999 (rcs ⟨a, b, c, d⟩).toArray (rcs ⟨a', b', c', d'⟩).toArray [f0, f1, f2]).run P w = .ok (eqRd ⟨a, b, c, d⟩ ⟨a', b', c', d'⟩) w := by
      rw [eqF_cons n0 (part1 h0 rfl (by rw [o0]; rfl)) (part1 h0 rfl (by rw [o0]; rfl)) (eqStr (d := 9998) (a := a) (b := a') h0), eqF_cons n1 (part1 h1 rfl (by rw [o1]; rfl)) (part1 h1 rfl (by rw [o1]; rfl)) (eqStr (d := 9998) (a := b) (b := b') h1),
        eqF_cons n2 (partA h2 rfl hz) (partA h2 rfl hz) (by rw [o2]; exact run_span (d := 9997) (a := c) (b := d) (a' := c') (b' := d') h2 k0 k1 m0 m1 p0 p1 hp2)]
      simp only [Op.eqFields, Sem.run_pure]
      unfold eqRd
      by_cases q0 : a = a' <;> by_cases q1 : b = b' <;> by_cases q2 : c = c' <;> by_cases q3 : d = d' <;> simp [q0, q1, q2, q3]
    rw [show (#[f0, f1, f2] : Array Field).toList = [f0, f1, f2] from rfl, e]
    rfl)
end

set_option maxHeartbeats 2000000 in
theorem cut_ct (tb : List UInt8) (sh was is : Bool) (vo vn : V) (co cn : List Value) (d1 d2 : Nat) (B : Frag) (ho : ValR B d1 vo co) (hn : ValR B d2 vn cn) : CtB Tryd.prog 19 [.agg (tcs tb sh co cn was is).toArray] B (fun r B' => ∃ co' cn', r = .tuple #[.agg (tcs tb sh co' cn' was is).toArray, .bool (decide (CheckF 9 (cutF 3 4 vo) = 0) && decide (CheckF 9 (cutF 3 4 vn) = 0))] ∧ ValR B' 9 (cutF 3 4 vo) co' ∧ ValR B' 9 (cutF 3 4 vn) cn') := by
  obtain ⟨Ap1, cp1, An1, cn1, rfl⟩ := ValR.shape ho
  obtain ⟨Ap2, cp2, An2, cn2, rfl⟩ := ValR.shape hn
  refine CtB.of_body Tryd.func19 rfl (nt := 23) rfl (by kernel_rfl) rfl ?_
  intro N0 w0 R
  refine Cx.seq (fun K1 k1 => ?_)
  refine Cx.region ?_
  refine Lx.new (boxA rfl) rfl (fun b1 => ?_)
  refine Lx.new (allocO ti30) rfl (fun b2 => ?_)
  refine Lx.y (asg rfl) rfl ?_
  refine Lx.nil ?_
  refine Xx.tn (k1 _ _ _ _ ?_)
  refine Cx.seq (fun K2 k2 => ?_)
  refine Cx.drawn (by kernel_rfl) ?_
  refine Dx.p (i := 0) rfl (by kernel_rfl) (fa' fo30_2 rfl) rfl ?_
  refine Dx.r (i := 1) rfl (by kernel_rfl) (ldA Tryd.underlying26 rfl sz26 rfl (Cells.own (n := 6) PickB.eq rfl) rfl) rfl ?_
  refine Dx.p (i := 3) rfl (by kernel_rfl) (fa' fo30_3 rfl) rfl ?_
  refine Dx.r (i := 4) rfl (by kernel_rfl) (ldA Tryd.underlying26 rfl sz26 rfl (Cells.own (n := 6) PickB.eq rfl) rfl) rfl ?_
  refine Dx.one (i := 2) (by kernel_rfl) ?_
  refine Dstep.o (i := 2) rfl (Ox.cb rfl rfl rfl (Cut_ct 3 4 _ _ d1 _ (by decide) (by decide) (ho))) rfl (fun v B' H' hΦ hB => ?_)
  obtain ⟨rfl, hΦ⟩ := hΦ
  obtain ⟨cs3, rfl, hw3⟩ := hΦ
  rename Frag => B3
  have hB3 := hB
  obtain ⟨Ap3, cp3, An3, cn3, rfl⟩ := ValR.shape hw3
  refine ⟨JOk.yes (JOk.edge (JOk.top) (by kernel_rfl)) (ldA Tryd.underlying26 rfl sz26 rfl (Cells.own (n := 6) PickB.eq rfl) rfl), ?_⟩
  refine Dx.p (i := 6) rfl (by kernel_rfl) (fa' fo30_2 rfl) rfl ?_
  refine Dx.one (i := 5) (by kernel_rfl) ?_
  refine Dstep.o (i := 5) rfl (Ox.cb rfl rfl rfl (Cut_ct 3 4 _ _ d2 _ (by decide) (by decide) (ValR.mono hB3 hn))) rfl (fun v B' H' hΦ hB => ?_)
  obtain ⟨rfl, hΦ⟩ := hΦ
  obtain ⟨cs4, rfl, hw4⟩ := hΦ
  rename Frag => B4
  have hB4 := hB
  obtain ⟨Ap4, cp4, An4, cn4, rfl⟩ := ValR.shape hw4
  refine ⟨JOk.edge (JOk.yes (JOk.top) (ldA Tryd.underlying26 rfl sz26 rfl (Cells.own (n := 6) PickB.eq rfl) rfl)) (by kernel_rfl), ?_⟩
  refine Dx.one (i := 7) (by kernel_rfl) ?_
  refine Dstep.o0 (i := 7) rfl (stA (d := .bool) sz26 rfl rfl rfl rfl (by show 2 + 6 ≤ 16; omega) rfl) (fun v B' H' hΦ hB => ?_)
  obtain ⟨rfl, rfl⟩ := hΦ; clear hB v
  refine ⟨JOk.edge (JOk.edge (JOk.top) (by kernel_rfl)) (by kernel_rfl), ?_⟩
  refine Dx.p (i := 8) rfl (by kernel_rfl) (fa' fo30_3 rfl) rfl ?_
  refine Dx.one (i := 9) (by kernel_rfl) ?_
  refine Dstep.o0 (i := 9) rfl (stA (d := .bool) sz26 rfl rfl rfl rfl (by show 8 + 6 ≤ 16; omega) rfl) (fun v B' H' hΦ hB => ?_)
  obtain ⟨rfl, rfl⟩ := hΦ; clear hB v
  refine ⟨JOk.edge (JOk.edge (JOk.top) (by kernel_rfl)) (by kernel_rfl), ?_⟩
  refine Dx.done (by kernel_rfl) ?_
  refine Xx.tn (k2 _ _ _ _ ?_)
  refine Cx.seq (fun K3 k3 => ?_)
  have hw3 := ValR.mono hB4 (ValR.le hw3 (show 4 ≤ 9 by decide))
  have hw4 := ValR.le hw4 (show 4 ≤ 9 by decide)
  refine Cx.drawn (by kernel_rfl) ?_
  refine Dx.r (i := 0) rfl (by kernel_rfl) (ldA Tryd.underlying30 rfl sz30 rfl (Cells.own (n := 16) PickB.eq rfl) rfl) rfl ?_
  refine Dx.p (i := 1) rfl (by kernel_rfl) (fa' fo30_2 rfl) rfl ?_
  refine Dx.r (i := 2) rfl (by kernel_rfl) (ldA Tryd.underlying26 rfl sz26 rfl (Cells.own (n := 6) PickB.eq rfl) rfl) rfl ?_
  refine Dx.one (i := 3) (by kernel_rfl) ?_
  refine Dstep.o (i := 3) rfl (Ox.cb rfl rfl rfl (Check_ct 9 (cutF 3 4 vo) _ _ hw3 (fun z => cut_bytes z))) rfl (fun v B' H' hΦ hB => ?_)
  obtain ⟨rfl, rfl, hBB⟩ := hΦ; have hBB2 := hBB.symm; subst hBB2; clear hB
  refine ⟨JOk.edge (JOk.yes (JOk.top) (ldA Tryd.underlying30 rfl sz30 rfl (Cells.own (n := 16) PickB.eq rfl) rfl)) (by kernel_rfl), ?_⟩
  refine Dx.p (i := 4) rfl (by kernel_rfl) (eqI rfl rfl) rfl ?_
  refine Dx.p (i := 5) rfl (by kernel_rfl) (mv rfl) rfl ?_
  refine Xx.ifD (t := 17) rfl (fun h4 => ?_) (fun h4 => ?_)
  · skip
    have z1 := h4
    refine Dx.pT (i := 6) rfl rfl rfl rfl (by kernel_rfl) (fa' fo30_3 rfl) rfl ?_
    refine Dx.rT (i := 7) rfl rfl rfl rfl (by kernel_rfl) (ldA Tryd.underlying26 rfl sz26 rfl (Cells.own (n := 6) PickB.eq rfl) rfl) rfl ?_
    refine Dx.one (i := 8) (by kernel_rfl) ?_
    refine Dstep.oT (i := 8) rfl rfl rfl rfl (Ox.cb rfl rfl rfl (Check_ct 9 (cutF 3 4 vn) _ _ hw4 (fun z => cut_bytes z))) rfl (fun v B' H' hΦ hB => ?_)
    obtain ⟨rfl, rfl, hBB⟩ := hΦ; have hBB2 := hBB.symm; subst hBB2; clear hB
    refine ⟨JOk.edge (JOk.yes (JOk.yes (JOk.top) (ldA Tryd.underlying30 rfl sz30 rfl (Cells.own (n := 16) PickB.eq rfl) rfl)) (ldA Tryd.underlying26 rfl sz26 rfl (Cells.own (n := 6) PickB.eq rfl) rfl)) (by kernel_rfl), ?_⟩
    refine Dx.pT (i := 9) rfl rfl rfl rfl (by kernel_rfl) (eqI rfl rfl) rfl ?_
    refine Dx.p (i := 10) rfl (by kernel_rfl) (pickT rfl rfl) rfl ?_
    refine Dx.one (i := 11) (by kernel_rfl) ?_
    refine Dstep.o0 (i := 11) rfl (stA (d := .bool) sz30 rfl rfl rfl rfl (by show 0 + 16 ≤ 16; omega) rfl) (fun v B' H' hΦ hB => ?_)
    obtain ⟨rfl, rfl⟩ := hΦ; clear hB v
    refine ⟨JOk.yes (JOk.yes (JOk.edge (JOk.top) (by kernel_rfl)) (ldA Tryd.underlying26 rfl sz26 rfl (Cells.own (n := 6) PickB.eq rfl) rfl)) (ldA Tryd.underlying26 rfl sz26 rfl (Cells.own (n := 6) PickB.eq rfl) rfl), ?_⟩
    refine Dx.p (i := 12) rfl (by kernel_rfl) (asg rfl) rfl ?_
    refine Dx.done (by kernel_rfl) ?_
    refine Xx.tn (k3 _ _ _ _ ?_)
    refine Cx.ret ?_
    refine Xx.dropB b1 ?_
    exact Xx.rBc rfl Tryd.underlying30 rfl sz30 rfl rfl rfl ⟨_, _, by first | (rw [decide_eq_true z1, Bool.true_and]; rfl) | (rw [decide_eq_false z1, Bool.false_and]; rfl), hw3, hw4⟩ (Frag.le_trans hB3 hB4)
  · skip
    have z1 := h4
    refine Dx.pF (i := 6) rfl (fun _ h => by cases h) rfl rfl rfl (by kernel_rfl) rfl ?_
    refine Dx.pF (i := 7) rfl (fun _ h => by cases h) rfl rfl rfl (by kernel_rfl) rfl ?_
    refine Dx.pF (i := 8) rfl (fun _ h => by cases h) rfl rfl rfl (by kernel_rfl) rfl ?_
    refine Dx.pF (i := 9) rfl (fun _ h => by cases h) rfl rfl rfl (by kernel_rfl) rfl ?_
    refine Dx.p (i := 10) rfl (by kernel_rfl) (pickF rfl rfl) rfl ?_
    refine Dx.one (i := 11) (by kernel_rfl) ?_
    refine Dstep.o0 (i := 11) rfl (stA (d := .bool) sz30 rfl rfl rfl rfl (by show 0 + 16 ≤ 16; omega) rfl) (fun v B' H' hΦ hB => ?_)
    obtain ⟨rfl, rfl⟩ := hΦ; clear hB v
    refine ⟨JOk.yes (JOk.edge (JOk.top) (by kernel_rfl)) (ldA Tryd.underlying26 rfl sz26 rfl (Cells.own (n := 6) PickB.eq rfl) rfl), ?_⟩
    refine Dx.p (i := 12) rfl (by kernel_rfl) (asg rfl) rfl ?_
    refine Dx.done (by kernel_rfl) ?_
    refine Xx.tn (k3 _ _ _ _ ?_)
    refine Cx.ret ?_
    refine Xx.dropB b1 ?_
    exact Xx.rBc rfl Tryd.underlying30 rfl sz30 rfl rfl rfl ⟨_, _, by first | (rw [decide_eq_true z1, Bool.true_and]; rfl) | (rw [decide_eq_false z1, Bool.false_and]; rfl), hw3, hw4⟩ (Frag.le_trans hB3 hB4)

set_option maxHeartbeats 400000 in
theorem RangesHit_ct (r : Rd) (tb : List UInt8) (sh was is : Bool) (vo vn : V) (co cn : List Value) (d1 d2 : Nat) (B : Frag) (ho : ValR B d1 vo co) (hn : ValR B d2 vn cn) (hM : MaxLenIn B) : CtB Tryd.prog 4 [.agg (rcs r).toArray, .agg (tcs tb sh co cn was is).toArray] B (fun v _ => v = .bool true) := by
  obtain ⟨Ap1, cp1, An1, cn1, rfl⟩ := ValR.shape ho
  obtain ⟨Ap2, cp2, An2, cn2, rfl⟩ := ValR.shape hn
  refine CtB.of_body Tryd.func4 rfl (nt := 26) rfl (by kernel_rfl) rfl ?_
  intro N0 w0 R
  refine Cx.seq (fun K1 k1 => ?_)
  refine Cx.region ?_
  refine Lx.new (boxA rfl) rfl (fun q2 => ?_)
  refine Lx.new (boxA rfl) rfl (fun q3 => ?_)
  refine Lx.y (asg rfl) rfl ?_
  refine Lx.nil ?_
  refine Xx.tn (k1 _ _ _ _ ?_)
  refine Cx.seq (fun K2 k2 => ?_)
  refine Cx.region ?_
  refine Lx.y (ldA Tryd.underlying30 rfl sz30 rfl (Cells.own (n := 16) PickB.eq rfl) rfl) rfl ?_
  have hcut := cut_ct tb sh was is vo vn _ _ d1 d2 B ho hn
  refine Lx.cb rfl rfl rfl (hcut) rfl ?_
  rintro v2 B2 ⟨co2, cn2, rfl, hw3, hw4⟩ hB2
  obtain ⟨Ap3, cp3, An3, cn3, rfl⟩ := ValR.shape hw3
  obtain ⟨Ap4, cp4, An4, cn4, rfl⟩ := ValR.shape hw4
  refine Lx.y (mv rfl) rfl ?_
  refine Lx.y (ext rfl rfl) rfl ?_
  refine Lx.y (ext rfl rfl) rfl ?_
  refine Lx.new (allocO ti30) rfl (fun b5 => ?_)
  refine Lx.st (stA (d := .bool) sz30 rfl rfl rfl rfl (by show 0 + 16 ≤ 16; omega) rfl) ?_
  refine Lx.y (asg rfl) rfl ?_
  refine Lx.nil ?_
  refine Xx.tn (k2 _ _ _ _ ?_)
  refine Cx.seq (fun K4 k4 => ?_)
  refine Cx.drawn (by kernel_rfl) ?_
  refine Dx.one (i := 0) (by kernel_rfl) ?_
  refine Dstep.o (i := 0) rfl (Ox.cb rfl rfl rfl (awake_ct _ (hM.mono hB2))) rfl (fun v B' H' hΦ hB => ?_)
  obtain ⟨rfl, hΦ⟩ := hΦ
  obtain rfl := hΦ
  rename Frag => B3
  have hB3 := hB
  refine ⟨JOk.top, ?_⟩
  refine Dx.p (i := 1) rfl (by kernel_rfl) (mv rfl) rfl ?_
  refine Dx.pT (i := 2) rfl rfl rfl rfl (by kernel_rfl) (mv rfl) rfl ?_
  refine Dx.pT (i := 3) rfl rfl rfl rfl (by kernel_rfl) (not' rfl) rfl ?_
  refine Dx.pT (i := 4) rfl rfl rfl rfl (by kernel_rfl) (mv rfl) rfl ?_
  refine Xx.ifB (t := 16) rfl (fun h5 => ?_) (fun h5 => ?_)
  · skip
    refine Dx.pF (i := 5) rfl (fun _ h => by cases h) rfl rfl rfl (by kernel_rfl) rfl ?_
    refine Dx.pF (i := 6) rfl (fun _ h => by cases h) rfl rfl rfl (by kernel_rfl) rfl ?_
    refine Dx.pF (i := 7) rfl (fun _ h => by cases h) rfl rfl rfl (by kernel_rfl) rfl ?_
    refine Dx.pF (i := 8) rfl (fun _ h => by cases h) rfl rfl rfl (by kernel_rfl) rfl ?_
    refine Dx.pF (i := 9) rfl (fun _ h => by cases h) rfl rfl rfl (by kernel_rfl) rfl ?_
    refine Dx.pF (i := 10) rfl (fun _ h => by cases h) rfl rfl rfl (by kernel_rfl) rfl ?_
    refine Dx.pF (i := 11) rfl (fun _ h => by cases h) rfl rfl rfl (by kernel_rfl) rfl ?_
    refine Dx.pT (i := 12) rfl rfl rfl rfl (by kernel_rfl) (pickT rfl rfl) rfl ?_
    refine Dx.p (i := 13) rfl (by kernel_rfl) (pickT rfl rfl) rfl ?_
    refine Dx.p (i := 14) rfl (by kernel_rfl) (asg rfl) rfl ?_
    refine Dx.done (by kernel_rfl) ?_
    refine Xx.tn (k4 _ _ _ _ ?_)
    refine Cx.ret ?_
    first | exact Xx.dropB b5 (Xx.dropB q2 (Xx.dropB q3 (Xx.rB1 rfl rfl rfl (Frag.le_trans hB2 (Frag.le_trans hB3 hB4)) rfl))) | exact Xx.dropB b5 (Xx.dropB q2 (Xx.dropB q3 (Xx.rB1 rfl rfl rfl (Frag.le_trans hB2 hB3) rfl)))
  · skip
    have hz : (decide (CheckF 9 (cutF 3 4 vo) = 0) && decide (CheckF 9 (cutF 3 4 vn) = 0)) = true := by simpa using h5
    rw [Bool.and_eq_true] at hz
    have hz1 := of_decide_eq_true hz.1
    have hz2 := of_decide_eq_true hz.2
    clear hz h5
    have hw3 := ValR.mono hB3 hw3
    have hw4 := ValR.mono hB3 hw4
    have hM3 := (hM.mono hB2).mono hB3
    have hgo : GoodV B3 7 (cutF 3 4 vo) _ := ⟨hw3, (CheckF_zero hz1).1, (CheckF_zero hz1).2⟩
    have hgn : GoodV B3 7 (cutF 3 4 vn) _ := ⟨hw4, (CheckF_zero hz2).1, (CheckF_zero hz2).2⟩
    have hfo : Few (7 + 2) (cutF 3 4 vo) := cutF_few _ _ _ _ (by decide)
    have hfn : Few (7 + 2) (cutF 3 4 vn) := cutF_few _ _ _ _ (by decide)
    generalize cutF 3 4 vo = wo at *
    generalize cutF 3 4 vn = wn at *
    refine Dx.rT (i := 5) rfl rfl rfl rfl (by kernel_rfl) (ldA Tryd.underlying36 rfl sz36 rfl (Cells.own (n := 4) PickB.eq rfl) rfl) rfl ?_
    refine Dx.rT (i := 6) rfl rfl rfl rfl (by kernel_rfl) (ldA Tryd.underlying30 rfl sz30 rfl (Cells.own (n := 16) PickB.eq rfl) rfl) rfl ?_
    refine Dx.rT (i := 8) rfl rfl rfl rfl (by kernel_rfl) (ldA Tryd.underlying36 rfl sz36 rfl (Cells.own (n := 4) PickB.eq rfl) rfl) rfl ?_
    refine Dx.rT (i := 9) rfl rfl rfl rfl (by kernel_rfl) (ldA Tryd.underlying30 rfl sz30 rfl (Cells.own (n := 16) PickB.eq rfl) rfl) rfl ?_
    refine Dx.one (i := 7) (by kernel_rfl) ?_
    have hh := Hits_ct 7 r tb sh was is wo wn _ _ _ hgo hgn hM3
    refine Dstep.oT (i := 7) rfl rfl rfl rfl (Ox.cb rfl rfl rfl (hh)) rfl (fun v B' H' hΦ hB => ?_)
    obtain ⟨rfl, rfl, hBB⟩ := hΦ; have hBB2 := hBB.symm; subst hBB2; clear hB
    refine ⟨JOk.yes (JOk.yes (JOk.edge (JOk.edge (JOk.top) (by kernel_rfl)) (by kernel_rfl)) (ldA Tryd.underlying36 rfl sz36 rfl (Cells.own (n := 4) PickB.eq rfl) rfl)) (ldA Tryd.underlying30 rfl sz30 rfl (Cells.own (n := 16) PickB.eq rfl) rfl), ?_⟩
    refine Dx.one (i := 10) (by kernel_rfl) ?_
    have hr := hits_ct 7 r tb sh was is wo wn _ _ _ hgo hgn hfo hfn
    refine Dstep.oT (i := 10) rfl rfl rfl rfl (Ox.cb rfl rfl rfl (hr)) rfl (fun v B' H' hΦ hB => ?_)
    obtain ⟨rfl, hΦ⟩ := hΦ
    obtain rfl := hΦ
    rename Frag => B4
    have hB4 := hB
    refine ⟨JOk.edge (JOk.edge (JOk.yes (JOk.yes (JOk.top) (ldA Tryd.underlying36 rfl sz36 rfl (Cells.own (n := 4) PickB.eq rfl) rfl)) (ldA Tryd.underlying30 rfl sz30 rfl (Cells.own (n := 16) PickB.eq rfl) rfl)) (by kernel_rfl)) (by kernel_rfl), ?_⟩
    refine Dx.pT (i := 11) rfl rfl rfl rfl (by kernel_rfl) (Yx.tt (eqB Tryd.underlying4 rfl rfl) (beq_self_eq_true _)) rfl ?_
    refine Dx.pT (i := 12) rfl rfl rfl rfl (by kernel_rfl) (pickF rfl rfl) rfl ?_
    refine Dx.p (i := 13) rfl (by kernel_rfl) (pickT rfl rfl) rfl ?_
    refine Dx.p (i := 14) rfl (by kernel_rfl) (asg rfl) rfl ?_
    refine Dx.done (by kernel_rfl) ?_
    refine Xx.tn (k4 _ _ _ _ ?_)
    refine Cx.ret ?_
    first | exact Xx.dropB b5 (Xx.dropB q2 (Xx.dropB q3 (Xx.rB1 rfl rfl rfl (Frag.le_trans hB2 (Frag.le_trans hB3 hB4)) rfl))) | exact Xx.dropB b5 (Xx.dropB q2 (Xx.dropB q3 (Xx.rB1 rfl rfl rfl (Frag.le_trans hB2 hB3) rfl)))

set_option maxHeartbeats 400000 in
theorem RangesWhole_ct (table : List UInt8) (r : Rd) (tb : List UInt8) (sh was is : Bool) (vo vn : V) (co cn : List Value) (d1 d2 : Nat) (B : Frag) (ho : ValR B d1 vo co) (hn : ValR B d2 vn cn) (hM : MaxLenIn B) : CtB Tryd.prog 5 [str table, .agg (rcs r).toArray, .agg (tcs tb sh co cn was is).toArray] B (fun v _ => v = .bool true) := by
  obtain ⟨Ap1, cp1, An1, cn1, rfl⟩ := ValR.shape ho
  obtain ⟨Ap2, cp2, An2, cn2, rfl⟩ := ValR.shape hn
  refine CtB.of_body Tryd.func5 rfl (nt := 69) rfl (by kernel_rfl) rfl ?_
  intro N0 w0 R
  refine Cx.seq (fun K1 k1 => ?_)
  refine Cx.region ?_
  refine Lx.new (boxA rfl) rfl (fun q4 => ?_)
  refine Lx.new (boxA rfl) rfl (fun q5 => ?_)
  refine Lx.y (asg rfl) rfl ?_
  refine Lx.nil ?_
  refine Xx.tn (k1 _ _ _ _ ?_)
  refine Cx.seq (fun K2 k2 => ?_)
  refine Cx.region ?_
  refine Lx.y (ldA Tryd.underlying30 rfl sz30 rfl (Cells.own (n := 16) PickB.eq rfl) rfl) rfl ?_
  have hcut := cut_ct tb sh was is vo vn _ _ d1 d2 B ho hn
  refine Lx.cb rfl rfl rfl (hcut) rfl ?_
  rintro v2 B2 ⟨co2, cn2, rfl, hw3, hw4⟩ hB2
  obtain ⟨Ap3, cp3, An3, cn3, rfl⟩ := ValR.shape hw3
  obtain ⟨Ap4, cp4, An4, cn4, rfl⟩ := ValR.shape hw4
  refine Lx.y (mv rfl) rfl ?_
  refine Lx.y (ext rfl rfl) rfl ?_
  refine Lx.y (ext rfl rfl) rfl ?_
  refine Lx.new (allocO ti30) rfl (fun b5 => ?_)
  refine Lx.st (stA (d := .bool) sz30 rfl rfl rfl rfl (by show 0 + 16 ≤ 16; omega) rfl) ?_
  refine Lx.y (asg rfl) rfl ?_
  refine Lx.nil ?_
  refine Xx.tn (k2 _ _ _ _ ?_)
  refine Cx.cutK (ds' := []) (Sub.cons (s := 0) rfl (Sub.cons (s := 1) rfl (Sub.cons (s := 2) rfl (Sub.cons (s := 4) rfl (Sub.cons (s := 5) rfl (Sub.cons (s := 7) rfl (Sub.cons (s := 8) rfl (Sub.cons (s := 11) rfl (Sub.cons (s := 12) rfl (Sub.cons (s := 13) rfl (Sub.cons (s := 14) rfl (Sub.cons (s := 15) rfl (Sub.nil _))))))))))))) (fun ρ' B' H' => ρ' = [] ∧ B2 = B' ∧ row b5 30 (tcs tb sh (vcs (cutF 3 4 vo) Ap3 cp3 An3 cn3) (vcs (cutF 3 4 vn) Ap4 cp4 An4 cn4) was is) * (row q5 30 (tcs tb sh (vcs vo Ap1 cp1 An1 cn1) (vcs vn Ap2 cp2 An2 cn2) was is) * (row q4 36 (rcs r) * R)) = H' ∧ (decide (CheckF 9 (cutF 3 4 vo) = 0) && decide (CheckF 9 (cutF 3 4 vn) = 0)) = true ∧ (sh || was || is) = true) ?_ ?_
  · skip
    refine Cx.seq (fun K4 k4 => ?_)
    refine Cx.region ?_
    refine Lx.y (mv rfl) rfl ?_
    refine Lx.y (not' rfl) rfl ?_
    refine Lx.y (mv rfl) rfl ?_
    refine Xx.ifB (t := 18) rfl (fun h5 => ?_) (fun h5 => ?_)
    · skip
      refine Lx.gF rfl rfl rfl rfl ?_
      refine Lx.gF rfl rfl rfl rfl ?_
      refine Lx.gF rfl rfl rfl rfl ?_
      refine Lx.gF rfl rfl rfl rfl ?_
      refine Lx.gU rfl rfl rfl rfl ?_
      refine Lx.gU rfl rfl rfl rfl ?_
      refine Lx.gU rfl rfl rfl rfl ?_
      refine Lx.gF rfl rfl rfl rfl ?_
      refine Lx.gF rfl rfl rfl rfl ?_
      refine Lx.gU rfl rfl rfl rfl ?_
      refine Lx.gU rfl rfl rfl rfl ?_
      refine Lx.gU rfl rfl rfl rfl ?_
      refine Lx.gF rfl rfl rfl rfl ?_
      refine Lx.y (pickT rfl rfl) rfl ?_
      refine Lx.nil ?_
      refine Xx.tn (k4 _ _ _ _ ?_)
      refine Cx.condT rfl ?_
      refine Cx.seq (fun K6 k6 => ?_)
      refine Cx.region ?_
      refine Lx.cb rfl rfl rfl (awake_ct _ (hM.mono hB2)) rfl ?_
      rintro v3 B3 rfl hB3
      refine Lx.y (asg rfl) rfl ?_
      refine Lx.nil ?_
      refine Xx.tn (k6 _ _ _ _ ?_)
      refine Cx.ret ?_
      refine Xx.tr ?_
      exact Xx.dropB b5 (Xx.dropB q4 (Xx.dropB q5 (Xx.rB1 rfl rfl rfl (Frag.le_trans hB2 hB3) rfl)))
    · skip
      have hz : (decide (CheckF 9 (cutF 3 4 vo) = 0) && decide (CheckF 9 (cutF 3 4 vn) = 0)) = true := by simpa using h5
      refine Lx.gT rfl rfl rfl ?_
      refine Lx.y (fa' fo30_4 rfl) rfl ?_
      refine Lx.gT rfl rfl rfl ?_
      refine Lx.y (ld Tryd.underlying4 rfl rfl rfl) rfl ?_
      refine Lx.gT rfl rfl rfl ?_
      refine Lx.y (not' rfl) rfl ?_
      refine Lx.gT rfl rfl rfl ?_
      refine Lx.y (mv rfl) rfl ?_
      refine Xx.ifB (t := 22) rfl (fun h8 => ?_) (fun h8 => ?_)
      · skip
        have z1 := h8
        refine Lx.gT rfl rfl rfl ?_
        refine Lx.y (fa' fo30_5 rfl) rfl ?_
        refine Lx.gT rfl rfl rfl ?_
        refine Lx.y (ld Tryd.underlying4 rfl rfl rfl) rfl ?_
        refine Lx.gT rfl rfl rfl ?_
        refine Lx.y (not' rfl) rfl ?_
        refine Lx.gT rfl rfl rfl ?_
        refine Lx.y (pickT rfl rfl) rfl ?_
        refine Lx.gT rfl rfl rfl ?_
        refine Lx.y (mv rfl) rfl ?_
        refine Xx.ifB (t := 27) rfl (fun h9 => ?_) (fun h9 => ?_)
        · skip
          have z2 := h9
          refine Lx.gT rfl rfl rfl ?_
          refine Lx.y (fa' fo30_1 rfl) rfl ?_
          refine Lx.gT rfl rfl rfl ?_
          refine Lx.y (ld Tryd.underlying4 rfl rfl rfl) rfl ?_
          refine Lx.gT rfl rfl rfl ?_
          refine Lx.y (not' rfl) rfl ?_
          refine Lx.gT rfl rfl rfl ?_
          refine Lx.y (pickT rfl rfl) rfl ?_
          refine Lx.y (pickF rfl rfl) rfl ?_
          refine Lx.nil ?_
          refine Xx.tn (k4 _ _ _ _ ?_)
          refine Cx.condB rfl (fun h10 => ?_) (fun h10 => ?_)
          · skip
            refine Cx.seq (fun K11 k11 => ?_)
            refine Cx.region ?_
            refine Lx.cb rfl rfl rfl (awake_ct _ (hM.mono hB2)) rfl ?_
            rintro v3 B3 rfl hB3
            refine Lx.y (asg rfl) rfl ?_
            refine Lx.nil ?_
            refine Xx.tn (k11 _ _ _ _ ?_)
            refine Cx.ret ?_
            refine Xx.tr ?_
            exact Xx.dropB b5 (Xx.dropB q4 (Xx.dropB q5 (Xx.rB1 rfl rfl rfl (Frag.le_trans hB2 hB3) rfl)))
          · skip
            have z3 := h10
            refine Cx.skip ?_
            exact Xx.mkK (⟨rfl, rfl, rfl, hz, by simp_all⟩) (Sub.cons (s := 0) rfl (Sub.cons (s := 1) rfl (Sub.cons (s := 2) rfl (Sub.cons (s := 4) rfl (Sub.cons (s := 5) rfl (Sub.cons (s := 7) rfl (Sub.cons (s := 8) rfl (Sub.cons (s := 11) rfl (Sub.cons (s := 12) rfl (Sub.cons (s := 13) rfl (Sub.cons (s := 14) rfl (Sub.cons (s := 15) rfl (Sub.nil _)))))))))))))
        · skip
          have z2 := h9
          refine Lx.gF rfl rfl rfl rfl ?_
          refine Lx.gF rfl rfl rfl rfl ?_
          refine Lx.gF rfl rfl rfl rfl ?_
          refine Lx.gT rfl rfl rfl ?_
          refine Lx.y (pickF rfl rfl) rfl ?_
          refine Lx.y (pickF rfl rfl) rfl ?_
          refine Lx.nil ?_
          refine Xx.tn (k4 _ _ _ _ ?_)
          refine Cx.condF rfl ?_
          refine Cx.skip ?_
          exact Xx.mkK (⟨rfl, rfl, rfl, hz, by simp_all⟩) (Sub.cons (s := 0) rfl (Sub.cons (s := 1) rfl (Sub.cons (s := 2) rfl (Sub.cons (s := 4) rfl (Sub.cons (s := 5) rfl (Sub.cons (s := 7) rfl (Sub.cons (s := 8) rfl (Sub.cons (s := 11) rfl (Sub.cons (s := 12) rfl (Sub.cons (s := 13) rfl (Sub.cons (s := 14) rfl (Sub.cons (s := 15) rfl (Sub.nil _)))))))))))))
      · skip
        have z1 := h8
        refine Lx.gF rfl rfl rfl rfl ?_
        refine Lx.gF rfl rfl rfl rfl ?_
        refine Lx.gF rfl rfl rfl rfl ?_
        refine Lx.gT rfl rfl rfl ?_
        refine Lx.y (pickF rfl rfl) rfl ?_
        refine Lx.gT rfl rfl rfl ?_
        refine Lx.y (mv rfl) rfl ?_
        refine Lx.gF rfl rfl rfl rfl ?_
        refine Lx.gF rfl rfl rfl rfl ?_
        refine Lx.gF rfl rfl rfl rfl ?_
        refine Lx.gT rfl rfl rfl ?_
        refine Lx.y (pickF rfl rfl) rfl ?_
        refine Lx.y (pickF rfl rfl) rfl ?_
        refine Lx.nil ?_
        refine Xx.tn (k4 _ _ _ _ ?_)
        refine Cx.condF rfl ?_
        refine Cx.skip ?_
        exact Xx.mkK (⟨rfl, rfl, rfl, hz, by simp_all⟩) (Sub.cons (s := 0) rfl (Sub.cons (s := 1) rfl (Sub.cons (s := 2) rfl (Sub.cons (s := 4) rfl (Sub.cons (s := 5) rfl (Sub.cons (s := 7) rfl (Sub.cons (s := 8) rfl (Sub.cons (s := 11) rfl (Sub.cons (s := 12) rfl (Sub.cons (s := 13) rfl (Sub.cons (s := 14) rfl (Sub.cons (s := 15) rfl (Sub.nil _)))))))))))))
  · rintro ρ' B' H' ⟨rfl, rfl, rfl, hz, hor⟩
    rw [Bool.and_eq_true] at hz
    have hz1 := of_decide_eq_true hz.1
    have hz2 := of_decide_eq_true hz.2
    clear hz
    have hM2 := hM.mono hB2
    have hgo : GoodV B2 7 (cutF 3 4 vo) _ := ⟨hw3, (CheckF_zero hz1).1, (CheckF_zero hz1).2⟩
    have hgn : GoodV B2 7 (cutF 3 4 vn) _ := ⟨hw4, (CheckF_zero hz2).1, (CheckF_zero hz2).2⟩
    have hfo : Few (7 + 2) (cutF 3 4 vo) := cutF_few _ _ _ _ (by decide)
    have hfn : Few (7 + 2) (cutF 3 4 vn) := cutF_few _ _ _ _ (by decide)
    generalize cutF 3 4 vo = wo at *
    generalize cutF 3 4 vn = wn at *
    refine Cx.seq (fun K13 k13 => ?_)
    refine Cx.drawn (by kernel_rfl) ?_
    refine Dx.p (i := 0) rfl (by kernel_rfl) (mv rfl) rfl ?_
    refine Dx.r (i := 2) rfl (by kernel_rfl) (ldA Tryd.underlying30 rfl sz30 rfl (Cells.own (n := 16) PickB.eq rfl) rfl) rfl ?_
    refine Dx.one (i := 1) (by kernel_rfl) ?_
    refine Dstep.o (i := 1) rfl (Ox.cb rfl rfl rfl (Whole_ct _ _)) rfl (fun v B' H' hΦ hB => ?_)
    obtain ⟨rfl, rfl, hBB⟩ := hΦ; have hBB2 := hBB.symm; subst hBB2; clear hB
    refine ⟨JOk.yes (JOk.top) (ldA Tryd.underlying30 rfl sz30 rfl (Cells.own (n := 16) PickB.eq rfl) rfl), ?_⟩
    refine Dx.one (i := 3) (by kernel_rfl) ?_
    have hh := ctpB (Hits_ct 7 ⟨table, [], [], []⟩ tb sh was is wo wn _ _ _ hgo hgn hM2) (hits_whole.trans (by rw [hor, Bool.and_true] : _ = decide (table = tb)))
    refine Dstep.o (i := 3) rfl (Ox.cb rfl rfl rfl (hh)) rfl (fun v B' H' hΦ hB => ?_)
    obtain ⟨rfl, rfl, hBB⟩ := hΦ; have hBB2 := hBB.symm; subst hBB2; clear hB
    refine ⟨JOk.edge (JOk.top) (by kernel_rfl), ?_⟩
    refine Dx.p (i := 4) rfl (by kernel_rfl) (asg rfl) rfl ?_
    refine Dx.done (by kernel_rfl) ?_
    refine Xx.tn (k13 _ _ _ _ ?_)
    refine Cx.seq (fun K14 k14 => ?_)
    refine Cx.drawn (by kernel_rfl) ?_
    refine Dx.p (i := 0) rfl (by kernel_rfl) (mv rfl) rfl ?_
    refine Dx.p (i := 1) rfl (by kernel_rfl) (fa' fo36_1 rfl) rfl ?_
    refine Dx.r (i := 2) rfl (by kernel_rfl) (ld Tryd.underlying9 rfl rfl rfl) rfl ?_
    refine Dx.p (i := 3) rfl (by kernel_rfl) (fa' fo36_2 rfl) rfl ?_
    refine Dx.r (i := 4) rfl (by kernel_rfl) (ldA Tryd.underlying34 rfl sz34 rfl (Cells.own (n := 2) PickB.eq rfl) rfl) rfl ?_
    refine Dx.r (i := 6) rfl (by kernel_rfl) (ldA Tryd.underlying30 rfl sz30 rfl (Cells.own (n := 16) PickB.eq rfl) rfl) rfl ?_
    refine Dx.one (i := 5) (by kernel_rfl) ?_
    refine Dstep.o (i := 5) rfl (Ox.cb rfl rfl rfl (Part_ct _ _ _ _ _)) rfl (fun v B' H' hΦ hB => ?_)
    obtain ⟨rfl, rfl, hBB⟩ := hΦ; have hBB2 := hBB.symm; subst hBB2; clear hB
    refine ⟨JOk.yes (JOk.edge (JOk.edge (JOk.top) (by kernel_rfl)) (by kernel_rfl)) (ldA Tryd.underlying30 rfl sz30 rfl (Cells.own (n := 16) PickB.eq rfl) rfl), ?_⟩
    refine Dx.one (i := 7) (by kernel_rfl) ?_
    have hh2 := Hits_ct 7 ⟨table, r.f, r.lo, r.hi⟩ tb sh was is wo wn _ _ _ hgo hgn hM2
    have hpt : hitsB 7 ⟨table, r.f, r.lo, r.hi⟩ tb sh wo wn was is = true → table = tb := fun h => by unfold hitsB at h; rw [Bool.and_eq_true] at h; exact of_decide_eq_true h.1
    generalize hitsB 7 ⟨table, r.f, r.lo, r.hi⟩ tb sh wo wn was is = part at hh2 hpt
    refine Dstep.o (i := 7) rfl (Ox.cb rfl rfl rfl (hh2)) rfl (fun v B' H' hΦ hB => ?_)
    obtain ⟨rfl, rfl, hBB⟩ := hΦ; have hBB2 := hBB.symm; subst hBB2; clear hB
    refine ⟨JOk.edge (JOk.yes (JOk.yes (JOk.top) (ld Tryd.underlying9 rfl rfl rfl)) (ldA Tryd.underlying34 rfl sz34 rfl (Cells.own (n := 2) PickB.eq rfl) rfl)) (by kernel_rfl), ?_⟩
    refine Dx.p (i := 8) rfl (by kernel_rfl) (asg rfl) rfl ?_
    refine Dx.done (by kernel_rfl) ?_
    refine Xx.tn (k14 _ _ _ _ ?_)
    refine Cx.seq (fun K15 k15 => ?_)
    refine Cx.region ?_
    refine Lx.cb rfl rfl rfl (awake_ct _ hM2) rfl ?_
    rintro v3 B3 rfl hB3
    refine Lx.y (mv rfl) rfl ?_
    refine Lx.gT rfl rfl rfl ?_
    refine Lx.y (mv rfl) rfl ?_
    refine Lx.gT rfl rfl rfl ?_
    refine Lx.y (fa' fo30_0 rfl) rfl ?_
    refine Lx.gT rfl rfl rfl ?_
    refine Lx.y (ld Tryd.underlying9 rfl rfl rfl) rfl ?_
    refine Lx.gT rfl rfl rfl ?_
    refine Lx.y (mv rfl) rfl ?_
    refine Lx.gT rfl rfl rfl ?_
    refine Lx.y (eqS rfl rfl) rfl ?_
    refine Lx.gT rfl rfl rfl ?_
    refine Lx.y (Yx.tt (eqB Tryd.underlying4 rfl rfl) (by rw [show decide (table = tb) = decide (tb = table) from decide_eq_decide.2 eq_comm]; exact beq_self_eq_true _)) rfl ?_
    refine Lx.y (pickT rfl rfl) rfl ?_
    refine Lx.y (mv rfl) rfl ?_
    refine Lx.gT rfl rfl rfl ?_
    refine Lx.y (mv rfl) rfl ?_
    refine Lx.gT rfl rfl rfl ?_
    refine Lx.y (mv rfl) rfl ?_
    refine Xx.ifD (t := 57) rfl (fun h17 => ?_) (fun h17 => ?_)
    · skip
      refine Lx.gF rfl rfl rfl rfl ?_
      refine Lx.gF rfl rfl rfl rfl ?_
      refine Lx.gT rfl rfl rfl ?_
      refine Lx.y (pickT rfl rfl) rfl ?_
      refine Lx.y (pickT rfl rfl) rfl ?_
      refine Lx.y (mv rfl) rfl ?_
      refine Lx.gT rfl rfl rfl ?_
      refine Lx.y (mv rfl) rfl ?_
      refine Lx.gT rfl rfl rfl ?_
      refine Lx.cp rfl rfl rfl (Whole_ct table _) rfl ?_
      refine Lx.gT rfl rfl rfl ?_
      refine Lx.y (mv rfl) rfl ?_
      refine Lx.gT rfl rfl rfl ?_
      refine Lx.y (bld ti36 pl36 rfl rfl) rfl ?_
      refine Lx.gT rfl rfl rfl ?_
      refine Lx.y (Yx.tt (eqR ⟨table, [], [], []⟩ ⟨table, [], [], []⟩ Tryd.underlying36 Tryd.underlying9 Tryd.underlying9 Tryd.underlying34 Tryd.underlying9 Tryd.underlying9 (by decide) (by decide) (by decide) (by decide) (by decide) rfl rfl rfl rfl rfl sz34 (by kernel_rfl) (by kernel_rfl) (by kernel_rfl) rfl rfl) (eqRd_iff.2 rfl)) rfl ?_
      refine Lx.y (pickT rfl rfl) rfl ?_
      refine Lx.y (asg rfl) rfl ?_
      refine Lx.nil ?_
      refine Xx.tn (k15 _ _ _ _ ?_)
      refine Cx.ret ?_
      exact Xx.dropB b5 (Xx.dropB q4 (Xx.dropB q5 (Xx.rB1 rfl rfl rfl (Frag.le_trans hB2 hB3) rfl)))
    · skip
      have hne := h17
      refine Lx.gT rfl rfl rfl ?_
      refine Lx.y (mv rfl) rfl ?_
      refine Lx.gT rfl rfl rfl ?_
      refine Lx.y (Yx.tt (not' rfl) (by cases part with | false => rfl | true => exact absurd (hpt rfl) hne)) rfl ?_
      refine Lx.gT rfl rfl rfl ?_
      refine Lx.y (pickF rfl rfl) rfl ?_
      refine Lx.y (pickT rfl rfl) rfl ?_
      refine Lx.y (mv rfl) rfl ?_
      refine Lx.gT rfl rfl rfl ?_
      refine Lx.y (mv rfl) rfl ?_
      refine Lx.gT rfl rfl rfl ?_
      refine Lx.cp rfl rfl rfl (Whole_ct table _) rfl ?_
      refine Lx.gT rfl rfl rfl ?_
      refine Lx.y (mv rfl) rfl ?_
      refine Lx.gT rfl rfl rfl ?_
      refine Lx.y (bld ti36 pl36 rfl rfl) rfl ?_
      refine Lx.gT rfl rfl rfl ?_
      refine Lx.y (Yx.tt (eqR ⟨table, [], [], []⟩ ⟨table, [], [], []⟩ Tryd.underlying36 Tryd.underlying9 Tryd.underlying9 Tryd.underlying34 Tryd.underlying9 Tryd.underlying9 (by decide) (by decide) (by decide) (by decide) (by decide) rfl rfl rfl rfl rfl sz34 (by kernel_rfl) (by kernel_rfl) (by kernel_rfl) rfl rfl) (eqRd_iff.2 rfl)) rfl ?_
      refine Lx.y (pickT rfl rfl) rfl ?_
      refine Lx.y (asg rfl) rfl ?_
      refine Lx.nil ?_
      refine Xx.tn (k15 _ _ _ _ ?_)
      refine Cx.ret ?_
      exact Xx.dropB b5 (Xx.dropB q4 (Xx.dropB q5 (Xx.rB1 rfl rfl rfl (Frag.le_trans hB2 hB3) rfl)))
end RgG
end Go.Proofs.YtfnfkoldifpmhaaDoor
