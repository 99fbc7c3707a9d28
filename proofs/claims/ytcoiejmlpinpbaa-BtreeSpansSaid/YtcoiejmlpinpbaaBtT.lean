/-
  The walks of first, same, find.
-/
import Derived.Test.YtcoiejmlpinpbaaProg
import Derived.Test.YtcoiejmlpinpbaaSlj
import Derived.Test.YtcoiejmlpinpbaaBtS
namespace Go.Proofs.Ytcoiejmlpinpbaa
open Go.SL Go.RowKit
set_option linter.unusedVariables false
set_option linter.unusedSimpArgs false
set_option maxRecDepth 100000
open BtA BtB BtC BtD BtE BtG BtH BtI BtF BtJ BtK BtL BtM BtN BtO BtP BtQ BtR BtS
namespace BtT
theorem sz3 : (Try.prog.info? 3).map (·.size) = some 1 := by kernel_rfl
theorem sz4 : (Try.prog.info? 4).map (·.size) = some 1 := by kernel_rfl
theorem sz24 : (Try.prog.info? 24).map (·.size) = some 2 := by kernel_rfl
theorem sz77 : (Try.prog.info? 77).map (·.size) = some 2 := by kernel_rfl
theorem ti3 : TI Try.prog 3 [.int .i64 0] 1 8 := TI.of (by kernel_rfl) rfl rfl
theorem ti4 : TI Try.prog 4 [.bool false] 1 1 := TI.of (by kernel_rfl) rfl rfl
theorem ti77 : TI Try.prog 77 [str [], str []] 2 32 := TI.of (by kernel_rfl) rfl rfl
theorem pl77 : PL Try.prog 77 [(0, 1), (1, 1)] := PL.of Try.underlying77 (by kernel_rfl)

def flatP (l : List (Str8 × Str8)) : List Value := l.flatMap fun p => [str p.1, str p.2]
theorem flatP_app (a b : List (Str8 × Str8)) : flatP (a ++ b) = flatP a ++ flatP b := List.flatMap_append ..
theorem flatP_len (l : List (Str8 × Str8)) : (flatP l).length = l.length * 2 := by
  unfold flatP
  induction l with
  | nil => rfl
  | cons p l ih => simp only [List.flatMap_cons, List.length_append, ih, List.length_cons, List.length_nil]; omega
theorem flatP_drop : ∀ (k : Nat) (l : List (Str8 × Str8)), (flatP l).drop (k * 2) = flatP (l.drop k) := by
  intro k
  induction k with
  | zero => intro l; simp
  | succ k ih =>
    intro l
    cases l with
    | nil => simp [flatP]
    | cons p l =>
      rw [List.drop_succ_cons, ← ih l, show (k + 1) * 2 = k * 2 + 2 by omega, ← List.drop_drop]
      show ((str p.1 :: str p.2 :: flatP l).drop (k * 2)).drop 2 = _
      rw [List.drop_drop, show k * 2 + 2 = k * 2 + 1 + 1 by omega]; rfl
theorem flatP_take : ∀ (k : Nat) (l : List (Str8 × Str8)), (flatP l).take (k * 2) = flatP (l.take k) := by
  intro k
  induction k with
  | zero => intro l; simp [flatP]
  | succ k ih =>
    intro l
    cases l with
    | nil => simp [flatP]
    | cons p l =>
      rw [show (k + 1) * 2 = k * 2 + 1 + 1 by omega, List.take_succ_cons]
      show (str p.1 :: str p.2 :: flatP l).take (k * 2 + 1 + 1) = str p.1 :: str p.2 :: flatP (l.take k)
      rw [← ih l]; rfl
theorem flatP_all (l : List (Str8 × Str8)) : (flatP l).all (·.oneCell') = true := by
  rw [List.all_eq_true]; intro v hv
  obtain ⟨p, _, h⟩ := List.mem_flatMap.1 hv
  rcases List.mem_cons.1 h with rfl | h
  · rfl
  · rw [List.mem_singleton.1 h]; rfl
theorem flatP_at {l : List (Str8 × Str8)} {k : Nat} (h : k < l.length) : ((flatP l).drop (k * 2)).take 2 = [str l[k].1, str l[k].2] := by
  rw [flatP_drop, List.drop_eq_getElem_cons h]; rfl
theorem two_at {cs : List Value} {q : Nat} {a b : Value} (h : (cs.drop q).take 2 = [a, b]) : cs[q]? = some a ∧ cs[q + 1]? = some b := by
  have e0 : ((cs.drop q).take 2)[0]? = some a := by rw [h]; rfl
  have e1 : ((cs.drop q).take 2)[1]? = some b := by rw [h]; rfl
  simp only [List.getElem?_take, List.getElem?_drop] at e0 e1
  exact ⟨by simpa using e0, by simpa using e1⟩
/-- a place among pairs that are only read -/
theorem pairs_at {B : Frag} {A : Option Addr} {n k : Nat} {l : List (Str8 × Str8)} (h : RoS B 2 A n (flatP l)) (hn : n = l.length) (hk : k < l.length) : ∃ b o cs et fz, A = some ⟨b, o, none⟩ ∧ B b = some (.cells (List.toArray cs) et fz) ∧ (cs.drop (o + k * 2)).take 2 = [str l[k].1, str l[k].2] := by
  obtain ⟨b, o, cs, et, fz, h1, h2, h3⟩ := h.at (k := k) (by omega)
  exact ⟨b, o, cs, et, fz, h1, h2, by rw [h3, flatP_at hk]⟩
theorem neSS {P : Program} {ρ : Sl} {S : World → Prop} {ty t t' : TypeId} {x y : Operand} {f0 f1 : Field} {a b c d : Str8} (ht : P.underlying t = some (.struct #[f0, f1])) (h0 : P.underlying f0.type = some .string) (h1 : P.underlying f1.type = some .string)
    (n0 : f0.name ≠ "_") (n1 : f1.name ≠ "_") (o0 : f0.offset = 0) (o1 : f1.offset = 1) (hm : P.eqGuardType P.depth t = false) (hp : P.stoodInHeld t = false) (hx : ev ρ x = some (.agg [str a, str b].toArray)) (hy : ev ρ y = some (.agg [str c, str d].toArray)) :
    Yx P (.binOp .neq t x y t') ty ρ S (.bool (!(decide (a = c) && decide (b = d)))) := .of (fun _ h => by cases h) fun f w _ _ _ _ he _ =>
  run_binOp (he _ _ hx) (he _ _ hy) (run_eqGuard_agg _ _ _ _ _ _ _ hm) (by
    have hf : P.fieldsOf t = #[f0, f1] := by unfold Program.fieldsOf; rw [ht]
    rw [run_neq_struct, run_equalIn_struct w 9999 t _ _ (by rw [hf]; exact ht) hp, hf]
    have i0 := run_isAgg h0 w
    have i1 := run_isAgg h1 w
    simp only [aggB] at i0 i1
    have e0 : (Op.equalIn 9999 f0.type (str a) (str c)).run P w = _ := run_equalIn_string (P := P) w 9998 f0.type ⟨a.toArray⟩ ⟨c.toArray⟩ h0
    have e1 : (Op.equalIn 9999 f1.type (str b) (str d)).run P w = _ := run_equalIn_string (P := P) w 9998 f1.type ⟨b.toArray⟩ ⟨d.toArray⟩ h1
    rw [toList_inj] at e0 e1
    simp only [Op.eqFields, n0, n1, ne_eq, not_false_eq_true, if_true, part, Sem.run_bind, i0, i1, Result.andThen, o0, o1, Bool.false_eq_true, if_false, List.getElem?_toArray, List.getElem?_cons_zero, List.getElem?_cons_succ, Sem.run_pure, e0, e1]
    by_cases q0 : a = c
    · subst q0
      simp only [decide_true, Bool.not_true, Bool.false_eq_true, if_false, Sem.run_ite, Sem.run_bind, i1, Result.andThen, Sem.run_pure, e1]
      by_cases q1 : b = d <;> simp [q1]
    · simp [q0])

set_option maxHeartbeats 4000000 in
theorem first_ct (d : Nat) (nd : C) (tb : Nat) (n : Int) (fz : Nat × Nat) (lo hi : Str8) (B : Frag) (hT : B tb = some (.cells [pt nd, i64 n].toArray 72 fz)) (hR : TrB B (d + 1) nd) (hok : Ok 90 (d + 1) nd) (ho : Ord (io (d + 1) nd)) (st : Nat) (h0 : 1 ≤ st) (h9 : st ≤ 100) : CtB Try.prog 15 [.pointer (some ⟨tb, 0, none⟩), .agg [str lo, str hi].toArray, i64 (st : Nat)] B (fun v _ => v = i64 ((min st (inS lo hi (io (d + 1) nd)).length : Nat) : Int)) := by
  refine CtB.of_bodyM Try.func15 rfl (nt := 19) rfl (by kernel_rfl) rfl ?_
  intro N0 w0 R
  refine Cx.seq (fun K1 k1 => ?_)
  refine Cx.region ?_
  refine Lx.new (boxA rfl) rfl (fun b4 => ?_)
  refine Lx.new (boxO rfl rfl) rfl (fun b5 => ?_)
  refine Lx.y (asg rfl) rfl ?_
  refine Lx.nil ?_
  refine Xx.tn (k1 _ _ _ _ ?_)
  refine Cx.seq (fun K2 k2 => ?_)
  refine Cx.region ?_
  refine Lx.new (allocO ti3) rfl (fun b7 => ?_)
  refine Lx.st (stO Try.underlying3 sz3 rfl rfl rfl (by simp) rfl) ?_
  refine Lx.nil ?_
  refine Xx.tn (k2 _ _ _ _ ?_)
  refine Cx.seq (fun K3 k3 => ?_)
  refine Cx.seq (fun K4 k4 => ?_)
  refine Cx.region ?_
  refine Lx.y (mv rfl) rfl ?_
  refine Lx.y (ldA Try.underlying24 rfl sz24 rfl (Cells.own (n := 2) PickB.eq rfl) rfl) rfl ?_
  refine Lx.cb rfl rfl rfl (Range_ct (some ⟨tb, 0, none⟩) lo hi _) rfl ?_
  rintro v6 B6 ⟨b1, b2, rfl, hb1, hb2⟩ hB6
  refine Lx.nil ?_
  refine Xx.tn (k4 _ _ _ _ ?_)
  refine Cx.block ?_
  refine Cx.rangeK (σ := _) (Sub.cons (s := 5) rfl (Sub.cons (s := 7) rfl (Sub.nil _))) rfl rfl (Range_it d nd tb n fz lo hi B6 (hB6 _ _ hT) (hR.mono hB6) hok ho b1 b2 hb1 hb2) (show _ = 1 * ((row b7 3 [i64 0] * row b5 3 [i64 ((st : Nat) : Int)]) * (row b4 24 [str lo, str hi] * R)) by rw [one_star]; ac_rfl) rfl (fun _ => rfl) (fun pre B' H' => H' = row b7 3 [i64 ((pre.length : Nat) : Int)] * row b5 3 [i64 ((st : Nat) : Int)] ∧ pre.length < st) (fun cd pre B' H' => cd = .exit 0 ∧ pre.length = st ∧ H' = row b7 3 [i64 ((pre.length : Nat) : Int)] * row b5 3 [i64 ((st : Nat) : Int)]) (fun pre x B1 ρ' B' H' => ρ' = [] ∧ B' = B1 ∧ H' = row b7 3 [i64 ((pre.length : Nat) : Int)] * row b5 3 [i64 ((st : Nat) : Int)] ∧ pre.length < st) (⟨rfl, by show 0 < st; omega⟩) ?_ ?_ ?_ ?_
  · rintro lz Nz wz pre x post B1 H1 F K hxs hB1 hJ hK
    obtain ⟨rfl, hlt⟩ := hJ
    refine Cx.skip ?_
    refine Xx.tn ?_
    exact Xx.sub (hK _ _ _ ⟨rfl, rfl, rfl, hlt⟩ (Frag.le_refl _)) (Sub.cons (s := 5) rfl (Sub.cons (s := 7) rfl (Sub.nil _)))
  · rintro lz Nz wz pre x post B1 F ρ' B' H' hxs hB1 hBx hAS
    obtain ⟨rfl, rfl, rfl, hlt⟩ := hAS
    simp only [star_assoc]
    refine Cx.block ?_
    refine Cx.seq (fun K6 k6 => ?_)
    refine Cx.region ?_
    refine Lx.y (ld Try.underlying3 rfl rfl rfl) rfl ?_
    refine Lx.y (Yx.val (add rfl rfl (by first | exact wrap64 (by omega) (by omega) | rfl)) (show _ = i64 ((pre.length + 1 : Nat) : Int) from rfl)) rfl ?_
    refine Lx.st (stO Try.underlying3 sz3 rfl rfl rfl (by simp) rfl) ?_
    refine Lx.nil ?_
    refine Xx.tn (k6 _ _ _ _ ?_)
    refine Cx.seq (fun K7 k7 => ?_)
    refine Cx.region ?_
    refine Lx.y (ld Try.underlying3 rfl rfl rfl) rfl ?_
    refine Lx.y (ld Try.underlying3 rfl rfl rfl) rfl ?_
    refine Lx.y (geq rfl rfl) rfl ?_
    refine Lx.nil ?_
    refine Xx.tn (k7 _ _ _ _ ?_)
    refine Cx.condD rfl (fun h8 => ?_) (fun h8 => ?_)
    · skip
      have hge := h8
      refine Cx.exit ?_
      refine Xx.bm rfl ?_
      exact Xx.rqe ⟨rfl, by rw [List.length_append]; simp; omega, by rw [List.length_append]⟩ hBx (by ac_rfl)
    · skip
      have hge := h8
      refine Cx.skip ?_
      refine Xx.bn ?_
      exact Xx.rqn ⟨by rw [List.length_append], by rw [List.length_append]; simp; omega⟩ hBx (by ac_rfl)
  · rintro D B' H' hBx hJ
    obtain ⟨rfl, hlt⟩ := hJ
    rw [one_star]
    simp only [star_assoc]
    generalize hpre : (inS lo hi (io (d + 1) nd)) = pre at *
    have hmin : min st pre.length = pre.length := by omega
    refine Xx.bn ?_
    refine Xx.tn (k3 _ _ _ _ ?_)
    refine Cx.seq (fun K9 k9 => ?_)
    refine Cx.region ?_
    refine Lx.y (ld Try.underlying3 rfl rfl rfl) rfl ?_
    refine Lx.y (asg rfl) rfl ?_
    refine Lx.nil ?_
    refine Xx.tn (k9 _ _ _ _ ?_)
    refine Cx.ret ?_
    refine Xx.dropB b7 (Xx.dropB b5 (Xx.dropB b4 ?_))
    exact Xx.rBM (Ds := [D]) (res1 rfl rfl) (by rw [hmin]) (Frag.le_trans hB6 hBx) (by rw [marks_cons, marks_nil, star_one])
  · rintro D c pre post B' H' hxs hBx hJx
    obtain ⟨rfl, hlt, rfl⟩ := hJx
    rw [one_star]
    simp only [star_assoc]
    have hmin : min st (inS lo hi (io (d + 1) nd)).length = pre.length := by rw [hxs, List.length_append]; omega
    refine Cx.exit ?_
    refine Xx.bh ?_
    refine Xx.tn (k3 _ _ _ _ ?_)
    refine Cx.seq (fun K10 k10 => ?_)
    refine Cx.region ?_
    refine Lx.y (ld Try.underlying3 rfl rfl rfl) rfl ?_
    refine Lx.y (asg rfl) rfl ?_
    refine Lx.nil ?_
    refine Xx.tn (k10 _ _ _ _ ?_)
    refine Cx.ret ?_
    refine Xx.dropB b7 (Xx.dropB b5 (Xx.dropB b4 ?_))
    exact Xx.rBM (Ds := [D]) (res1 rfl rfl) (by rw [hmin]) (Frag.le_trans hB6 hBx) (by rw [marks_cons, marks_nil, star_one])

set_option maxHeartbeats 4000000 in
theorem same_ct (d : Nat) (nd : C) (tb : Nat) (n : Int) (fz : Nat × Nat) (lo hi : Str8) (B : Frag) (hT : B tb = some (.cells [pt nd, i64 n].toArray 72 fz)) (hR : TrB B (d + 1) nd) (hok : Ok 90 (d + 1) nd) (ho : Ord (io (d + 1) nd)) (A : Option Addr) (cc : Nat) (hA : RoS B 2 A (inS lo hi (io (d + 1) nd)).length (flatP (inS lo hi (io (d + 1) nd)))) (hxl : (inS lo hi (io (d + 1) nd)).length ≤ 100) : CtB Try.prog 16 [.pointer (some ⟨tb, 0, none⟩), .agg [str lo, str hi].toArray, .slice A (inS lo hi (io (d + 1) nd)).length cc] B (fun v _ => v = .bool true) := by
  refine CtB.of_bodyM Try.func16 rfl (nt := 35) rfl (by kernel_rfl) rfl ?_
  intro N0 w0 R
  refine Cx.seq (fun K1 k1 => ?_)
  refine Cx.region ?_
  refine Lx.new (boxA rfl) rfl (fun b4 => ?_)
  refine Lx.new (boxO rfl rfl) rfl (fun b5 => ?_)
  refine Lx.new (allocO ti4) rfl (fun b6 => ?_)
  refine Lx.nil ?_
  refine Xx.tn (k1 _ _ _ _ ?_)
  refine Cx.seq (fun K2 k2 => ?_)
  refine Cx.region ?_
  refine Lx.new (allocO ti3) rfl (fun b7 => ?_)
  refine Lx.st (stO Try.underlying3 sz3 rfl rfl rfl (by simp) rfl) ?_
  refine Lx.nil ?_
  refine Xx.tn (k2 _ _ _ _ ?_)
  refine Cx.seq (fun K3 k3 => ?_)
  refine Cx.seq (fun K4 k4 => ?_)
  refine Cx.region ?_
  refine Lx.y (mv rfl) rfl ?_
  refine Lx.y (ldA Try.underlying24 rfl sz24 rfl (Cells.own (n := 2) PickB.eq rfl) rfl) rfl ?_
  refine Lx.cb rfl rfl rfl (Range_ct (some ⟨tb, 0, none⟩) lo hi _) rfl ?_
  rintro v6 B6 ⟨b1, b2, rfl, hb1, hb2⟩ hB6
  refine Lx.nil ?_
  refine Xx.tn (k4 _ _ _ _ ?_)
  refine Cx.block ?_
  refine Cx.rangeK (σ := _) (Sub.cons (s := 5) rfl (Sub.cons (s := 6) rfl (Sub.cons (s := 7) rfl (Sub.nil _)))) rfl rfl (Range_it d nd tb n fz lo hi B6 (hB6 _ _ hT) (hR.mono hB6) hok ho b1 b2 hb1 hb2) (show _ = 1 * ((row b7 3 [i64 0] * (row b5 28 [.slice A (inS lo hi (io (d + 1) nd)).length cc] * row b6 4 [.bool false])) * (row b4 24 [str lo, str hi] * R)) by rw [one_star]; ac_rfl) rfl (fun _ => rfl) (fun pre B' H' => H' = row b7 3 [i64 ((pre.length : Nat) : Int)] * (row b5 28 [.slice A (inS lo hi (io (d + 1) nd)).length cc] * row b6 4 [.bool false])) (fun _ _ _ _ => False) (fun pre x B1 ρ' B' H' => ρ' = [(8, str x.1), (9, str x.2)] ∧ B' = B1 ∧ H' = row b7 3 [i64 ((pre.length : Nat) : Int)] * (row b5 28 [.slice A (inS lo hi (io (d + 1) nd)).length cc] * row b6 4 [.bool false])) (rfl) ?_ ?_ ?_ ?_
  · rintro lz Nz wz pre x post B1 H1 F K hxs hB1 hJ hK
    subst hJ
    refine Cx.seq (fun K6 k6 => ?_)
    refine Cx.region ?_
    refine Lx.y (asg rfl) rfl ?_
    refine Lx.nil ?_
    refine Xx.tn (k6 _ _ _ _ ?_)
    refine Cx.region ?_
    refine Lx.y (asg rfl) rfl ?_
    refine Lx.nil ?_
    refine Xx.tn ?_
    exact Xx.sub (hK _ _ _ ⟨rfl, rfl, rfl⟩ (Frag.le_refl _)) (Sub.cons (s := 8) rfl (Sub.cons (s := 9) rfl (Sub.cons (s := 5) rfl (Sub.cons (s := 6) rfl (Sub.cons (s := 7) rfl (Sub.nil _))))))
  · rintro lz Nz wz pre x post B1 F ρ' B' H' hxs hB1 hBx hAS
    obtain ⟨rfl, rfl, rfl⟩ := hAS
    simp only [star_assoc]
    have hlen : pre.length < (inS lo hi (io (d + 1) nd)).length := by rw [hxs]; simp
    obtain ⟨bq, oq, csq, etq, fzq, hAq, hBq, hcq⟩ := pairs_at ((hA.mono hB6).mono (Frag.le_trans hB1 hBx)) rfl hlen
    have hget : (inS lo hi (io (d + 1) nd))[pre.length] = x := by simp [hxs]
    rw [hget] at hcq
    subst hAq
    refine Cx.block ?_
    refine Cx.seq (fun K7 k7 => ?_)
    refine Cx.seq (fun K8 k8 => ?_)
    refine Cx.region ?_
    refine Lx.y (ld Try.underlying3 rfl rfl rfl) rfl ?_
    refine Lx.y (ld Try.underlying28 rfl rfl rfl) rfl ?_
    refine Lx.y (lenV (ty' := 0) Try.underlying28 rfl) rfl ?_
    refine Lx.y (Yx.ff (geq rfl rfl) (decide_eq_false (by omega))) rfl ?_
    refine Lx.y (mv rfl) rfl ?_
    refine Lx.gT rfl rfl rfl ?_
    refine Lx.y (ld Try.underlying28 rfl rfl rfl) rfl ?_
    refine Lx.gT rfl rfl rfl ?_
    refine Lx.y (ld Try.underlying3 rfl rfl rfl) rfl ?_
    refine Lx.gT rfl rfl rfl ?_
    refine Lx.y (ia Try.underlying28 sz77 rfl rfl (by first | exact Int.toNat_natCast _ | rfl) (by omega) (by omega)) rfl ?_
    refine Lx.gT rfl rfl rfl ?_
    refine Lx.y (ldA Try.underlying77 rfl sz77 rfl (Cells.base (n := 2) hBq hcq) rfl) rfl ?_
    refine Lx.gT rfl rfl rfl ?_
    refine Lx.y (mv rfl) rfl ?_
    refine Lx.gT rfl rfl rfl ?_
    refine Lx.y (mv rfl) rfl ?_
    refine Lx.gT rfl rfl rfl ?_
    refine Lx.y (bld ti77 pl77 rfl rfl) rfl ?_
    refine Lx.gT rfl rfl rfl ?_
    refine Lx.y (Yx.ff (neSS Try.underlying77 Try.underlying9 Try.underlying9 (by decide) (by decide) rfl rfl (by kernel_rfl) (by kernel_rfl) rfl rfl) (by simp)) rfl ?_
    refine Lx.y (pickF rfl rfl) rfl ?_
    refine Lx.nil ?_
    refine Xx.tn (k8 _ _ _ _ ?_)
    refine Cx.condF rfl ?_
    refine Cx.skip ?_
    refine Xx.tn (k7 _ _ _ _ ?_)
    refine Cx.region ?_
    refine Lx.y (ld Try.underlying3 rfl rfl rfl) rfl ?_
    refine Lx.y (Yx.val (add rfl rfl (by first | exact wrap64 (by omega) (by omega) | rfl)) (show _ = i64 ((pre.length + 1 : Nat) : Int) from rfl)) rfl ?_
    refine Lx.st (stO Try.underlying3 sz3 rfl rfl rfl (by simp) rfl) ?_
    refine Lx.nil ?_
    refine Xx.bn ?_
    exact Xx.rqn (by rw [List.length_append]) hBx (by ac_rfl)
  · rintro D B' H' hBx hJ
    subst hJ
    rw [one_star]
    simp only [star_assoc]
    refine Xx.bn ?_
    refine Xx.tn (k3 _ _ _ _ ?_)
    refine Cx.seq (fun K9 k9 => ?_)
    refine Cx.region ?_
    refine Lx.y (ld Try.underlying3 rfl rfl rfl) rfl ?_
    refine Lx.y (ld Try.underlying28 rfl rfl rfl) rfl ?_
    refine Lx.y (lenV (ty' := 0) Try.underlying28 rfl) rfl ?_
    refine Lx.y (Yx.tt (eqI rfl rfl) (decide_eq_true rfl)) rfl ?_
    refine Lx.st (stO Try.underlying4 sz4 rfl rfl rfl (by simp) rfl) ?_
    refine Lx.nil ?_
    refine Xx.tn (k9 _ _ _ _ ?_)
    refine Cx.ret ?_
    refine Xx.dropB b7 (Xx.dropB b5 (Xx.dropB b4 ?_))
    exact Xx.rBMc (Ds := [D]) (G := row b6 4 [.bool true]) (resC1 rfl Try.underlying4 rfl rfl) rfl (Frag.le_trans hB6 hBx) (by rw [marks_cons, marks_nil, star_one]; ac_rfl)
  · rintro D c pre post B' H' hxs hBx hJx
    exact hJx.elim
end BtT
end Go.Proofs.Ytcoiejmlpinpbaa
