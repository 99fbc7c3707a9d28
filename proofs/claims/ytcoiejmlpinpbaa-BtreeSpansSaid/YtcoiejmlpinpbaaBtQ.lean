/-
  Range of a tree: the function that it hands back; a nil tree; the law of nil trees.
-/
import Derived.Test.YtcoiejmlpinpbaaProg
import Derived.Test.YtcoiejmlpinpbaaSlj
import Derived.Test.YtcoiejmlpinpbaaBtP
namespace Go.Proofs.Ytcoiejmlpinpbaa
open Go.SL Go.RowKit
set_option linter.unusedVariables false
set_option linter.unusedSimpArgs false
set_option maxRecDepth 100000
open BtA BtB BtC BtD BtE BtG BtH BtI BtF BtJ BtK BtL BtM BtN BtO BtP
namespace BtQ
theorem sz3 : (Try.prog.info? 3).map (·.size) = some 1 := by kernel_rfl
theorem ti3 : TI Try.prog 3 [.int .i64 0] 1 8 := TI.of (by kernel_rfl) rfl rfl
theorem ti24 : TI Try.prog 24 [str [], str []] 2 32 := TI.of (by kernel_rfl) rfl rfl
theorem pl24 : PL Try.prog 24 [(0, 1), (1, 1)] := PL.of Try.underlying24 (by kernel_rfl)

def kv (p : Str8 × Str8) : List Value := [str p.1, str p.2]
/-- what Range hands back -/
def RgV (B : Frag) (p : Option Addr) (lo hi : Str8) (v : Value) : Prop := ∃ b1 b2, v = .func (.func 38) #[] [.pointer (some ⟨b1, 0, none⟩), .pointer (some ⟨b2, 0, none⟩)].toArray ∧ B b1 = some (.cells [.pointer p].toArray 26 (0, 0)) ∧ B b2 = some (.cells [str lo, str hi].toArray 24 (0, 0))

set_option maxHeartbeats 1000000 in
theorem Range_ct (p : Option Addr) (lo hi : Str8) (B : Frag) : CtB Try.prog 18 [.pointer p, .agg [str lo, str hi].toArray] B (fun v B' => RgV B' p lo hi v) := by
  refine CtB.of_body Try.func18 rfl (nt := 6) rfl (by kernel_rfl) rfl ?_
  intro N0 w0 R
  refine Cx.seq (fun K1 k1 => ?_)
  refine Cx.region ?_
  refine Lx.new (boxO rfl rfl) rfl (fun b1 => ?_)
  refine Lx.new (boxA rfl) rfl (fun b2 => ?_)
  refine Lx.y (asg rfl) rfl ?_
  refine Lx.nil ?_
  refine Xx.tn (k1 _ _ _ _ ?_)
  refine Cx.seq (fun K2 k2 => ?_)
  refine Cx.region ?_
  refine Lx.y (mkf rfl rfl) rfl ?_
  refine Lx.y (asg rfl) rfl ?_
  refine Lx.nil ?_
  refine Xx.tn (k2 _ _ _ _ ?_)
  refine Cx.ret ?_
  refine Xx.freezeB b1 fun B2 hB2 hb1 => ?_
  refine Xx.freezeB b2 fun B3 hB3 hb2 => ?_
  exact Xx.rB1 rfl rfl ⟨b1, b2, rfl, hB3 _ _ hb1, hb2⟩ (Frag.le_trans hB2 hB3) rfl

set_option maxHeartbeats 1000000 in
theorem RangeNil_it (lo hi : Str8) (b1 b2 : Nat) (B : Frag) (h1 : B b1 = some (.cells [.pointer none].toArray 26 (0, 0))) : It Try.prog 38 [.pointer (some ⟨b1, 0, none⟩), .pointer (some ⟨b2, 0, none⟩)] kv [] B 1 := by
  refine ⟨Go.SL.enters_of Try.func38 rfl (by kernel_rfl), fun lp J Jx hy B1 H1 hB1 hJ0 => ?_⟩
  refine Ct.of_bodyM Try.func38 rfl (nt := 28) rfl (by kernel_rfl) rfl ?_
  intro N0 w0 R
  rw [one_star]
  refine Cx.seq (fun K1 k1 => ?_)
  refine Cx.region ?_
  refine Lx.new (boxO rfl rfl) rfl (fun b3 => ?_)
  refine Lx.nil ?_
  refine Xx.tn (k1 _ _ _ _ ?_)
  refine Cx.seq (fun K2 k2 => ?_)
  refine Cx.seq (fun K3 k3 => ?_)
  refine Cx.region ?_
  refine Lx.y (ldB Try.underlying26 rfl rfl (hB1 _ _ h1) rfl) rfl ?_
  refine Lx.y (Yx.tt (eqNilP Try.underlying26 rfl rfl) rfl) rfl ?_
  refine Lx.nil ?_
  refine Xx.tn (k3 _ _ _ _ ?_)
  refine Cx.condT rfl ?_
  refine Cx.ret ?_
  refine Xx.tr ?_
  refine Xx.dropB b3 ?_
  exact Xx.rM (Ds := []) (fun a w f _ => results_none rfl _ _ _) ⟨H1, (one_star H1).symm, .inl hJ0⟩ (Frag.le_refl _) (by rw [marks_nil, one_star])

set_option maxHeartbeats 4000000 in
theorem BtreeNone_ct (k v : Str8) (B : Frag) : CtB Try.prog 4 [str k, str v] B (fun v' _ => v' = .bool true) := by
  refine CtB.of_bodyM Try.func4 rfl (nt := 53) rfl (by kernel_rfl) rfl ?_
  intro N0 w0 R
  refine Cx.seq (fun K1 k1 => ?_)
  refine Cx.region ?_
  refine Lx.y (asg rfl) rfl ?_
  refine Lx.nil ?_
  refine Xx.tn (k1 _ _ _ _ ?_)
  refine Cx.seq (fun K2 k2 => ?_)
  refine Cx.seq (fun K3 k3 => ?_)
  refine Cx.region ?_
  refine Lx.cp rfl rfl rfl (awake_ct _) rfl ?_
  refine Lx.y (not' rfl) rfl ?_
  refine Lx.nil ?_
  refine Xx.tn (k3 _ _ _ _ ?_)
  refine Cx.condF rfl ?_
  refine Cx.skip ?_
  refine Xx.tn (k2 _ _ _ _ ?_)
  refine Cx.seq (fun K4 k4 => ?_)
  refine Cx.region ?_
  refine Lx.y (asg rfl) rfl ?_
  refine Lx.nil ?_
  refine Xx.tn (k4 _ _ _ _ ?_)
  refine Cx.seq (fun K5 k5 => ?_)
  refine Cx.region ?_
  refine Lx.y (mv rfl) rfl ?_
  refine Lx.y (mv rfl) rfl ?_
  refine Lx.cp rfl rfl rfl (GetNil _ _) rfl ?_
  refine Lx.y (mv rfl) rfl ?_
  refine Lx.y (ext rfl rfl) rfl ?_
  refine Lx.y (Yx.ff (ext rfl rfl) rfl) rfl ?_
  refine Lx.y (asg rfl) rfl ?_
  refine Lx.y (asg rfl) rfl ?_
  refine Lx.nil ?_
  refine Xx.tn (k5 _ _ _ _ ?_)
  refine Cx.seq (fun K6 k6 => ?_)
  refine Cx.region ?_
  refine Lx.new (allocO ti3) rfl (fun b8 => ?_)
  refine Lx.st (stO Try.underlying3 sz3 rfl rfl rfl (by simp) rfl) ?_
  refine Lx.nil ?_
  refine Xx.tn (k6 _ _ _ _ ?_)
  refine Cx.seq (fun K7 k7 => ?_)
  refine Cx.seq (fun K8 k8 => ?_)
  refine Cx.region ?_
  refine Lx.y (mv rfl) rfl ?_
  refine Lx.y (bld ti24 pl24 rfl rfl) rfl ?_
  refine Lx.cb rfl rfl rfl (Range_ct none [] [] _) rfl ?_
  rintro v6 B6 ⟨b1, b2, rfl, hb1, hb2⟩ hB6
  refine Lx.nil ?_
  refine Xx.tn (k8 _ _ _ _ ?_)
  refine Cx.block ?_
  refine Cx.rangeK (σ := _) (Sub.cons (s := 8) rfl (Sub.nil _)) rfl rfl (RangeNil_it [] [] b1 b2 B6 hb1) (show _ = 1 * (row b8 3 [i64 0] * R) by rw [one_star]) rfl (fun _ => rfl) (fun pre B' H' => H' = row b8 3 [i64 ((pre.length : Nat) : Int)]) (fun _ _ _ _ => False) (fun pre x B1 ρ' B' H' => ρ' = [] ∧ B' = B1 ∧ H' = row b8 3 [i64 ((pre.length : Nat) : Int)]) (rfl) ?_ ?_ ?_ ?_
  · rintro lz Nz wz pre x post B1 H1 F K hxs hB1 hJ hK
    subst hJ
    refine Cx.skip ?_
    refine Xx.tn ?_
    exact Xx.sub (hK _ _ _ ⟨rfl, rfl, rfl⟩ (Frag.le_refl _)) (Sub.cons (s := 8) rfl (Sub.nil _))
  · rintro lz Nz wz pre x post B1 F ρ' B' H' hxs hB1 hBx hAS
    obtain ⟨rfl, rfl, rfl⟩ := hAS
    have hpl : pre.length ≤ 100 := by have := congrArg List.length hxs; simp at this
    refine Cx.block ?_
    refine Cx.region ?_
    refine Lx.y (ld Try.underlying3 rfl rfl rfl) rfl ?_
    refine Lx.y (Yx.val (add rfl rfl (by first | exact wrap64 (by omega) (by omega) | rfl)) (show _ = i64 ((pre.length + 1 : Nat) : Int) from rfl)) rfl ?_
    refine Lx.st (stO Try.underlying3 sz3 rfl rfl rfl (by simp) rfl) ?_
    refine Lx.nil ?_
    refine Xx.bn ?_
    exact Xx.rqn (by rw [List.length_append]; rfl) hBx rfl
  · rintro D B' H' hBx hJ
    subst hJ
    rw [one_star]
    refine Xx.bn ?_
    refine Xx.tn (k7 _ _ _ _ ?_)
    refine Cx.seq (fun K10 k10 => ?_)
    refine Cx.region ?_
    refine Lx.y (mv rfl) rfl ?_
    refine Lx.y (not' rfl) rfl ?_
    refine Lx.y (mv rfl) rfl ?_
    refine Lx.gT rfl rfl rfl ?_
    refine Lx.y (ld Try.underlying3 rfl rfl rfl) rfl ?_
    refine Lx.gT rfl rfl rfl ?_
    refine Lx.y (Yx.tt (eqI rfl rfl) rfl) rfl ?_
    refine Lx.y (pickT rfl rfl) rfl ?_
    refine Lx.y (mv rfl) rfl ?_
    refine Lx.gT rfl rfl rfl ?_
    refine Lx.y (mv rfl) rfl ?_
    refine Lx.gT rfl rfl rfl ?_
    refine Lx.y (mv rfl) rfl ?_
    refine Lx.gT rfl rfl rfl ?_
    refine Lx.y (mv rfl) rfl ?_
    refine Lx.gT rfl rfl rfl ?_
    refine Lx.cp rfl rfl rfl (PutNil _ _ _) rfl ?_
    refine Lx.gT rfl rfl rfl ?_
    refine Lx.y (not' rfl) rfl ?_
    refine Lx.y (pickT rfl rfl) rfl ?_
    refine Lx.y (mv rfl) rfl ?_
    refine Lx.gT rfl rfl rfl ?_
    refine Lx.y (mv rfl) rfl ?_
    refine Lx.gT rfl rfl rfl ?_
    refine Lx.y (mv rfl) rfl ?_
    refine Lx.gT rfl rfl rfl ?_
    refine Lx.cp rfl rfl rfl (DropNil _ _) rfl ?_
    refine Lx.gT rfl rfl rfl ?_
    refine Lx.y (not' rfl) rfl ?_
    refine Lx.y (pickT rfl rfl) rfl ?_
    refine Lx.y (mv rfl) rfl ?_
    refine Lx.gT rfl rfl rfl ?_
    refine Lx.y (mv rfl) rfl ?_
    refine Lx.gT rfl rfl rfl ?_
    refine Lx.cp rfl rfl rfl (LenNil _) rfl ?_
    refine Lx.gT rfl rfl rfl ?_
    refine Lx.y (Yx.tt (eqI rfl rfl) rfl) rfl ?_
    refine Lx.y (pickT rfl rfl) rfl ?_
    refine Lx.y (mv rfl) rfl ?_
    refine Lx.gT rfl rfl rfl ?_
    refine Lx.y (mv rfl) rfl ?_
    refine Lx.gT rfl rfl rfl ?_
    refine Lx.cp rfl rfl rfl (DeepNil _) rfl ?_
    refine Lx.gT rfl rfl rfl ?_
    refine Lx.y (Yx.tt (eqI rfl rfl) rfl) rfl ?_
    refine Lx.y (pickT rfl rfl) rfl ?_
    refine Lx.y (asg rfl) rfl ?_
    refine Lx.nil ?_
    refine Xx.tn (k10 _ _ _ _ ?_)
    refine Cx.ret ?_
    refine Xx.dropB b8 ?_
    exact Xx.rBM (Ds := [D]) (res1 rfl rfl) rfl (Frag.le_trans hB6 hBx) (by rw [marks_cons, marks_nil, star_one])
  · rintro D c pre post B' H' hxs hBx hJx
    exact hJx.elim
end BtQ
end Go.Proofs.Ytcoiejmlpinpbaa
