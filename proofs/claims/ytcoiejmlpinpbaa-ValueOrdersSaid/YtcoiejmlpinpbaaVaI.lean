/-
  A struct of two names.
-/
import Derived.Test.YtcoiejmlpinpbaaProg
import Derived.Test.YtcoiejmlpinpbaaSlj
import Derived.Test.YtcoiejmlpinpbaaVaH
namespace Go.Proofs.Ytcoiejmlpinpbaa
open Go.SL Go.RowKit
set_option linter.unusedVariables false
set_option linter.unusedSimpArgs false
set_option maxRecDepth 100000
open Ke5 Ke6 Ke7 Ke8 Ke9 KeA KeB KeE KeF KeG KeH VaA VaB VaC VaD VaH
namespace VaI
theorem sz119 : (Try.prog.info? 119).map (·.size) = some 7 := by kernel_rfl
theorem fo119_0 : FO Try.prog 119 0 0 1 false := FO.of Try.underlying119 rfl rfl (by kernel_rfl) Try.underlying9 rfl rfl

def F1 : List Value := [str [98], i64 2, .bool false, i64 1, str [], .slice none 0 0, .slice none 0 0]
def F2 : List Value := [str [97], i64 3, .bool false, i64 0, str [120], .slice none 0 0, .slice none 0 0]
def VAW : V := .mk 6 false 0 [] [.mk 3 false 0 [120] [] [], .mk 2 false 1 [] [] []] [[97], [98]]

set_option maxHeartbeats 1000000 in
theorem StructF_ct (s t : List UInt8) (q1 q2 q3 q4 q5 q6 : Value) (B : Frag) : CtP Try.prog 75 [.agg [str s, q1, q2, q3, q4, q5, q6].toArray, str t] B (i64 (ordI (cmpL s t))) := by
  refine CtB.of_body Try.func75 rfl (nt := 9) rfl (by kernel_rfl) rfl ?_
  intro N0 w0 R
  refine Cx.seq (fun K1 k1 => ?_)
  refine Cx.region ?_
  refine Lx.new (boxA rfl) rfl (fun b2 => ?_)
  refine Lx.y (asg rfl) rfl ?_
  refine Lx.nil ?_
  refine Xx.tn (k1 _ _ _ _ ?_)
  refine Cx.seq (fun K2 k2 => ?_)
  refine Cx.region ?_
  refine Lx.y (fa' fo119_0 rfl) rfl ?_
  refine Lx.y (ld Try.underlying9 rfl rfl rfl) rfl ?_
  refine Lx.y (mv rfl) rfl ?_
  refine Lx.cp rfl rfl rfl (StrCompare_ct _ _ _) rfl ?_
  refine Lx.y (asg rfl) rfl ?_
  refine Lx.nil ?_
  refine Xx.tn (k2 _ _ _ _ ?_)
  refine Cx.ret ?_
  exact Xx.dropB b2 (Xx.rB1 rfl rfl ⟨rfl, rfl⟩ (Frag.le_refl _) rfl)

set_option maxHeartbeats 1000000 in
theorem BSF0_ct (t : List UInt8) (B : Frag) : CtP Try.prog 74 [.slice none 0 0, str t, .func (.func 75) #[] #[]] B (.tuple #[i64 0, .bool false]) := by
  refine CtB.of_body Try.func74 rfl (nt := 49) rfl (by kernel_rfl) rfl ?_
  intro N0 w0 R
  refine Cx.seq (fun K1 k1 => ?_)
  refine Cx.region ?_
  refine Lx.y (asg rfl) rfl ?_
  refine Lx.y (asg rfl) rfl ?_
  refine Lx.nil ?_
  refine Xx.tn (k1 _ _ _ _ ?_)
  refine Cx.seq (fun K2 k2 => ?_)
  refine Cx.region ?_
  refine Lx.y (mv rfl) rfl ?_
  refine Lx.y (lenV (ty' := 0) Try.underlying116 rfl) rfl ?_
  refine Lx.y (asg rfl) rfl ?_
  refine Lx.nil ?_
  refine Xx.tn (k2 _ _ _ _ ?_)
  refine Cx.seq (fun K3 k3 => ?_)
  refine Cx.region ?_
  refine Lx.y (mv rfl) rfl ?_
  refine Lx.y (asg rfl) rfl ?_
  refine Lx.y (asg rfl) rfl ?_
  refine Lx.nil ?_
  refine Xx.tn (k3 _ _ _ _ ?_)
  refine Cx.seq (fun K4 k4 => ?_)
  refine Cx.block ?_
  refine Cx.unroll (1) ?_
  refine Xx.rn ?_
  refine Cx.seq (fun K5 k5 => ?_)
  refine Cx.seq (fun K6 k6 => ?_)
  refine Cx.region ?_
  refine Lx.y (mv rfl) rfl ?_
  refine Lx.y (mv rfl) rfl ?_
  refine Lx.y (lss rfl rfl) rfl ?_
  refine Lx.nil ?_
  refine Xx.tn (k6 _ _ _ _ ?_)
  refine Cx.condD rfl (fun h7 => ?_) (fun h7 => ?_)
  · skip
    exact absurd h7 (by decide)
  · skip
    refine Cx.exit ?_
    refine Xx.te ?_
    refine Xx.te ?_
    refine Xx.bh ?_
    refine Xx.tn (k4 _ _ _ _ ?_)
    refine Cx.seq (fun K8 k8 => ?_)
    refine Cx.region ?_
    refine Lx.y (mv rfl) rfl ?_
    refine Lx.y (mv rfl) rfl ?_
    refine Lx.y (mv rfl) rfl ?_
    refine Lx.y (lss rfl rfl) rfl ?_
    refine Lx.y (mv rfl) rfl ?_
    refine Xx.ifD (t := 39) rfl (fun h9 => ?_) (fun h9 => ?_)
    · skip
      exact absurd h9 (by decide)
    · skip
      refine Lx.gF rfl rfl rfl rfl ?_
      refine Lx.gF rfl rfl rfl rfl ?_
      refine Lx.gF rfl rfl rfl rfl ?_
      refine Lx.gF rfl rfl rfl rfl ?_
      refine Lx.gF rfl rfl rfl rfl ?_
      refine Lx.gF rfl rfl rfl rfl ?_
      refine Lx.gF rfl rfl rfl rfl ?_
      refine Lx.gF rfl rfl rfl rfl ?_
      refine Lx.y (pickF rfl rfl) rfl ?_
      refine Lx.y (asg rfl) rfl ?_
      refine Lx.y (asg rfl) rfl ?_
      refine Lx.nil ?_
      refine Xx.tn (k8 _ _ _ _ ?_)
      refine Cx.ret ?_
      exact Xx.rB2 rfl rfl rfl ⟨rfl, rfl⟩ (Frag.le_refl _) rfl

set_option maxHeartbeats 1000000 in
theorem BSF1_ct (b c : Nat) (sp : List Value) (B : Frag) : CtC Try.prog 74 [.slice (some ⟨b, 0, none⟩) 1 c, str [97], .func (.func 75) #[] #[]] B (row b 119 (F1 ++ sp)) (.tuple #[i64 0, .bool false]) (row b 119 (F1 ++ sp)) := by
  refine Ct.of_body Try.func74 rfl (nt := 49) rfl (by kernel_rfl) rfl ?_
  intro N0 w0 R
  refine Cx.seq (fun K1 k1 => ?_)
  refine Cx.region ?_
  refine Lx.y (asg rfl) rfl ?_
  refine Lx.y (asg rfl) rfl ?_
  refine Lx.nil ?_
  refine Xx.tn (k1 _ _ _ _ ?_)
  refine Cx.seq (fun K2 k2 => ?_)
  refine Cx.region ?_
  refine Lx.y (mv rfl) rfl ?_
  refine Lx.y (lenV (ty' := 0) Try.underlying116 rfl) rfl ?_
  refine Lx.y (asg rfl) rfl ?_
  refine Lx.nil ?_
  refine Xx.tn (k2 _ _ _ _ ?_)
  refine Cx.seq (fun K3 k3 => ?_)
  refine Cx.region ?_
  refine Lx.y (mv rfl) rfl ?_
  refine Lx.y (asg rfl) rfl ?_
  refine Lx.y (asg rfl) rfl ?_
  refine Lx.nil ?_
  refine Xx.tn (k3 _ _ _ _ ?_)
  refine Cx.seq (fun K4 k4 => ?_)
  refine Cx.block ?_
  refine Cx.unroll (2) ?_
  refine Xx.rn ?_
  refine Cx.seq (fun K5 k5 => ?_)
  refine Cx.seq (fun K6 k6 => ?_)
  refine Cx.region ?_
  refine Lx.y (mv rfl) rfl ?_
  refine Lx.y (mv rfl) rfl ?_
  refine Lx.y (lss rfl rfl) rfl ?_
  refine Lx.nil ?_
  refine Xx.tn (k6 _ _ _ _ ?_)
  refine Cx.condD rfl (fun h7 => ?_) (fun h7 => ?_)
  · skip
    refine Cx.skip ?_
    refine Xx.tn (k5 _ _ _ _ ?_)
    refine Cx.block ?_
    refine Cx.seq (fun K8 k8 => ?_)
    refine Cx.region ?_
    refine Lx.y (mv rfl) rfl ?_
    refine Lx.y (mv rfl) rfl ?_
    refine Lx.y (add rfl rfl (by first | exact wrap64 (by omega) (by omega) | rfl)) rfl ?_
    refine Lx.y (Yx.val (cvW64 rfl Try.underlying3 Try.underlying112) (show _ = u64 1#64 from rfl)) rfl ?_
    refine Lx.y (Yx.val (shrW64 (c := 1) rfl rfl rfl) (show _ = u64 0#64 from rfl)) rfl ?_
    refine Lx.y (Yx.val (cvI rfl Try.underlying112 Try.underlying3 rfl) (show _ = i64 0 from rfl)) rfl ?_
    refine Lx.y (asg rfl) rfl ?_
    refine Lx.nil ?_
    refine Xx.tn (k8 _ _ _ _ ?_)
    refine Cx.seq (fun K9 k9 => ?_)
    refine Cx.region ?_
    refine Lx.y (mv rfl) rfl ?_
    refine Lx.y (mv rfl) rfl ?_
    refine Lx.y (mv rfl) rfl ?_
    refine Lx.y (ia Try.underlying116 sz119 rfl rfl (by first | exact Int.toNat_natCast _ | rfl) (by omega) (by omega)) rfl ?_
    refine Lx.y (ldA Try.underlying119 rfl sz119 rfl (Cells.own (n := 7) PickB.eq rfl) rfl) rfl ?_
    refine Lx.y (mv rfl) rfl ?_
    refine Lx.cp rfl rfl rfl (StructF_ct [98] [97] _ _ _ _ _ _ _) rfl ?_
    refine Lx.y (lss rfl rfl) rfl ?_
    refine Lx.nil ?_
    refine Xx.tn (k9 _ _ _ _ ?_)
    refine Cx.condD rfl (fun h10 => ?_) (fun h10 => ?_)
    · skip
      exact absurd h10 (by decide)
    · skip
      refine Cx.region ?_
      refine Lx.y (mv rfl) rfl ?_
      refine Lx.y (asg rfl) rfl ?_
      refine Lx.nil ?_
      refine Xx.bn ?_
      refine Xx.tn ?_
      refine Xx.rn ?_
      refine Cx.seq (fun K11 k11 => ?_)
      refine Cx.seq (fun K12 k12 => ?_)
      refine Cx.region ?_
      refine Lx.y (mv rfl) rfl ?_
      refine Lx.y (mv rfl) rfl ?_
      refine Lx.y (lss rfl rfl) rfl ?_
      refine Lx.nil ?_
      refine Xx.tn (k12 _ _ _ _ ?_)
      refine Cx.condD rfl (fun h13 => ?_) (fun h13 => ?_)
      · skip
        exact absurd h13 (by decide)
      · skip
        refine Cx.exit ?_
        refine Xx.te ?_
        refine Xx.te ?_
        refine Xx.bh ?_
        refine Xx.tn (k4 _ _ _ _ ?_)
        refine Cx.seq (fun K14 k14 => ?_)
        refine Cx.region ?_
        refine Lx.y (mv rfl) rfl ?_
        refine Lx.y (mv rfl) rfl ?_
        refine Lx.y (mv rfl) rfl ?_
        refine Lx.y (lss rfl rfl) rfl ?_
        refine Lx.y (mv rfl) rfl ?_
        refine Xx.ifD (t := 39) rfl (fun h15 => ?_) (fun h15 => ?_)
        · skip
          refine Lx.gT rfl rfl rfl ?_
          refine Lx.y (mv rfl) rfl ?_
          refine Lx.gT rfl rfl rfl ?_
          refine Lx.y (mv rfl) rfl ?_
          refine Lx.gT rfl rfl rfl ?_
          refine Lx.y (mv rfl) rfl ?_
          refine Lx.gT rfl rfl rfl ?_
          refine Lx.y (ia Try.underlying116 sz119 rfl rfl (by first | exact Int.toNat_natCast _ | rfl) (by omega) (by omega)) rfl ?_
          refine Lx.gT rfl rfl rfl ?_
          refine Lx.y (ldA Try.underlying119 rfl sz119 rfl (Cells.own (n := 7) PickB.eq rfl) rfl) rfl ?_
          refine Lx.gT rfl rfl rfl ?_
          refine Lx.y (mv rfl) rfl ?_
          refine Lx.gT rfl rfl rfl ?_
          refine Lx.cp rfl rfl rfl (StructF_ct [98] [97] _ _ _ _ _ _ _) rfl ?_
          refine Lx.gT rfl rfl rfl ?_
          refine Lx.y (Yx.ff (eqI rfl rfl) (by decide)) rfl ?_
          refine Lx.y (pickT rfl rfl) rfl ?_
          refine Lx.y (asg rfl) rfl ?_
          refine Lx.y (asg rfl) rfl ?_
          refine Lx.nil ?_
          refine Xx.tn (k14 _ _ _ _ ?_)
          refine Cx.ret ?_
          exact Xx.ret2 rfl rfl rfl ⟨rfl, rfl, rfl⟩ (Frag.le_refl _) rfl
        · skip
          exact absurd (by decide) h15
  · skip
    exact absurd (by decide) h7
end VaI
end Go.Proofs.Ytcoiejmlpinpbaa
