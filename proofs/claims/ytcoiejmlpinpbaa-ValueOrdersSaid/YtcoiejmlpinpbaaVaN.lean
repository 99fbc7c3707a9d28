/-
  A struct made, written, read, looked into.
-/
import Derived.Test.YtcoiejmlpinpbaaProg
import Derived.Test.YtcoiejmlpinpbaaSlj
import Derived.Test.YtcoiejmlpinpbaaVaJ
import Derived.Test.YtcoiejmlpinpbaaVaM
namespace Go.Proofs.Ytcoiejmlpinpbaa
open Go.SL Go.RowKit
set_option linter.unusedVariables false
set_option linter.unusedSimpArgs false
set_option maxRecDepth 100000
open Ke5 Ke6 Ke7 Ke8 Ke9 KeA KeB KeE KeF KeG KeH VaA VaB VaC VaD VaH VaI VaJ VaK VaL VaM
namespace VaN
theorem sz9 : (Try.prog.info? 9).map (·.size) = some 1 := by kernel_rfl
theorem sz46 : (Try.prog.info? 46).map (·.size) = some 6 := by kernel_rfl
theorem ti9 : TI Try.prog 9 [str []] 1 16 := TI.of (by kernel_rfl) rfl rfl
theorem ti46 : TI Try.prog 46 [.int .i64 0, .bool false, .int .i64 0, str [], .slice none 0 0, .slice none 0 0] 6 88 := TI.of (by kernel_rfl) rfl rfl
theorem fo46_0 : FO Try.prog 46 0 0 1 false := FO.of Try.underlying46 rfl rfl (by kernel_rfl) Try.underlying3 rfl rfl
theorem fo46_2 : FO Try.prog 46 2 2 1 false := FO.of Try.underlying46 rfl rfl (by kernel_rfl) Try.underlying2 rfl rfl
theorem fo46_3 : FO Try.prog 46 3 3 1 false := FO.of Try.underlying46 rfl rfl (by kernel_rfl) Try.underlying9 rfl rfl
theorem fo46_4 : FO Try.prog 46 4 4 1 false := FO.of Try.underlying46 rfl rfl (by kernel_rfl) Try.underlying44 rfl rfl
theorem fo46_5 : FO Try.prog 46 5 5 1 false := FO.of Try.underlying46 rfl rfl (by kernel_rfl) Try.underlying22 rfl rfl
theorem pl46 : PL Try.prog 46 [(0, 1), (1, 1), (2, 1), (3, 1), (4, 1), (5, 1)] := PL.of Try.underlying46 (by kernel_rfl)

theorem ValR.up {B : Frag} : ∀ {d : Nat} {v : V} {cs : List Value}, ValR B d v cs → ValR B (d + 1) v cs := by
  intro d
  induction d with
  | zero => intro v cs h; exact h.elim
  | succ d ih =>
    rintro v cs ⟨Ap, cp, An, cn, h1, h2, h3, h4, h5, h6, h7⟩
    exact ⟨Ap, cp, An, cn, h1, h2, h3, h4, h5, h6, fun i hi => let ⟨b, o, l, et, fz, xs, g1, g2, g3, g4⟩ := h7 i hi; ⟨b, o, l, et, fz, xs, g1, g2, g3, ih g4⟩⟩

theorem VAW_names : NamesP VAW := by
  refine ⟨fun i hi => ?_, fun _ => rfl⟩
  have hi2 : i < 2 := hi
  match i, hi2 with
  | 0, _ => exact ⟨⟨fun k hk => by have : k < 1 := hk; obtain rfl : k = 0 := by omega
                                   exact .inl (by decide), by decide, by decide⟩, fun z => absurd z (by decide)⟩
  | 1, _ => exact ⟨⟨fun k hk => by have : k < 1 := hk; obtain rfl : k = 0 := by omega
                                   exact .inl (by decide), by decide, by decide⟩, fun _ => rfl⟩
theorem leaf_names {k : Int} {b : Bool} {n : Int} {s : List UInt8} (h : ¬ k = 6) : namesB (.mk k b n s [] []) = true := namesB_yes ⟨fun i hi => absurd hi (by show ¬ i < 0; omega), fun z => absurd z h⟩
theorem VAW_check : checkF 9 VAW 1 = 0 := by
  refine chk6 (by decide) (by decide) (by decide) (namesB_yes VAW_names) fun k hk => ?_
  have hk2 : k < 2 := hk
  match k, hk2 with
  | 0, _ => exact chk6 (v := .mk 3 false 0 [120] [] []) (by decide) (by decide) (by decide) (leaf_names (by decide)) fun k hk => absurd hk (by show ¬ k < 0; omega)
  | 1, _ => exact chk6 (v := .mk 2 false 1 [] [] []) (by decide) (by decide) (by decide) (leaf_names (by decide)) fun k hk => absurd hk (by show ¬ k < 0; omega)
theorem VAW_len : (bytesF 9 VAW).length ≤ 1024 := by decide +kernel
theorem VAW_Check : CheckF 9 VAW = 0 := by unfold CheckF; rw [if_pos VAW_check, if_neg (by have := VAW_len; omega)]
theorem VAW_R9 {B : Frag} {cs : List Value} (h : ValR B 2 VAW cs) : ValR B 9 VAW cs := ValR.up (d := 8) (ValR.up (d := 7) (ValR.up (d := 6) (ValR.up (d := 5) (ValR.up (d := 4) (ValR.up (d := 3) (ValR.up (d := 2) h))))))
theorem VAW_rg : Rg 9 VAW := by
  refine ⟨by decide, by decide, fun p hp => ?_⟩
  have h9 : p ∈ [V.mk 3 false 0 [120] [] [], V.mk 2 false 1 [] [] []] := hp
  have : p = .mk 3 false 0 [120] [] [] ∨ p = .mk 2 false 1 [] [] [] := by simpa using h9
  rcases this with rfl | rfl
  · exact ⟨by decide, by decide, fun q hq => by cases hq⟩
  · exact ⟨by decide, by decide, fun q hq => by cases hq⟩

set_option maxHeartbeats 1000000 in
theorem nanS_ct (s : List UInt8) (B : Frag) : CtP Try.prog 105 [str s] B (.bool false) := by
  refine CtB.of_body Try.func105 rfl (nt := 6) rfl (by kernel_rfl) rfl ?_
  intro N0 w0 R
  refine Cx.seq (fun K1 k1 => ?_)
  refine Cx.region ?_
  refine Lx.y (asg rfl) rfl ?_
  refine Lx.nil ?_
  refine Xx.tn (k1 _ _ _ _ ?_)
  refine Cx.seq (fun K2 k2 => ?_)
  refine Cx.region ?_
  refine Lx.y (mv rfl) rfl ?_
  refine Lx.y (mv rfl) rfl ?_
  refine Lx.y (Yx.ff (neS rfl rfl) (by simp)) rfl ?_
  refine Lx.y (asg rfl) rfl ?_
  refine Lx.nil ?_
  refine Xx.tn (k2 _ _ _ _ ?_)
  refine Cx.ret ?_
  exact Xx.rB1 rfl rfl ⟨rfl, rfl⟩ (Frag.le_refl _) rfl

set_option maxHeartbeats 1000000 in
theorem Less_ct (s t : List UInt8) (r : Bool) (B : Frag) (h : bless s t = r) : CtP Try.prog 68 [str s, str t] B (.bool r) := by
  refine CtB.of_body Try.func68 rfl (nt := 17) rfl (by kernel_rfl) rfl ?_
  intro N0 w0 R
  refine Cx.seq (fun K1 k1 => ?_)
  refine Cx.region ?_
  refine Lx.y (asg rfl) rfl ?_
  refine Lx.nil ?_
  refine Xx.tn (k1 _ _ _ _ ?_)
  refine Cx.seq (fun K2 k2 => ?_)
  refine Cx.region ?_
  refine Lx.y (mv rfl) rfl ?_
  refine Lx.cp rfl rfl rfl (nanS_ct _ _) rfl ?_
  refine Lx.y (mv rfl) rfl ?_
  refine Lx.gF rfl rfl rfl rfl ?_
  refine Lx.gF rfl rfl rfl rfl ?_
  refine Lx.gF rfl rfl rfl rfl ?_
  refine Lx.y (pickF rfl rfl) rfl ?_
  refine Lx.y (mv rfl) rfl ?_
  refine Lx.gT rfl rfl rfl ?_
  refine Lx.y (mv rfl) rfl ?_
  refine Lx.gT rfl rfl rfl ?_
  refine Lx.y (mv rfl) rfl ?_
  refine Lx.gT rfl rfl rfl ?_
  refine Lx.y (lssS rfl rfl) rfl ?_
  refine Lx.y (pickF rfl rfl) rfl ?_
  refine Lx.y (asg rfl) rfl ?_
  refine Lx.nil ?_
  refine Xx.tn (k2 _ _ _ _ ?_)
  refine Cx.ret ?_
  exact Xx.rB1 rfl rfl ⟨congrArg Value.bool h, rfl⟩ (Frag.le_refl _) rfl

set_option maxHeartbeats 1000000 in
theorem BSa_ct (A : Option Addr) (c : Nat) (B : Frag) (hR : RoE B A 2 [str [97], str [98]]) : CtP Try.prog 37 [.slice A 2 c, str [97]] B (.tuple #[i64 0, .bool true]) := by
  obtain ⟨b, o, cs0, et0, fz0, rfl, hB0, h0⟩ := hR.at1 (k := 0) (by decide)
  obtain ⟨b9, o9, cs1, et1, fz1, e9, hB1, h1⟩ := hR.at1 (k := 1) (by decide)
  obtain ⟨rfl, rfl⟩ : b9 = b ∧ o9 = o := by injection e9 with e9; injection e9 with g1 g2; exact ⟨g1.symm, g2.symm⟩
  replace h0 : cs0[o9 + 0 * 1]? = some (str [97]) := h0
  replace h1 : cs1[o9 + 1 * 1]? = some (str [98]) := h1
  refine CtB.of_body Try.func37 rfl (nt := 54) rfl (by kernel_rfl) rfl ?_
  intro N0 w0 R
  refine Cx.seq (fun K1 k1 => ?_)
  refine Cx.region ?_
  refine Lx.y (asg rfl) rfl ?_
  refine Lx.y (asg rfl) rfl ?_
  refine Lx.nil ?_
  refine Xx.tn (k1 _ _ _ _ ?_)
  refine Cx.seq (fun K2 k2 => ?_)
  refine Cx.region ?_
  refine Lx.y (mv rfl) rfl ?_
  refine Lx.y (Yx.val (lenV (ty' := 0) Try.underlying22 rfl) (show _ = i64 2 from rfl)) rfl ?_
  refine Lx.y (asg rfl) rfl ?_
  refine Lx.nil ?_
  refine Xx.tn (k2 _ _ _ _ ?_)
  refine Cx.seq (fun K3 k3 => ?_)
  refine Cx.region ?_
  refine Lx.y (mv rfl) rfl ?_
  refine Lx.y (asg rfl) rfl ?_
  refine Lx.y (asg rfl) rfl ?_
  refine Lx.nil ?_
  refine Xx.tn (k3 _ _ _ _ ?_)
  refine Cx.seq (fun K4 k4 => ?_)
  refine Cx.block ?_
  refine Cx.unroll (3) ?_
  refine Xx.rn ?_
  refine Cx.seq (fun K5 k5 => ?_)
  refine Cx.seq (fun K6 k6 => ?_)
  refine Cx.region ?_
  refine Lx.y (mv rfl) rfl ?_
  refine Lx.y (mv rfl) rfl ?_
  refine Lx.y (Yx.tt (lss rfl rfl) (by decide)) rfl ?_
  refine Lx.nil ?_
  refine Xx.tn (k6 _ _ _ _ ?_)
  refine Cx.condT rfl ?_
  refine Cx.skip ?_
  refine Xx.tn (k5 _ _ _ _ ?_)
  refine Cx.block ?_
  refine Cx.seq (fun K7 k7 => ?_)
  refine Cx.region ?_
  refine Lx.y (mv rfl) rfl ?_
  refine Lx.y (mv rfl) rfl ?_
  refine Lx.y (Yx.val (add rfl rfl (show IntKind.i64.wrap _ = _ from rfl)) (show _ = i64 2 from rfl)) rfl ?_
  refine Lx.y (Yx.val (cvW64 rfl Try.underlying3 Try.underlying112) (show _ = u64 2#64 from rfl)) rfl ?_
  refine Lx.y (Yx.val (shrW64 (c := 1) rfl rfl rfl) (show _ = u64 1#64 from rfl)) rfl ?_
  refine Lx.y (Yx.val (cvI rfl Try.underlying112 Try.underlying3 rfl) (show _ = i64 1 from rfl)) rfl ?_
  refine Lx.y (asg rfl) rfl ?_
  refine Lx.nil ?_
  refine Xx.tn (k7 _ _ _ _ ?_)
  refine Cx.seq (fun K8 k8 => ?_)
  refine Cx.region ?_
  refine Lx.y (mv rfl) rfl ?_
  refine Lx.y (mv rfl) rfl ?_
  refine Lx.y (ia Try.underlying22 sz9 rfl rfl (show Int.toNat _ = 1 from rfl) (by decide) (by decide)) rfl ?_
  refine Lx.y (ldB Try.underlying9 rfl rfl hB1 h1) rfl ?_
  refine Lx.y (mv rfl) rfl ?_
  refine Lx.cp rfl rfl rfl (Less_ct [98] [97] _ _ rfl) rfl ?_
  refine Lx.nil ?_
  refine Xx.tn (k8 _ _ _ _ ?_)
  refine Cx.condF rfl ?_
  refine Cx.region ?_
  refine Lx.y (mv rfl) rfl ?_
  refine Lx.y (asg rfl) rfl ?_
  refine Lx.nil ?_
  refine Xx.bn ?_
  refine Xx.tn ?_
  refine Xx.rn ?_
  refine Cx.seq (fun K9 k9 => ?_)
  refine Cx.seq (fun K10 k10 => ?_)
  refine Cx.region ?_
  refine Lx.y (mv rfl) rfl ?_
  refine Lx.y (mv rfl) rfl ?_
  refine Lx.y (Yx.tt (lss rfl rfl) (by decide)) rfl ?_
  refine Lx.nil ?_
  refine Xx.tn (k10 _ _ _ _ ?_)
  refine Cx.condT rfl ?_
  refine Cx.skip ?_
  refine Xx.tn (k9 _ _ _ _ ?_)
  refine Cx.block ?_
  refine Cx.seq (fun K11 k11 => ?_)
  refine Cx.region ?_
  refine Lx.y (mv rfl) rfl ?_
  refine Lx.y (mv rfl) rfl ?_
  refine Lx.y (Yx.val (add rfl rfl (show IntKind.i64.wrap _ = _ from rfl)) (show _ = i64 1 from rfl)) rfl ?_
  refine Lx.y (Yx.val (cvW64 rfl Try.underlying3 Try.underlying112) (show _ = u64 1#64 from rfl)) rfl ?_
  refine Lx.y (Yx.val (shrW64 (c := 1) rfl rfl rfl) (show _ = u64 0#64 from rfl)) rfl ?_
  refine Lx.y (Yx.val (cvI rfl Try.underlying112 Try.underlying3 rfl) (show _ = i64 0 from rfl)) rfl ?_
  refine Lx.y (asg rfl) rfl ?_
  refine Lx.nil ?_
  refine Xx.tn (k11 _ _ _ _ ?_)
  refine Cx.seq (fun K12 k12 => ?_)
  refine Cx.region ?_
  refine Lx.y (mv rfl) rfl ?_
  refine Lx.y (mv rfl) rfl ?_
  refine Lx.y (ia Try.underlying22 sz9 rfl rfl (show Int.toNat _ = 0 from rfl) (by decide) (by decide)) rfl ?_
  refine Lx.y (ldB Try.underlying9 rfl rfl hB0 h0) rfl ?_
  refine Lx.y (mv rfl) rfl ?_
  refine Lx.cp rfl rfl rfl (Less_ct [97] [97] _ _ rfl) rfl ?_
  refine Lx.nil ?_
  refine Xx.tn (k12 _ _ _ _ ?_)
  refine Cx.condF rfl ?_
  refine Cx.region ?_
  refine Lx.y (mv rfl) rfl ?_
  refine Lx.y (asg rfl) rfl ?_
  refine Lx.nil ?_
  refine Xx.bn ?_
  refine Xx.tn ?_
  refine Xx.rn ?_
  refine Cx.seq (fun K13 k13 => ?_)
  refine Cx.seq (fun K14 k14 => ?_)
  refine Cx.region ?_
  refine Lx.y (mv rfl) rfl ?_
  refine Lx.y (mv rfl) rfl ?_
  refine Lx.y (Yx.ff (lss rfl rfl) (by decide)) rfl ?_
  refine Lx.nil ?_
  refine Xx.tn (k14 _ _ _ _ ?_)
  refine Cx.condF rfl ?_
  refine Cx.exit ?_
  refine Xx.te ?_
  refine Xx.te ?_
  refine Xx.bh ?_
  refine Xx.tn (k4 _ _ _ _ ?_)
  refine Cx.seq (fun K15 k15 => ?_)
  refine Cx.region ?_
  refine Lx.y (mv rfl) rfl ?_
  refine Lx.y (mv rfl) rfl ?_
  refine Lx.y (mv rfl) rfl ?_
  refine Lx.y (Yx.tt (lss rfl rfl) (by decide)) rfl ?_
  refine Lx.y (mv rfl) rfl ?_
  refine Lx.gT rfl rfl rfl ?_
  refine Lx.y (mv rfl) rfl ?_
  refine Lx.gT rfl rfl rfl ?_
  refine Lx.y (mv rfl) rfl ?_
  refine Lx.gT rfl rfl rfl ?_
  refine Lx.y (ia Try.underlying22 sz9 rfl rfl (show Int.toNat _ = 0 from rfl) (by decide) (by decide)) rfl ?_
  refine Lx.gT rfl rfl rfl ?_
  refine Lx.y (ldB Try.underlying9 rfl rfl hB0 h0) rfl ?_
  refine Lx.gT rfl rfl rfl ?_
  refine Lx.y (mv rfl) rfl ?_
  refine Lx.gT rfl rfl rfl ?_
  refine Lx.y (Yx.tt (eqS rfl rfl) (decide_eq_true rfl)) rfl ?_
  refine Lx.gT rfl rfl rfl ?_
  refine Lx.y (mv rfl) rfl ?_
  refine Lx.gF rfl rfl rfl rfl ?_
  refine Lx.gF rfl rfl rfl rfl ?_
  refine Lx.gF rfl rfl rfl rfl ?_
  refine Lx.gF rfl rfl rfl rfl ?_
  refine Lx.gF rfl rfl rfl rfl ?_
  refine Lx.gF rfl rfl rfl rfl ?_
  refine Lx.gU rfl rfl rfl rfl ?_
  refine Lx.gU rfl rfl rfl rfl ?_
  refine Lx.gF rfl rfl rfl rfl ?_
  refine Lx.gT rfl rfl rfl ?_
  refine Lx.y (pickT rfl rfl) rfl ?_
  refine Lx.y (pickT rfl rfl) rfl ?_
  refine Lx.y (asg rfl) rfl ?_
  refine Lx.y (asg rfl) rfl ?_
  refine Lx.nil ?_
  refine Xx.tn (k15 _ _ _ _ ?_)
  refine Cx.ret ?_
  exact Xx.rB2 rfl rfl rfl ⟨rfl, rfl⟩ (Frag.le_refl _) rfl

set_option maxHeartbeats 1000000 in
theorem BSb_ct (A : Option Addr) (c : Nat) (B : Frag) (hR : RoE B A 2 [str [97], str [98]]) : CtP Try.prog 37 [.slice A 2 c, str [98]] B (.tuple #[i64 1, .bool true]) := by
  obtain ⟨b, o, cs0, et0, fz0, rfl, hB0, h0⟩ := hR.at1 (k := 0) (by decide)
  obtain ⟨b9, o9, cs1, et1, fz1, e9, hB1, h1⟩ := hR.at1 (k := 1) (by decide)
  obtain ⟨rfl, rfl⟩ : b9 = b ∧ o9 = o := by injection e9 with e9; injection e9 with g1 g2; exact ⟨g1.symm, g2.symm⟩
  replace h0 : cs0[o9 + 0 * 1]? = some (str [97]) := h0
  replace h1 : cs1[o9 + 1 * 1]? = some (str [98]) := h1
  refine CtB.of_body Try.func37 rfl (nt := 54) rfl (by kernel_rfl) rfl ?_
  intro N0 w0 R
  refine Cx.seq (fun K1 k1 => ?_)
  refine Cx.region ?_
  refine Lx.y (asg rfl) rfl ?_
  refine Lx.y (asg rfl) rfl ?_
  refine Lx.nil ?_
  refine Xx.tn (k1 _ _ _ _ ?_)
  refine Cx.seq (fun K2 k2 => ?_)
  refine Cx.region ?_
  refine Lx.y (mv rfl) rfl ?_
  refine Lx.y (Yx.val (lenV (ty' := 0) Try.underlying22 rfl) (show _ = i64 2 from rfl)) rfl ?_
  refine Lx.y (asg rfl) rfl ?_
  refine Lx.nil ?_
  refine Xx.tn (k2 _ _ _ _ ?_)
  refine Cx.seq (fun K3 k3 => ?_)
  refine Cx.region ?_
  refine Lx.y (mv rfl) rfl ?_
  refine Lx.y (asg rfl) rfl ?_
  refine Lx.y (asg rfl) rfl ?_
  refine Lx.nil ?_
  refine Xx.tn (k3 _ _ _ _ ?_)
  refine Cx.seq (fun K4 k4 => ?_)
  refine Cx.block ?_
  refine Cx.unroll (3) ?_
  refine Xx.rn ?_
  refine Cx.seq (fun K5 k5 => ?_)
  refine Cx.seq (fun K6 k6 => ?_)
  refine Cx.region ?_
  refine Lx.y (mv rfl) rfl ?_
  refine Lx.y (mv rfl) rfl ?_
  refine Lx.y (Yx.tt (lss rfl rfl) (by decide)) rfl ?_
  refine Lx.nil ?_
  refine Xx.tn (k6 _ _ _ _ ?_)
  refine Cx.condT rfl ?_
  refine Cx.skip ?_
  refine Xx.tn (k5 _ _ _ _ ?_)
  refine Cx.block ?_
  refine Cx.seq (fun K7 k7 => ?_)
  refine Cx.region ?_
  refine Lx.y (mv rfl) rfl ?_
  refine Lx.y (mv rfl) rfl ?_
  refine Lx.y (Yx.val (add rfl rfl (show IntKind.i64.wrap _ = _ from rfl)) (show _ = i64 2 from rfl)) rfl ?_
  refine Lx.y (Yx.val (cvW64 rfl Try.underlying3 Try.underlying112) (show _ = u64 2#64 from rfl)) rfl ?_
  refine Lx.y (Yx.val (shrW64 (c := 1) rfl rfl rfl) (show _ = u64 1#64 from rfl)) rfl ?_
  refine Lx.y (Yx.val (cvI rfl Try.underlying112 Try.underlying3 rfl) (show _ = i64 1 from rfl)) rfl ?_
  refine Lx.y (asg rfl) rfl ?_
  refine Lx.nil ?_
  refine Xx.tn (k7 _ _ _ _ ?_)
  refine Cx.seq (fun K8 k8 => ?_)
  refine Cx.region ?_
  refine Lx.y (mv rfl) rfl ?_
  refine Lx.y (mv rfl) rfl ?_
  refine Lx.y (ia Try.underlying22 sz9 rfl rfl (show Int.toNat _ = 1 from rfl) (by decide) (by decide)) rfl ?_
  refine Lx.y (ldB Try.underlying9 rfl rfl hB1 h1) rfl ?_
  refine Lx.y (mv rfl) rfl ?_
  refine Lx.cp rfl rfl rfl (Less_ct [98] [98] _ _ rfl) rfl ?_
  refine Lx.nil ?_
  refine Xx.tn (k8 _ _ _ _ ?_)
  refine Cx.condF rfl ?_
  refine Cx.region ?_
  refine Lx.y (mv rfl) rfl ?_
  refine Lx.y (asg rfl) rfl ?_
  refine Lx.nil ?_
  refine Xx.bn ?_
  refine Xx.tn ?_
  refine Xx.rn ?_
  refine Cx.seq (fun K9 k9 => ?_)
  refine Cx.seq (fun K10 k10 => ?_)
  refine Cx.region ?_
  refine Lx.y (mv rfl) rfl ?_
  refine Lx.y (mv rfl) rfl ?_
  refine Lx.y (Yx.tt (lss rfl rfl) (by decide)) rfl ?_
  refine Lx.nil ?_
  refine Xx.tn (k10 _ _ _ _ ?_)
  refine Cx.condT rfl ?_
  refine Cx.skip ?_
  refine Xx.tn (k9 _ _ _ _ ?_)
  refine Cx.block ?_
  refine Cx.seq (fun K11 k11 => ?_)
  refine Cx.region ?_
  refine Lx.y (mv rfl) rfl ?_
  refine Lx.y (mv rfl) rfl ?_
  refine Lx.y (Yx.val (add rfl rfl (show IntKind.i64.wrap _ = _ from rfl)) (show _ = i64 1 from rfl)) rfl ?_
  refine Lx.y (Yx.val (cvW64 rfl Try.underlying3 Try.underlying112) (show _ = u64 1#64 from rfl)) rfl ?_
  refine Lx.y (Yx.val (shrW64 (c := 1) rfl rfl rfl) (show _ = u64 0#64 from rfl)) rfl ?_
  refine Lx.y (Yx.val (cvI rfl Try.underlying112 Try.underlying3 rfl) (show _ = i64 0 from rfl)) rfl ?_
  refine Lx.y (asg rfl) rfl ?_
  refine Lx.nil ?_
  refine Xx.tn (k11 _ _ _ _ ?_)
  refine Cx.seq (fun K12 k12 => ?_)
  refine Cx.region ?_
  refine Lx.y (mv rfl) rfl ?_
  refine Lx.y (mv rfl) rfl ?_
  refine Lx.y (ia Try.underlying22 sz9 rfl rfl (show Int.toNat _ = 0 from rfl) (by decide) (by decide)) rfl ?_
  refine Lx.y (ldB Try.underlying9 rfl rfl hB0 h0) rfl ?_
  refine Lx.y (mv rfl) rfl ?_
  refine Lx.cp rfl rfl rfl (Less_ct [97] [98] _ _ rfl) rfl ?_
  refine Lx.nil ?_
  refine Xx.tn (k12 _ _ _ _ ?_)
  refine Cx.condT rfl ?_
  refine Cx.region ?_
  refine Lx.y (mv rfl) rfl ?_
  refine Lx.y (Yx.val (add rfl rfl (show IntKind.i64.wrap _ = _ from rfl)) (show _ = i64 1 from rfl)) rfl ?_
  refine Lx.y (asg rfl) rfl ?_
  refine Lx.nil ?_
  refine Xx.bn ?_
  refine Xx.tn ?_
  refine Xx.rn ?_
  refine Cx.seq (fun K13 k13 => ?_)
  refine Cx.seq (fun K14 k14 => ?_)
  refine Cx.region ?_
  refine Lx.y (mv rfl) rfl ?_
  refine Lx.y (mv rfl) rfl ?_
  refine Lx.y (Yx.ff (lss rfl rfl) (by decide)) rfl ?_
  refine Lx.nil ?_
  refine Xx.tn (k14 _ _ _ _ ?_)
  refine Cx.condF rfl ?_
  refine Cx.exit ?_
  refine Xx.te ?_
  refine Xx.te ?_
  refine Xx.bh ?_
  refine Xx.tn (k4 _ _ _ _ ?_)
  refine Cx.seq (fun K15 k15 => ?_)
  refine Cx.region ?_
  refine Lx.y (mv rfl) rfl ?_
  refine Lx.y (mv rfl) rfl ?_
  refine Lx.y (mv rfl) rfl ?_
  refine Lx.y (Yx.tt (lss rfl rfl) (by decide)) rfl ?_
  refine Lx.y (mv rfl) rfl ?_
  refine Lx.gT rfl rfl rfl ?_
  refine Lx.y (mv rfl) rfl ?_
  refine Lx.gT rfl rfl rfl ?_
  refine Lx.y (mv rfl) rfl ?_
  refine Lx.gT rfl rfl rfl ?_
  refine Lx.y (ia Try.underlying22 sz9 rfl rfl (show Int.toNat _ = 1 from rfl) (by decide) (by decide)) rfl ?_
  refine Lx.gT rfl rfl rfl ?_
  refine Lx.y (ldB Try.underlying9 rfl rfl hB1 h1) rfl ?_
  refine Lx.gT rfl rfl rfl ?_
  refine Lx.y (mv rfl) rfl ?_
  refine Lx.gT rfl rfl rfl ?_
  refine Lx.y (Yx.tt (eqS rfl rfl) (decide_eq_true rfl)) rfl ?_
  refine Lx.gT rfl rfl rfl ?_
  refine Lx.y (mv rfl) rfl ?_
  refine Lx.gF rfl rfl rfl rfl ?_
  refine Lx.gF rfl rfl rfl rfl ?_
  refine Lx.gF rfl rfl rfl rfl ?_
  refine Lx.gF rfl rfl rfl rfl ?_
  refine Lx.gF rfl rfl rfl rfl ?_
  refine Lx.gF rfl rfl rfl rfl ?_
  refine Lx.gU rfl rfl rfl rfl ?_
  refine Lx.gU rfl rfl rfl rfl ?_
  refine Lx.gF rfl rfl rfl rfl ?_
  refine Lx.gT rfl rfl rfl ?_
  refine Lx.y (pickT rfl rfl) rfl ?_
  refine Lx.y (pickT rfl rfl) rfl ?_
  refine Lx.y (asg rfl) rfl ?_
  refine Lx.y (asg rfl) rfl ?_
  refine Lx.nil ?_
  refine Xx.tn (k15 _ _ _ _ ?_)
  refine Cx.ret ?_
  exact Xx.rB2 rfl rfl rfl ⟨rfl, rfl⟩ (Frag.le_refl _) rfl

set_option maxHeartbeats 1000000 in
theorem GetA_ct (d : Nat) (cs : List Value) (B : Frag) (h : ValR B (d + 1) VAW cs) : CtB Try.prog 46 [.agg cs.toArray, str [97]] B (fun v B' => ∃ cs', v = .agg cs'.toArray ∧ ValR B' d (.mk 3 false 0 [120] [] []) cs') := by
  obtain ⟨Ap, cp, An, cn, rfl, _, _, _, hns, _, hps⟩ := h
  obtain ⟨bq, oq, lq, eq, fq, xs, rfl, hBq, hxs, hv2⟩ := hps 0 (by decide)
  obtain ⟨Ap2, cp2, An2, cn2, rfl⟩ := ValR.shape hv2
  refine CtB.of_body Try.func46 rfl (nt := 34) rfl (by kernel_rfl) rfl ?_
  intro N0 w0 R
  refine Cx.seq (fun K1 k1 => ?_)
  refine Cx.region ?_
  refine Lx.new (boxA rfl) rfl (fun b2 => ?_)
  refine Lx.new (allocO ti46) rfl (fun b4 => ?_)
  refine Lx.nil ?_
  refine Xx.tn (k1 _ _ _ _ ?_)
  refine Cx.seq (fun K2 k2 => ?_)
  refine Cx.region ?_
  refine Lx.y (fa' fo46_5 rfl) rfl ?_
  refine Lx.y (ld Try.underlying22 rfl rfl rfl) rfl ?_
  refine Lx.y (mv rfl) rfl ?_
  refine Lx.cp rfl rfl rfl (BSa_ct An cn _ hns) rfl ?_
  refine Lx.y (mv rfl) rfl ?_
  refine Lx.y (ext rfl rfl) rfl ?_
  refine Lx.y (ext rfl rfl) rfl ?_
  refine Lx.y (asg rfl) rfl ?_
  refine Lx.y (asg rfl) rfl ?_
  refine Lx.nil ?_
  refine Xx.tn (k2 _ _ _ _ ?_)
  refine Cx.seq (fun K3 k3 => ?_)
  refine Cx.seq (fun K4 k4 => ?_)
  refine Cx.region ?_
  refine Lx.y (fa' fo46_0 rfl) rfl ?_
  refine Lx.y (ld Try.underlying3 rfl rfl rfl) rfl ?_
  refine Lx.y (Yx.ff (neI rfl rfl) (by decide)) rfl ?_
  refine Lx.y (mv rfl) rfl ?_
  refine Lx.gT rfl rfl rfl ?_
  refine Lx.y (mv rfl) rfl ?_
  refine Lx.gT rfl rfl rfl ?_
  refine Lx.y (not' rfl) rfl ?_
  refine Lx.y (pickF rfl rfl) rfl ?_
  refine Lx.y (mv rfl) rfl ?_
  refine Lx.gT rfl rfl rfl ?_
  refine Lx.y (mv rfl) rfl ?_
  refine Lx.gT rfl rfl rfl ?_
  refine Lx.y (fa' fo46_4 rfl) rfl ?_
  refine Lx.gT rfl rfl rfl ?_
  refine Lx.y (ld Try.underlying44 rfl rfl rfl) rfl ?_
  refine Lx.gT rfl rfl rfl ?_
  refine Lx.y (lenV (ty' := 0) Try.underlying44 rfl) rfl ?_
  refine Lx.gT rfl rfl rfl ?_
  refine Lx.y (Yx.ff (geq rfl rfl) (by decide)) rfl ?_
  refine Lx.y (pickF rfl rfl) rfl ?_
  refine Lx.nil ?_
  refine Xx.tn (k4 _ _ _ _ ?_)
  refine Cx.condF rfl ?_
  refine Cx.skip ?_
  refine Xx.tn (k3 _ _ _ _ ?_)
  refine Cx.seq (fun K5 k5 => ?_)
  refine Cx.region ?_
  refine Lx.y (fa' fo46_4 rfl) rfl ?_
  refine Lx.y (ld Try.underlying44 rfl rfl rfl) rfl ?_
  refine Lx.y (mv rfl) rfl ?_
  refine Lx.y (ia Try.underlying44 sz46 rfl rfl (show Int.toNat _ = 0 from rfl) (by decide) (by decide)) rfl ?_
  refine Lx.y (ldA Try.underlying46 rfl sz46 rfl (Cells.base (n := 6) hBq hxs) rfl) rfl ?_
  refine Lx.st (stA (d := .bool) sz46 rfl rfl rfl rfl (by show 0 + 6 ≤ 6; omega) rfl) ?_
  refine Lx.nil ?_
  refine Xx.tn (k5 _ _ _ _ ?_)
  refine Cx.ret ?_
  refine Xx.dropB b2 ?_
  exact Xx.rBa rfl Try.underlying46 rfl sz46 rfl rfl ⟨_, rfl, hv2⟩ (Frag.le_refl _)

set_option maxHeartbeats 1000000 in
theorem GetB_ct (d : Nat) (cs : List Value) (B : Frag) (h : ValR B (d + 1) VAW cs) : CtB Try.prog 46 [.agg cs.toArray, str [98]] B (fun v B' => ∃ cs', v = .agg cs'.toArray ∧ ValR B' d (.mk 2 false 1 [] [] []) cs') := by
  obtain ⟨Ap, cp, An, cn, rfl, _, _, _, hns, _, hps⟩ := h
  obtain ⟨bq, oq, lq, eq, fq, xs, rfl, hBq, hxs, hv2⟩ := hps 1 (by decide)
  obtain ⟨Ap2, cp2, An2, cn2, rfl⟩ := ValR.shape hv2
  refine CtB.of_body Try.func46 rfl (nt := 34) rfl (by kernel_rfl) rfl ?_
  intro N0 w0 R
  refine Cx.seq (fun K1 k1 => ?_)
  refine Cx.region ?_
  refine Lx.new (boxA rfl) rfl (fun b2 => ?_)
  refine Lx.new (allocO ti46) rfl (fun b4 => ?_)
  refine Lx.nil ?_
  refine Xx.tn (k1 _ _ _ _ ?_)
  refine Cx.seq (fun K2 k2 => ?_)
  refine Cx.region ?_
  refine Lx.y (fa' fo46_5 rfl) rfl ?_
  refine Lx.y (ld Try.underlying22 rfl rfl rfl) rfl ?_
  refine Lx.y (mv rfl) rfl ?_
  refine Lx.cp rfl rfl rfl (BSb_ct An cn _ hns) rfl ?_
  refine Lx.y (mv rfl) rfl ?_
  refine Lx.y (ext rfl rfl) rfl ?_
  refine Lx.y (ext rfl rfl) rfl ?_
  refine Lx.y (asg rfl) rfl ?_
  refine Lx.y (asg rfl) rfl ?_
  refine Lx.nil ?_
  refine Xx.tn (k2 _ _ _ _ ?_)
  refine Cx.seq (fun K3 k3 => ?_)
  refine Cx.seq (fun K4 k4 => ?_)
  refine Cx.region ?_
  refine Lx.y (fa' fo46_0 rfl) rfl ?_
  refine Lx.y (ld Try.underlying3 rfl rfl rfl) rfl ?_
  refine Lx.y (Yx.ff (neI rfl rfl) (by decide)) rfl ?_
  refine Lx.y (mv rfl) rfl ?_
  refine Lx.gT rfl rfl rfl ?_
  refine Lx.y (mv rfl) rfl ?_
  refine Lx.gT rfl rfl rfl ?_
  refine Lx.y (not' rfl) rfl ?_
  refine Lx.y (pickF rfl rfl) rfl ?_
  refine Lx.y (mv rfl) rfl ?_
  refine Lx.gT rfl rfl rfl ?_
  refine Lx.y (mv rfl) rfl ?_
  refine Lx.gT rfl rfl rfl ?_
  refine Lx.y (fa' fo46_4 rfl) rfl ?_
  refine Lx.gT rfl rfl rfl ?_
  refine Lx.y (ld Try.underlying44 rfl rfl rfl) rfl ?_
  refine Lx.gT rfl rfl rfl ?_
  refine Lx.y (lenV (ty' := 0) Try.underlying44 rfl) rfl ?_
  refine Lx.gT rfl rfl rfl ?_
  refine Lx.y (Yx.ff (geq rfl rfl) (by decide)) rfl ?_
  refine Lx.y (pickF rfl rfl) rfl ?_
  refine Lx.nil ?_
  refine Xx.tn (k4 _ _ _ _ ?_)
  refine Cx.condF rfl ?_
  refine Cx.skip ?_
  refine Xx.tn (k3 _ _ _ _ ?_)
  refine Cx.seq (fun K5 k5 => ?_)
  refine Cx.region ?_
  refine Lx.y (fa' fo46_4 rfl) rfl ?_
  refine Lx.y (ld Try.underlying44 rfl rfl rfl) rfl ?_
  refine Lx.y (mv rfl) rfl ?_
  refine Lx.y (ia Try.underlying44 sz46 rfl rfl (show Int.toNat _ = 1 from rfl) (by decide) (by decide)) rfl ?_
  refine Lx.y (ldA Try.underlying46 rfl sz46 rfl (Cells.base (n := 6) hBq hxs) rfl) rfl ?_
  refine Lx.st (stA (d := .bool) sz46 rfl rfl rfl rfl (by show 0 + 6 ≤ 6; omega) rfl) ?_
  refine Lx.nil ?_
  refine Xx.tn (k5 _ _ _ _ ?_)
  refine Cx.ret ?_
  refine Xx.dropB b2 ?_
  exact Xx.rBa rfl Try.underlying46 rfl sz46 rfl rfl ⟨_, rfl, hv2⟩ (Frag.le_refl _)

set_option maxHeartbeats 1000000 in
theorem VInt_ct (n : Int) (B : Frag) : CtP Try.prog 44 [i64 n] B (.agg [i64 2, .bool false, i64 n, str [], .slice none 0 0, .slice none 0 0].toArray) := by
  refine CtB.of_body Try.func44 rfl (nt := 5) rfl (by kernel_rfl) rfl ?_
  intro N0 w0 R
  refine Cx.seq (fun K1 k1 => ?_)
  refine Cx.region ?_
  refine Lx.new (allocO ti46) rfl (fun b => ?_)
  refine Lx.nil ?_
  refine Xx.tn (k1 _ _ _ _ ?_)
  refine Cx.seq (fun K2 k2 => ?_)
  refine Cx.region ?_
  refine Lx.y (mv rfl) rfl ?_
  refine Lx.y (bld ti46 pl46 rfl rfl) rfl ?_
  refine Lx.st (stA (d := .bool) sz46 rfl rfl rfl rfl (by show 0 + 6 ≤ 6; omega) rfl) ?_
  refine Lx.nil ?_
  refine Xx.tn (k2 _ _ _ _ ?_)
  refine Cx.ret ?_
  exact Xx.rBa rfl Try.underlying46 rfl sz46 rfl rfl ⟨rfl, rfl⟩ (Frag.le_refl _)

set_option maxHeartbeats 1000000 in
theorem VStr_ct (s : List UInt8) (B : Frag) : CtP Try.prog 45 [str s] B (.agg [i64 3, .bool false, i64 0, str s, .slice none 0 0, .slice none 0 0].toArray) := by
  refine CtB.of_body Try.func45 rfl (nt := 5) rfl (by kernel_rfl) rfl ?_
  intro N0 w0 R
  refine Cx.seq (fun K1 k1 => ?_)
  refine Cx.region ?_
  refine Lx.new (allocO ti46) rfl (fun b => ?_)
  refine Lx.nil ?_
  refine Xx.tn (k1 _ _ _ _ ?_)
  refine Cx.seq (fun K2 k2 => ?_)
  refine Cx.region ?_
  refine Lx.y (mv rfl) rfl ?_
  refine Lx.y (bld ti46 pl46 rfl rfl) rfl ?_
  refine Lx.st (stA (d := .bool) sz46 rfl rfl rfl rfl (by show 0 + 6 ≤ 6; omega) rfl) ?_
  refine Lx.nil ?_
  refine Xx.tn (k2 _ _ _ _ ?_)
  refine Cx.ret ?_
  exact Xx.rBa rfl Try.underlying46 rfl sz46 rfl rfl ⟨rfl, rfl⟩ (Frag.le_refl _)

set_option maxHeartbeats 1000000 in
theorem awake_ct (B : Frag) : CtB Try.prog 23 [] B (fun v B' => v = .bool true) := by
  refine CtB.of_body Try.func23 rfl (nt := 44) rfl (by kernel_rfl) rfl ?_
  intro N0 w0 R
  refine Cx.seq (fun K1 k1 => ?_)
  refine Cx.region ?_
  refine Lx.y (asg rfl) rfl ?_
  refine Lx.nil ?_
  refine Xx.tn (k1 _ _ _ _ ?_)
  refine Cx.seq (fun K2 k2 => ?_)
  refine Cx.region ?_
  refine Lx.bsl (bsl1 Try.underlying22 ti9 rfl rfl rfl (by decide)) rfl (fun bn => ?_)
  refine Lx.cp rfl rfl rfl (VInt_ct _ _) rfl ?_
  refine Lx.cp rfl rfl rfl (VStr_ct _ _) rfl ?_
  refine Lx.bsl (bslO Try.underlying44 ti46 rfl rfl (by simp [Value.cells]) (by decide)) rfl (fun bp => ?_)
  refine Xx.freezeB bn fun B1 hB1 hBn => ?_
  refine Xx.freezeB bp fun B2 hB2 hBp => ?_
  refine Lx.cb rfl rfl rfl (Struct_ct bn bp _ _ _ _ _ (hB2 _ _ hBn) hBp) rfl ?_
  rintro v B3 ⟨cs3, rfl, hv3⟩ hB3
  obtain ⟨Ap, cp, An, cn, rfl⟩ := ValR.shape hv3
  have hv3 := VAW_R9 hv3
  refine Lx.new (allocO ti46) rfl (fun b1 => ?_)
  refine Lx.st (stA (d := .bool) sz46 rfl rfl rfl rfl (by show 0 + 6 ≤ 6; omega) rfl) ?_
  refine Lx.nil ?_
  refine Xx.tn (k2 _ _ _ _ ?_)
  refine Cx.seq (fun K4 k4 => ?_)
  refine Cx.region ?_
  refine Lx.y (ldA Try.underlying46 rfl sz46 rfl (Cells.own (n := 6) PickB.eq rfl) rfl) rfl ?_
  refine Lx.cp rfl rfl rfl (Encode_ct 9 VAW _ _ hv3 (fun _ => Nat.le_trans VAW_len (by decide))) rfl ?_
  refine Lx.y (mv rfl) rfl ?_
  refine Lx.y (ext rfl rfl) rfl ?_
  refine Lx.y (ext rfl rfl) rfl ?_
  refine Lx.y (asg rfl) rfl ?_
  refine Lx.y (asg rfl) rfl ?_
  refine Lx.nil ?_
  refine Xx.tn (k4 _ _ _ _ ?_)
  refine Cx.seq (fun K5 k5 => ?_)
  rw [VAW_Check, if_pos rfl]
  obtain ⟨hd1, hd2⟩ := dec_to VAW_Check VAW_rg
  refine Cx.region ?_
  refine Lx.y (mv rfl) rfl ?_
  refine Lx.cb rfl rfl rfl (Decode_ct (bytesF 9 VAW) _ (Nat.le_trans VAW_len (by decide))) rfl ?_
  rintro v B4 ⟨cs4, rfl, hv4⟩ hB4
  rw [hd1]
  rw [hd2] at hv4
  obtain ⟨Ap4, cp4, An4, cn4, rfl⟩ := ValR.shape hv4
  have hv3 := ValR.mono hB4 hv3
  refine Lx.y (mv rfl) rfl ?_
  refine Lx.y (ext rfl rfl) rfl ?_
  refine Lx.y (ext rfl rfl) rfl ?_
  refine Lx.new (allocO ti46) rfl (fun b4 => ?_)
  refine Lx.st (stA (d := .bool) sz46 rfl rfl rfl rfl (by show 0 + 6 ≤ 6; omega) rfl) ?_
  refine Lx.y (asg rfl) rfl ?_
  refine Lx.nil ?_
  refine Xx.tn (k5 _ _ _ _ ?_)
  refine Cx.seq (fun K7 k7 => ?_)
  refine Cx.region ?_
  refine Lx.y (mv rfl) rfl ?_
  refine Lx.y (Yx.tt (eqI rfl rfl) (by decide)) rfl ?_
  refine Lx.y (mv rfl) rfl ?_
  refine Lx.gT rfl rfl rfl ?_
  refine Lx.y (mv rfl) rfl ?_
  refine Lx.gT rfl rfl rfl ?_
  refine Lx.y (Yx.tt (eqI rfl rfl) (by decide)) rfl ?_
  refine Lx.y (pickT rfl rfl) rfl ?_
  refine Lx.y (mv rfl) rfl ?_
  refine Lx.gT rfl rfl rfl ?_
  refine Lx.y (ldA Try.underlying46 rfl sz46 rfl (Cells.own (n := 6) PickB.eq rfl) rfl) rfl ?_
  refine Lx.gT rfl rfl rfl ?_
  refine Lx.y (ldA Try.underlying46 rfl sz46 rfl (Cells.own (n := 6) PickB.eq rfl) rfl) rfl ?_
  refine Lx.gT rfl rfl rfl ?_
  refine Lx.cp rfl rfl rfl ((show CtP _ _ _ _ (.bool true) from (decide_eq_true (cmpF_refl 9 VAW)) ▸ VSame_ct 9 _ _ 1 _ _ _ hv3 hv4 VAW_check VAW_check)) rfl ?_
  refine Lx.y (pickT rfl rfl) rfl ?_
  refine Lx.y (mv rfl) rfl ?_
  have hv3 := hv4
  refine Lx.gT rfl rfl rfl ?_
  refine Lx.y (ldA Try.underlying46 rfl sz46 rfl (Cells.own (n := 6) PickB.eq rfl) rfl) rfl ?_
  refine Lx.gT rfl rfl rfl ?_
  refine Lx.cb rfl rfl rfl (GetA_ct 8 _ _ hv3) rfl ?_
  rintro v B5 ⟨cs5, rfl, hgcs5⟩ hB5
  obtain ⟨Apx, cpx, Anx, cnx, rfl⟩ := ValR.shape hgcs5
  have hv3 := ValR.mono hB5 hv3
  refine Lx.gT rfl rfl rfl ?_
  refine Lx.y (fld1 fo46_3 rfl rfl) rfl ?_
  refine Lx.gT rfl rfl rfl ?_
  refine Lx.y (Yx.tt (eqS rfl rfl) (decide_eq_true rfl)) rfl ?_
  refine Lx.y (pickT rfl rfl) rfl ?_
  refine Lx.y (mv rfl) rfl ?_
  refine Lx.gT rfl rfl rfl ?_
  refine Lx.y (ldA Try.underlying46 rfl sz46 rfl (Cells.own (n := 6) PickB.eq rfl) rfl) rfl ?_
  refine Lx.gT rfl rfl rfl ?_
  refine Lx.cb rfl rfl rfl (GetB_ct 8 _ _ hv3) rfl ?_
  rintro v B6 ⟨cs6, rfl, hgcs6⟩ hB6
  obtain ⟨Apx, cpx, Anx, cnx, rfl⟩ := ValR.shape hgcs6
  have hv3 := ValR.mono hB6 hv3
  refine Lx.gT rfl rfl rfl ?_
  refine Lx.y (fld1 fo46_2 rfl rfl) rfl ?_
  refine Lx.gT rfl rfl rfl ?_
  refine Lx.y (Yx.tt (eqI rfl rfl) (by decide)) rfl ?_
  refine Lx.y (pickT rfl rfl) rfl ?_
  refine Lx.y (asg rfl) rfl ?_
  refine Lx.nil ?_
  refine Xx.tn (k7 _ _ _ _ ?_)
  refine Cx.ret ?_
  refine Xx.dropB b4 ?_
  refine Xx.dropB b1 ?_
  exact Xx.rB1 rfl rfl rfl (Frag.le_trans hB1 (Frag.le_trans hB2 (Frag.le_trans hB3 (Frag.le_trans hB4 (Frag.le_trans hB5 hB6))))) rfl
end VaN
end Go.Proofs.Ytcoiejmlpinpbaa
