/-
  Values: names that may be, values that may be.
-/
import Derived.Test.YtfnfkoldifpmhaaDoorProg
import Derived.Test.YtfnfkoldifpmhaaDoorSlj
import Derived.Test.YtfnfkoldifpmhaaDoorKe6
namespace Go.Proofs.YtfnfkoldifpmhaaDoor
open Go.SL Go.RowKit
set_option linter.unusedVariables false
set_option linter.unusedSimpArgs false
set_option maxRecDepth 100000
open Ke1 Ke3 Ke4 Ke5 Ke6
namespace Ke7
theorem sz9 : (Tryd.prog.info? 9).map (·.size) = some 1 := by kernel_rfl
theorem fo26_0 : FO Tryd.prog 26 0 0 1 false := FO.of Tryd.underlying26 rfl rfl (by kernel_rfl) Tryd.underlying3 rfl rfl
theorem fo26_4 : FO Tryd.prog 26 4 4 1 false := FO.of Tryd.underlying26 rfl rfl (by kernel_rfl) Tryd.underlying23 rfl rfl
theorem fo26_5 : FO Tryd.prog 26 5 5 1 false := FO.of Tryd.underlying26 rfl rfl (by kernel_rfl) Tryd.underlying24 rfl rfl

theorem get_map {xs : List (List UInt8)} {i : Nat} (h : i < xs.length) : (xs.map str)[i]? = some (str (xs.getD i [])) := by
  simp [List.getD, h]
theorem get_mem {xs : List (List UInt8)} {i : Nat} (h : i < xs.length) : xs.getD i [] ∈ xs := by
  have : xs.getD i [] = xs[i] := by simp [List.getD, h]
  rw [this]; exact List.getElem_mem h
def nOk (ns : List (List UInt8)) (i : Nat) : Prop := NameP (ns.getD i []) ∧ (0 < i → bless (ns.getD (i - 1) []) (ns.getD i []) = true)
def NamesP (v : V) : Prop := (∀ i, i < v.names.length → nOk v.names i) ∧ (v.kind = 6 → v.names.length = v.parts.length)
noncomputable def namesB (v : V) : Bool := @decide (NamesP v) (Classical.propDecidable _)
theorem namesB_yes {v : V} (h : NamesP v) : namesB v = true := by unfold namesB; exact @decide_eq_true _ (Classical.propDecidable _) h
theorem namesB_no {v : V} (h : ¬ NamesP v) : namesB v = false := by unfold namesB; exact @decide_eq_false _ (Classical.propDecidable _) h
theorem nameB_iff {s : List UInt8} : nameB s = true ↔ NameP s := by
  unfold nameB; exact @decide_eq_true_iff _ (Classical.propDecidable _)
theorem namesB_len {v : V} (h : ∀ i, i < v.names.length → nOk v.names i) : decide (((v.names.length : Nat) : Int) = ((v.parts.length : Nat) : Int)) = true ∨ v.kind ≠ 6 → namesB v = true := by
  intro h1
  refine namesB_yes ⟨h, fun h2 => ?_⟩
  rcases h1 with h1 | h1
  · have := of_decide_eq_true h1; omega
  · exact absurd h2 h1
theorem namesB_six {v : V} (h : ∀ i, i < v.names.length → nOk v.names i) (hk : v.kind = 6) : decide (((v.names.length : Nat) : Int) = ((v.parts.length : Nat) : Int)) = namesB v := by
  by_cases e : v.names.length = v.parts.length
  · rw [namesB_yes ⟨h, fun _ => e⟩, decide_eq_true (by omega)]
  · rw [namesB_no (fun z => e (z.2 hk)), decide_eq_false (by omega)]

set_option maxHeartbeats 1000000 in
theorem names_ct (v : V) (Ap : Option Addr) (cp : Nat) (An : Option Addr) (cn : Nat) (B : Frag) (hro : RoE B An v.names.length (v.names.map str)) (hsz : ∀ x ∈ v.names, x.length ≤ 4611686018427387904) (hln : v.names.length ≤ 4611686018427387904) : CtP Tryd.prog 60 [.agg (vcs v Ap cp An cn).toArray] B (.bool (namesB v)) := by
  refine CtB.of_body Tryd.func60 rfl (nt := 43) rfl (by kernel_rfl) rfl ?_
  intro N0 w0 R
  refine Cx.seq (fun K1 k1 => ?_)
  refine Cx.region ?_
  refine Lx.new (boxA rfl) rfl (fun b1 => ?_)
  refine Lx.y (asg rfl) rfl ?_
  refine Lx.nil ?_
  refine Xx.tn (k1 _ _ _ _ ?_)
  refine Cx.seq (fun K2 k2 => ?_)
  refine Cx.seq (fun K3 k3 => ?_)
  refine Cx.region ?_
  refine Lx.y (fa' fo26_5 rfl) rfl ?_
  refine Lx.y (ld Tryd.underlying24 rfl rfl rfl) rfl ?_
  refine Lx.y (lenV (ty' := 0) Tryd.underlying24 rfl) rfl ?_
  refine Lx.y (mv rfl) rfl ?_
  refine Lx.nil ?_
  refine Xx.tn (k3 _ _ _ _ ?_)
  refine Cx.block ?_
  refine Cx.loopK (Sub.cons (s := 0) rfl (Sub.cons (s := 1) rfl (Sub.cons (s := 5) rfl (Sub.cons (s := 6) rfl (Sub.cons (s := 7) rfl (Sub.nil _)))))) (fun m ρ' B' H' => ∃ (i : Nat), (i ≤ v.names.length ∧ ∀ k, k < i → nOk v.names k) ∧ m = v.names.length - i ∧ ρ' = [(8, i64 i)] ∧ B = B' ∧ row b1 26 (vcs v Ap cp An cn) * R = H') ⟨0, ⟨by omega, fun k h => absurd h (by omega)⟩, rfl, rfl, rfl, rfl⟩ (Sub.cons (s := 8) rfl (Sub.cons (s := 0) rfl (Sub.cons (s := 1) rfl (Sub.cons (s := 5) rfl (Sub.cons (s := 6) rfl (Sub.cons (s := 7) rfl (Sub.nil _))))))) ?_
  rintro m ρ' B' H' ⟨i, ⟨hi, hall⟩, rfl, rfl, rfl, rfl⟩
  refine Cx.seq (fun K4 k4 => ?_)
  refine Cx.region ?_
  refine Lx.y (lss rfl rfl) rfl ?_
  refine Lx.nil ?_
  refine Xx.tn (k4 _ _ _ _ ?_)
  refine Cx.seq (fun K5 k5 => ?_)
  refine Cx.condD rfl (fun h6 => ?_) (fun h6 => ?_)
  · skip
    refine Cx.skip ?_
    refine Xx.tn (k5 _ _ _ _ ?_)
    refine Cx.seq (fun K7 k7 => ?_)
    refine Cx.block ?_
    refine Cx.seq (fun K8 k8 => ?_)
    have hil : i < v.names.length := by omega
    obtain ⟨bq, oq, cq, eq, fq, rfl, hBq, hcq⟩ := hro.at1 (k := i) hil
    rw [get_map hil] at hcq
    refine Cx.region ?_
    refine Lx.y (mv rfl) rfl ?_
    refine Lx.y (ia Tryd.underlying24 sz9 rfl rfl (by first | exact Int.toNat_natCast _ | rfl) (by omega) (by omega)) rfl ?_
    refine Lx.y (ldB Tryd.underlying9 rfl rfl hBq hcq) rfl ?_
    refine Lx.y (asg rfl) rfl ?_
    refine Lx.y (asg rfl) rfl ?_
    refine Lx.nil ?_
    refine Xx.tn (k8 _ _ _ _ ?_)
    refine Cx.seq (fun K9 k9 => ?_)
    refine Cx.region ?_
    refine Lx.y (mv rfl) rfl ?_
    refine Lx.cp rfl rfl rfl (Name_ct _ _ (hsz _ (get_mem hil))) rfl ?_
    refine Lx.y (not' rfl) rfl ?_
    refine Lx.y (mv rfl) rfl ?_
    refine Xx.ifB (t := 16) rfl (fun h10 => ?_) (fun h10 => ?_)
    · skip
      have hno : ¬ nOk v.names i := fun z => by have := nameB_iff.2 z.1; rw [this] at h10; cases h10
      refine Lx.gF rfl rfl rfl rfl ?_
      refine Lx.gF rfl rfl rfl rfl ?_
      refine Lx.gF rfl rfl rfl rfl ?_
      refine Lx.gU rfl rfl rfl rfl ?_
      refine Lx.gU rfl rfl rfl rfl ?_
      refine Lx.gU rfl rfl rfl rfl ?_
      refine Lx.gU rfl rfl rfl rfl ?_
      refine Lx.gU rfl rfl rfl rfl ?_
      refine Lx.gU rfl rfl rfl rfl ?_
      refine Lx.gU rfl rfl rfl rfl ?_
      refine Lx.gU rfl rfl rfl rfl ?_
      refine Lx.gF rfl rfl rfl rfl ?_
      refine Lx.y (pickT rfl rfl) rfl ?_
      refine Lx.nil ?_
      refine Xx.tn (k9 _ _ _ _ ?_)
      refine Cx.condT rfl ?_
      refine Cx.seq (fun K11 k11 => ?_)
      refine Cx.region ?_
      refine Lx.y (asg rfl) rfl ?_
      refine Lx.nil ?_
      refine Xx.tn (k11 _ _ _ _ ?_)
      refine Cx.ret ?_
      refine Xx.br ?_
      refine Xx.tr ?_
      refine Xx.tr ?_
      refine Xx.br ?_
      refine Xx.tr ?_
      first | exact Xx.dropB b1 (Xx.rB1 rfl rfl ⟨congrArg Value.bool (namesB_no (fun z => hno (z.1 i hil))).symm, rfl⟩ (Frag.le_refl _) rfl) | exact Xx.dropB b1 (Xx.rB1 rfl rfl ⟨congrArg Value.bool (namesB_len hall (.inr hk)).symm, rfl⟩ (Frag.le_refl _) rfl) | exact Xx.dropB b1 (Xx.rB1 rfl rfl ⟨congrArg Value.bool (namesB_six hall hk), rfl⟩ (Frag.le_refl _) rfl)
    · skip
      have hnm : NameP (v.names.getD i []) := nameB_iff.1 ((Bool.not_eq_false' _).mp h10)
      refine Lx.gT rfl rfl rfl ?_
      refine Lx.y (mv rfl) rfl ?_
      refine Lx.gT rfl rfl rfl ?_
      refine Lx.y (gtr rfl rfl) rfl ?_
      refine Lx.gT rfl rfl rfl ?_
      refine Lx.y (mv rfl) rfl ?_
      refine Xx.ifD (t := 19) rfl (fun h12 => ?_) (fun h12 => ?_)
      · skip
        obtain ⟨bq2, oq2, cq2, eq2, fq2, hA2, hBq2, hcq2⟩ := hro.at1 (k := i - 1) (by omega)
        rw [get_map (by omega)] at hcq2
        injection hA2 with hA2
        injection hA2 with hA3 hA4
        subst hA3 hA4
        refine Lx.gT rfl rfl rfl ?_
        refine Lx.y (fa' fo26_5 rfl) rfl ?_
        refine Lx.gT rfl rfl rfl ?_
        refine Lx.y (ld Tryd.underlying24 rfl rfl rfl) rfl ?_
        refine Lx.gT rfl rfl rfl ?_
        refine Lx.y (mv rfl) rfl ?_
        refine Lx.gT rfl rfl rfl ?_
        refine Lx.y (sub rfl rfl (show IntKind.i64.wrap _ = ((i - 1 : Nat) : Int) by rw [wrap64 (by omega) (by omega)]; omega)) rfl ?_
        refine Lx.gT rfl rfl rfl ?_
        refine Lx.y (ia Tryd.underlying24 sz9 rfl rfl (by first | exact Int.toNat_natCast _ | rfl) (by omega) (by omega)) rfl ?_
        refine Lx.gT rfl rfl rfl ?_
        refine Lx.y (ldB Tryd.underlying9 rfl rfl hBq2 hcq2) rfl ?_
        refine Lx.gT rfl rfl rfl ?_
        refine Lx.y (mv rfl) rfl ?_
        refine Lx.gT rfl rfl rfl ?_
        refine Lx.y (geqS rfl rfl) rfl ?_
        refine Lx.gT rfl rfl rfl ?_
        refine Lx.y (pickT rfl rfl) rfl ?_
        refine Lx.y (pickF rfl rfl) rfl ?_
        refine Lx.nil ?_
        refine Xx.tn (k9 _ _ _ _ ?_)
        refine Cx.condB rfl (fun h13 => ?_) (fun h13 => ?_)
        · skip
          have hno : ¬ nOk v.names i := fun z => by have := z.2 (by omega); rw [this] at h13; cases h13
          refine Cx.seq (fun K14 k14 => ?_)
          refine Cx.region ?_
          refine Lx.y (asg rfl) rfl ?_
          refine Lx.nil ?_
          refine Xx.tn (k14 _ _ _ _ ?_)
          refine Cx.ret ?_
          refine Xx.br ?_
          refine Xx.tr ?_
          refine Xx.tr ?_
          refine Xx.br ?_
          refine Xx.tr ?_
          first | exact Xx.dropB b1 (Xx.rB1 rfl rfl ⟨congrArg Value.bool (namesB_no (fun z => hno (z.1 i hil))).symm, rfl⟩ (Frag.le_refl _) rfl) | exact Xx.dropB b1 (Xx.rB1 rfl rfl ⟨congrArg Value.bool (namesB_len hall (.inr hk)).symm, rfl⟩ (Frag.le_refl _) rfl) | exact Xx.dropB b1 (Xx.rB1 rfl rfl ⟨congrArg Value.bool (namesB_six hall hk), rfl⟩ (Frag.le_refl _) rfl)
        · skip
          have hok : nOk v.names i := ⟨hnm, fun _ => (Bool.not_eq_false' _).mp h13⟩
          refine Cx.skip ?_
          refine Xx.bn ?_
          refine Xx.tn (k7 _ _ _ _ ?_)
          refine Cx.region ?_
          refine Lx.y (add rfl rfl (by first | exact wrap64 (by omega) (by omega) | rfl)) rfl ?_
          refine Lx.y (mv rfl) rfl ?_
          refine Lx.nil ?_
          exact Xx.againK ⟨i + 1, ⟨by omega, fun k hk => by
  by_cases e : k = i
  · subst e; exact hok
  · exact hall k (by omega)⟩, rfl, rfl, rfl, rfl⟩ (by omega) (Sub.cons (s := 8) rfl (Sub.cons (s := 0) rfl (Sub.cons (s := 1) rfl (Sub.cons (s := 5) rfl (Sub.cons (s := 6) rfl (Sub.cons (s := 7) rfl (Sub.nil _)))))))
      · skip
        have hok : nOk v.names i := ⟨hnm, fun z => absurd z (by omega)⟩
        refine Lx.gF rfl rfl rfl rfl ?_
        refine Lx.gF rfl rfl rfl rfl ?_
        refine Lx.gF rfl rfl rfl rfl ?_
        refine Lx.gF rfl rfl rfl rfl ?_
        refine Lx.gF rfl rfl rfl rfl ?_
        refine Lx.gF rfl rfl rfl rfl ?_
        refine Lx.gF rfl rfl rfl rfl ?_
        refine Lx.gF rfl rfl rfl rfl ?_
        refine Lx.gT rfl rfl rfl ?_
        refine Lx.y (pickF rfl rfl) rfl ?_
        refine Lx.y (pickF rfl rfl) rfl ?_
        refine Lx.nil ?_
        refine Xx.tn (k9 _ _ _ _ ?_)
        refine Cx.condF rfl ?_
        refine Cx.skip ?_
        refine Xx.bn ?_
        refine Xx.tn (k7 _ _ _ _ ?_)
        refine Cx.region ?_
        refine Lx.y (add rfl rfl (by first | exact wrap64 (by omega) (by omega) | rfl)) rfl ?_
        refine Lx.y (mv rfl) rfl ?_
        refine Lx.nil ?_
        exact Xx.againK ⟨i + 1, ⟨by omega, fun k hk => by
  by_cases e : k = i
  · subst e; exact hok
  · exact hall k (by omega)⟩, rfl, rfl, rfl, rfl⟩ (by omega) (Sub.cons (s := 8) rfl (Sub.cons (s := 0) rfl (Sub.cons (s := 1) rfl (Sub.cons (s := 5) rfl (Sub.cons (s := 6) rfl (Sub.cons (s := 7) rfl (Sub.nil _)))))))
  · skip
    obtain rfl : i = v.names.length := by omega
    refine Cx.exit ?_
    refine Xx.te ?_
    refine Xx.te ?_
    refine Xx.bh ?_
    refine Xx.tn (k2 _ _ _ _ ?_)
    refine Cx.seq (fun K15 k15 => ?_)
    refine Cx.region ?_
    refine Lx.y (fa' fo26_0 rfl) rfl ?_
    refine Lx.y (ld Tryd.underlying3 rfl rfl rfl) rfl ?_
    refine Lx.y (neI rfl rfl) rfl ?_
    refine Lx.y (mv rfl) rfl ?_
    refine Xx.ifN (t := 34) rfl (fun h16 => ?_) (fun h16 => ?_)
    · skip
      have hk := h16
      refine Lx.gF rfl rfl rfl rfl ?_
      refine Lx.gF rfl rfl rfl rfl ?_
      refine Lx.gF rfl rfl rfl rfl ?_
      refine Lx.gF rfl rfl rfl rfl ?_
      refine Lx.gF rfl rfl rfl rfl ?_
      refine Lx.gF rfl rfl rfl rfl ?_
      refine Lx.gF rfl rfl rfl rfl ?_
      refine Lx.y (pickT rfl rfl) rfl ?_
      refine Lx.y (asg rfl) rfl ?_
      refine Lx.nil ?_
      refine Xx.tn (k15 _ _ _ _ ?_)
      refine Cx.ret ?_
      first | exact Xx.dropB b1 (Xx.rB1 rfl rfl ⟨congrArg Value.bool (namesB_no (fun z => hno (z.1 i hil))).symm, rfl⟩ (Frag.le_refl _) rfl) | exact Xx.dropB b1 (Xx.rB1 rfl rfl ⟨congrArg Value.bool (namesB_len hall (.inr hk)).symm, rfl⟩ (Frag.le_refl _) rfl) | exact Xx.dropB b1 (Xx.rB1 rfl rfl ⟨congrArg Value.bool (namesB_six hall hk), rfl⟩ (Frag.le_refl _) rfl)
    · skip
      have hk := h16
      refine Lx.gT rfl rfl rfl ?_
      refine Lx.y (fa' fo26_5 rfl) rfl ?_
      refine Lx.gT rfl rfl rfl ?_
      refine Lx.y (ld Tryd.underlying24 rfl rfl rfl) rfl ?_
      refine Lx.gT rfl rfl rfl ?_
      refine Lx.y (lenV (ty' := 0) Tryd.underlying24 rfl) rfl ?_
      refine Lx.gT rfl rfl rfl ?_
      refine Lx.y (fa' fo26_4 rfl) rfl ?_
      refine Lx.gT rfl rfl rfl ?_
      refine Lx.y (ld Tryd.underlying23 rfl rfl rfl) rfl ?_
      refine Lx.gT rfl rfl rfl ?_
      refine Lx.y (lenV (ty' := 0) Tryd.underlying23 rfl) rfl ?_
      refine Lx.gT rfl rfl rfl ?_
      refine Lx.y (eqI rfl rfl) rfl ?_
      refine Lx.y (pickF rfl rfl) rfl ?_
      refine Lx.y (asg rfl) rfl ?_
      refine Lx.nil ?_
      refine Xx.tn (k15 _ _ _ _ ?_)
      refine Cx.ret ?_
      first | exact Xx.dropB b1 (Xx.rB1 rfl rfl ⟨congrArg Value.bool (namesB_no (fun z => hno (z.1 i hil))).symm, rfl⟩ (Frag.le_refl _) rfl) | exact Xx.dropB b1 (Xx.rB1 rfl rfl ⟨congrArg Value.bool (namesB_len hall (.inr hk)).symm, rfl⟩ (Frag.le_refl _) rfl) | exact Xx.dropB b1 (Xx.rB1 rfl rfl ⟨congrArg Value.bool (namesB_six hall hk), rfl⟩ (Frag.le_refl _) rfl)
end Ke7
end Go.Proofs.YtfnfkoldifpmhaaDoor
