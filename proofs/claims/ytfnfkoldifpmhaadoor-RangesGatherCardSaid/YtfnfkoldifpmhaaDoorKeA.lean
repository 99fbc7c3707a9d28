/-
  Values: their bytes.
-/
import Derived.Test.YtfnfkoldifpmhaaDoorProg
import Derived.Test.YtfnfkoldifpmhaaDoorSlj
import Derived.Test.YtfnfkoldifpmhaaDoorKe9
namespace Go.Proofs.YtfnfkoldifpmhaaDoor
open Go.SL Go.RowKit
set_option linter.unusedVariables false
set_option linter.unusedSimpArgs false
set_option maxRecDepth 100000
open Ke1 Ke3 Ke4 Ke5 Ke6 Ke7 Ke8 Ke9
namespace KeA
theorem sz9 : (Tryd.prog.info? 9).map (·.size) = some 1 := by kernel_rfl
theorem sz26 : (Tryd.prog.info? 26).map (·.size) = some 6 := by kernel_rfl
theorem ti5 : TI Tryd.prog 5 [.int .u8 0] 1 1 := TI.of (by kernel_rfl) rfl rfl
theorem ti26 : TI Tryd.prog 26 [.int .i64 0, .bool false, .int .i64 0, str [], .slice none 0 0, .slice none 0 0] 6 88 := TI.of (by kernel_rfl) rfl rfl
theorem fo26_0 : FO Tryd.prog 26 0 0 1 false := FO.of Tryd.underlying26 rfl rfl (by kernel_rfl) Tryd.underlying3 rfl rfl
theorem fo26_1 : FO Tryd.prog 26 1 1 1 false := FO.of Tryd.underlying26 rfl rfl (by kernel_rfl) Tryd.underlying4 rfl rfl
theorem fo26_2 : FO Tryd.prog 26 2 2 1 false := FO.of Tryd.underlying26 rfl rfl (by kernel_rfl) Tryd.underlying2 rfl rfl
theorem fo26_3 : FO Tryd.prog 26 3 3 1 false := FO.of Tryd.underlying26 rfl rfl (by kernel_rfl) Tryd.underlying9 rfl rfl
theorem fo26_4 : FO Tryd.prog 26 4 4 1 false := FO.of Tryd.underlying26 rfl rfl (by kernel_rfl) Tryd.underlying23 rfl rfl
theorem fo26_5 : FO Tryd.prog 26 5 5 1 false := FO.of Tryd.underlying26 rfl rfl (by kernel_rfl) Tryd.underlying24 rfl rfl

instance : Inhabited V := ⟨.mk 0 false 0 [] [] []⟩
def txtL (s : List UInt8) : List UInt8 := uvL (BitVec.ofInt 64 (s.length : Nat)) ++ s
def intL (n : Int) : List UInt8 := uvL (BitVec.ofInt 64 n <<< 1 ^^^ BitVec.ofInt 64 (n / 9223372036854775808))
/-- what stands for part i -/
def partB (f : V → List UInt8) (v : V) (i : Nat) : List UInt8 := (if i < v.names.length then txtL (v.names.getD i []) else []) ++ f (v.parts.getD i default)
def preB (f : V → List UInt8) (v : V) (i : Nat) : List UInt8 := [toB v.kind] ++ uvL (BitVec.ofInt 64 (v.parts.length : Nat)) ++ (List.range i).flatMap (partB f v)
def bytesF : Nat → V → List UInt8
  | 0, _ => []
  | d + 1, v => if v.kind = 1 then [toB v.kind] ++ (if v.b then [1] else [0]) else if v.kind = 2 then [toB v.kind] ++ intL v.n else if v.kind = 3 ∨ v.kind = 4 then [toB v.kind] ++ txtL v.s
      else if v.kind = 5 ∨ v.kind = 6 then preB (bytesF d) v v.parts.length else [toB v.kind]
theorem getDp {l : List V} {i : Nat} (h : i < l.length) : l.getD i default = l[i] := by simp [List.getD, h]
theorem preB_succ (f : V → List UInt8) (v : V) (i : Nat) : preB f v (i + 1) = preB f v i ++ partB f v i := by
  unfold preB; rw [List.range_succ, List.flatMap_append]; simp
theorem preB_mono (f : V → List UInt8) (v : V) {i j : Nat} (h : i ≤ j) : (preB f v i).length ≤ (preB f v j).length := by
  induction j with
  | zero => have : i = 0 := by omega
            subst this; exact Nat.le_refl _
  | succ j ih =>
    by_cases e : i = j + 1
    · subst e; exact Nat.le_refl _
    · rw [preB_succ, List.length_append]; have := ih (by omega); omega

set_option maxHeartbeats 1000000 in
theorem bytes_step (d : Nat) (ih : ∀ (v : V) (cs : List Value) (B : Frag), ValR B d v cs → (bytesF d v).length ≤ 1152921504606846976 → CtP Tryd.prog 50 [.agg cs.toArray] B (str (bytesF d v))) (v : V) (cs : List Value) (B : Frag) (h : ValR B (d + 1) v cs) (hb : (bytesF (d + 1) v).length ≤ 1152921504606846976) : CtP Tryd.prog 50 [.agg cs.toArray] B (str (bytesF (d + 1) v)) := by
  obtain ⟨Ap, cp, An, cn, rfl, ⟨hsl, hn1, hn2, hcn, hcp⟩, hpl, hnl, hns, hnx, hps⟩ := h
  refine CtB.of_body Tryd.func50 rfl (nt := 72) rfl (by kernel_rfl) rfl ?_
  intro N0 w0 R
  refine Cx.seq (fun K1 k1 => ?_)
  refine Cx.region ?_
  refine Lx.new (boxA rfl) rfl (fun b1 => ?_)
  refine Lx.y (asg rfl) rfl ?_
  refine Lx.nil ?_
  refine Xx.tn (k1 _ _ _ _ ?_)
  refine Cx.seq (fun K2 k2 => ?_)
  refine Cx.region ?_
  refine Lx.y (fa' fo26_0 rfl) rfl ?_
  refine Lx.y (ld Tryd.underlying3 rfl rfl rfl) rfl ?_
  refine Lx.y (cvI rfl Tryd.underlying3 Tryd.underlying5 (wrap_u8 _)) rfl ?_
  refine Lx.bsl (bsl1 Tryd.underlying78 ti5 rfl rfl rfl (by decide)) rfl (fun b9 => ?_)
  refine Lx.y (b2sR Tryd.underlying78 Tryd.underlying5 Tryd.underlying9 rfl (u8s_cons u8s_nil) rfl) rfl ?_
  refine Lx.y (asg rfl) rfl ?_
  refine Xx.dropB b9 ?_
  refine Lx.nil ?_
  refine Xx.tn (k2 _ _ _ _ ?_)
  refine Cx.seq (fun K3 k3 => ?_)
  refine Cx.seq (fun K4 k4 => ?_)
  refine Cx.region ?_
  refine Lx.y (fa' fo26_0 rfl) rfl ?_
  refine Lx.y (ld Tryd.underlying3 rfl rfl rfl) rfl ?_
  refine Lx.nil ?_
  refine Xx.tn (k4 _ _ _ _ ?_)
  refine Cx.block ?_
  refine Cx.seq (fun K5 k5 => ?_)
  refine Cx.region ?_
  refine Lx.y (eqI rfl rfl) rfl ?_
  refine Lx.y (asg rfl) rfl ?_
  refine Lx.nil ?_
  refine Xx.tn (k5 _ _ _ _ ?_)
  refine Cx.condD rfl (fun h6 => ?_) (fun h6 => ?_)
  · skip
    have z1 := h6
    have hlb : (if v.b = true then [(1 : UInt8)] else [0]).length ≤ 1 := by split <;> simp
    refine Cx.seq (fun K7 k7 => ?_)
    refine Cx.region ?_
    refine Lx.y (mv rfl) rfl ?_
    refine Lx.y (fa' fo26_1 rfl) rfl ?_
    refine Lx.y (ld Tryd.underlying4 rfl rfl rfl) rfl ?_
    refine Lx.cp rfl rfl rfl (encBool_ct _ _) rfl ?_
    refine Lx.y (catS rfl rfl (by first | omega | (simp <;> omega))) rfl ?_
    refine Lx.y (asg rfl) rfl ?_
    refine Lx.nil ?_
    refine Xx.tn (k7 _ _ _ _ ?_)
    refine Cx.ret ?_
    refine Xx.br ?_
    refine Xx.tr ?_
    refine Xx.dropB b1 (Xx.rB1 rfl rfl ⟨congrArg str ?_, rfl⟩ (Frag.le_refl _) rfl)
    first | exact hbf.symm | (unfold bytesF; rw [if_pos z1]) | (unfold bytesF; rw [if_neg z1, if_pos z2]; rfl) | (unfold bytesF; rw [if_neg z1, if_neg z2, if_pos z3]; rfl) | (unfold bytesF; rw [if_neg z1, if_neg z2, if_neg z3, if_neg z4])
  · skip
    have z1 := h6
    refine Cx.seq (fun K8 k8 => ?_)
    refine Cx.region ?_
    refine Lx.y (eqI rfl rfl) rfl ?_
    refine Lx.y (asg rfl) rfl ?_
    refine Lx.nil ?_
    refine Xx.tn (k8 _ _ _ _ ?_)
    refine Cx.condD rfl (fun h9 => ?_) (fun h9 => ?_)
    · skip
      have z2 := h9
      have hun : (uvL (BitVec.ofInt 64 v.n <<< 1 ^^^ BitVec.ofInt 64 (v.n / 9223372036854775808))).length ≤ 11 := uvF_len 10 _
      refine Cx.seq (fun K10 k10 => ?_)
      refine Cx.region ?_
      refine Lx.y (mv rfl) rfl ?_
      refine Lx.y (fa' fo26_2 rfl) rfl ?_
      refine Lx.y (ld Tryd.underlying2 rfl rfl rfl) rfl ?_
      refine Lx.cp rfl rfl rfl (encInt_ct _ _ hn1 hn2) rfl ?_
      refine Lx.y (catS rfl rfl (by first | omega | (simp <;> omega))) rfl ?_
      refine Lx.y (asg rfl) rfl ?_
      refine Lx.nil ?_
      refine Xx.tn (k10 _ _ _ _ ?_)
      refine Cx.ret ?_
      refine Xx.br ?_
      refine Xx.tr ?_
      refine Xx.dropB b1 (Xx.rB1 rfl rfl ⟨congrArg str ?_, rfl⟩ (Frag.le_refl _) rfl)
      first | exact hbf.symm | (unfold bytesF; rw [if_pos z1]) | (unfold bytesF; rw [if_neg z1, if_pos z2]; rfl) | (unfold bytesF; rw [if_neg z1, if_neg z2, if_pos z3]; rfl) | (unfold bytesF; rw [if_neg z1, if_neg z2, if_neg z3, if_neg z4])
    · skip
      have z2 := h9
      refine Cx.cutK (ds' := []) (Sub.cons (s := 0) rfl (Sub.cons (s := 1) rfl (Sub.cons (s := 2) rfl (Sub.cons (s := 3) rfl (Sub.cons (s := 6) rfl (Sub.cons (s := 7) rfl (Sub.cons (s := 8) rfl (Sub.cons (s := 9) rfl (Sub.cons (s := 10) rfl (Sub.cons (s := 11) rfl (Sub.cons (s := 12) rfl (Sub.cons (s := 13) rfl (Sub.cons (s := 14) rfl (Sub.cons (s := 20) rfl (Sub.cons (s := 21) rfl (Sub.nil _)))))))))))))))) (fun ρ' B' H' => ρ' = [(27, .bool (decide (v.kind = 3 ∨ v.kind = 4)))] ∧ B = B' ∧ row b1 26 (vcs v Ap cp An cn) * R = H') ?_ ?_
      · skip
        refine Cx.seq (fun K11 k11 => ?_)
        refine Cx.region ?_
        refine Lx.y (eqI rfl rfl) rfl ?_
        refine Lx.y (asg rfl) rfl ?_
        refine Lx.nil ?_
        refine Xx.tn (k11 _ _ _ _ ?_)
        refine Cx.condD rfl (fun h12 => ?_) (fun h12 => ?_)
        · skip
          have z3 := h12
          have hus : (uvL (BitVec.ofInt 64 (v.s.length : Nat))).length ≤ 11 := uvF_len 10 _
          have hus2 : (uvL (BitVec.ofNat 64 v.s.length)).length ≤ 11 := uvF_len 10 _
          refine Cx.skip ?_
          exact Xx.mkK (⟨rfl, rfl, rfl⟩) (Sub.consE (s := 27) rfl (by first | exact congrArg Value.bool (decide_eq_true (by omega)).symm | exact congrArg Value.bool (decide_eq_decide.2 (by omega))) (Sub.cons (s := 0) rfl (Sub.cons (s := 1) rfl (Sub.cons (s := 2) rfl (Sub.cons (s := 3) rfl (Sub.cons (s := 6) rfl (Sub.cons (s := 7) rfl (Sub.cons (s := 8) rfl (Sub.cons (s := 9) rfl (Sub.cons (s := 10) rfl (Sub.cons (s := 11) rfl (Sub.cons (s := 12) rfl (Sub.cons (s := 13) rfl (Sub.cons (s := 14) rfl (Sub.cons (s := 20) rfl (Sub.cons (s := 21) rfl (Sub.nil _)))))))))))))))))
        · skip
          have z3 := h12
          refine Cx.region ?_
          refine Lx.y (eqI rfl rfl) rfl ?_
          refine Lx.y (asg rfl) rfl ?_
          refine Lx.nil ?_
          exact Xx.mkK (⟨rfl, rfl, rfl⟩) (Sub.consE (s := 27) rfl (by first | exact congrArg Value.bool (decide_eq_true (by omega)).symm | exact congrArg Value.bool (decide_eq_decide.2 (by omega))) (Sub.cons (s := 0) rfl (Sub.cons (s := 1) rfl (Sub.cons (s := 2) rfl (Sub.cons (s := 3) rfl (Sub.cons (s := 6) rfl (Sub.cons (s := 7) rfl (Sub.cons (s := 8) rfl (Sub.cons (s := 9) rfl (Sub.cons (s := 10) rfl (Sub.cons (s := 11) rfl (Sub.cons (s := 12) rfl (Sub.cons (s := 13) rfl (Sub.cons (s := 14) rfl (Sub.cons (s := 20) rfl (Sub.cons (s := 21) rfl (Sub.nil _)))))))))))))))))
      · rintro ρ' B' H' ⟨rfl, rfl, rfl⟩
        refine Cx.condD rfl (fun h13 => ?_) (fun h13 => ?_)
        · skip
          have z3 := h13
          have hus : (uvL (BitVec.ofInt 64 (v.s.length : Nat))).length ≤ 11 := uvF_len 10 _
          have hus2 : (uvL (BitVec.ofNat 64 v.s.length)).length ≤ 11 := uvF_len 10 _
          refine Cx.seq (fun K14 k14 => ?_)
          refine Cx.region ?_
          refine Lx.y (mv rfl) rfl ?_
          refine Lx.y (fa' fo26_3 rfl) rfl ?_
          refine Lx.y (ld Tryd.underlying9 rfl rfl rfl) rfl ?_
          refine Lx.cp rfl rfl rfl (encText_ct _ _ (by first | exact hsl | exact hnl2)) rfl ?_
          refine Lx.y (catS rfl rfl (by first | omega | (simp <;> omega))) rfl ?_
          refine Lx.y (asg rfl) rfl ?_
          refine Lx.nil ?_
          refine Xx.tn (k14 _ _ _ _ ?_)
          refine Cx.ret ?_
          refine Xx.br ?_
          refine Xx.tr ?_
          refine Xx.dropB b1 (Xx.rB1 rfl rfl ⟨congrArg str ?_, rfl⟩ (Frag.le_refl _) rfl)
          first | exact hbf.symm | (unfold bytesF; rw [if_pos z1]) | (unfold bytesF; rw [if_neg z1, if_pos z2]; rfl) | (unfold bytesF; rw [if_neg z1, if_neg z2, if_pos z3]; rfl) | (unfold bytesF; rw [if_neg z1, if_neg z2, if_neg z3, if_neg z4])
        · skip
          have z3 := h13
          refine Cx.cutK (ds' := []) (Sub.cons (s := 0) rfl (Sub.cons (s := 1) rfl (Sub.cons (s := 2) rfl (Sub.cons (s := 3) rfl (Sub.cons (s := 6) rfl (Sub.cons (s := 7) rfl (Sub.cons (s := 8) rfl (Sub.cons (s := 9) rfl (Sub.cons (s := 10) rfl (Sub.cons (s := 11) rfl (Sub.cons (s := 12) rfl (Sub.cons (s := 13) rfl (Sub.cons (s := 14) rfl (Sub.cons (s := 20) rfl (Sub.cons (s := 21) rfl (Sub.cons (s := 27) rfl (Sub.nil _))))))))))))))))) (fun ρ' B' H' => ρ' = [(35, .bool (decide (v.kind = 5 ∨ v.kind = 6)))] ∧ B = B' ∧ row b1 26 (vcs v Ap cp An cn) * R = H') ?_ ?_
          · skip
            refine Cx.seq (fun K15 k15 => ?_)
            refine Cx.region ?_
            refine Lx.y (eqI rfl rfl) rfl ?_
            refine Lx.y (asg rfl) rfl ?_
            refine Lx.nil ?_
            refine Xx.tn (k15 _ _ _ _ ?_)
            refine Cx.condD rfl (fun h16 => ?_) (fun h16 => ?_)
            · skip
              have z4 := h16
              refine Cx.skip ?_
              exact Xx.mkK (⟨rfl, rfl, rfl⟩) (Sub.consE (s := 35) rfl (by first | exact congrArg Value.bool (decide_eq_true (by omega)).symm | exact congrArg Value.bool (decide_eq_decide.2 (by omega))) (Sub.cons (s := 0) rfl (Sub.cons (s := 1) rfl (Sub.cons (s := 2) rfl (Sub.cons (s := 3) rfl (Sub.cons (s := 6) rfl (Sub.cons (s := 7) rfl (Sub.cons (s := 8) rfl (Sub.cons (s := 9) rfl (Sub.cons (s := 10) rfl (Sub.cons (s := 11) rfl (Sub.cons (s := 12) rfl (Sub.cons (s := 13) rfl (Sub.cons (s := 14) rfl (Sub.cons (s := 20) rfl (Sub.cons (s := 21) rfl (Sub.cons (s := 27) rfl (Sub.nil _))))))))))))))))))
            · skip
              have z4 := h16
              refine Cx.region ?_
              refine Lx.y (eqI rfl rfl) rfl ?_
              refine Lx.y (asg rfl) rfl ?_
              refine Lx.nil ?_
              exact Xx.mkK (⟨rfl, rfl, rfl⟩) (Sub.consE (s := 35) rfl (by first | exact congrArg Value.bool (decide_eq_true (by omega)).symm | exact congrArg Value.bool (decide_eq_decide.2 (by omega))) (Sub.cons (s := 0) rfl (Sub.cons (s := 1) rfl (Sub.cons (s := 2) rfl (Sub.cons (s := 3) rfl (Sub.cons (s := 6) rfl (Sub.cons (s := 7) rfl (Sub.cons (s := 8) rfl (Sub.cons (s := 9) rfl (Sub.cons (s := 10) rfl (Sub.cons (s := 11) rfl (Sub.cons (s := 12) rfl (Sub.cons (s := 13) rfl (Sub.cons (s := 14) rfl (Sub.cons (s := 20) rfl (Sub.cons (s := 21) rfl (Sub.cons (s := 27) rfl (Sub.nil _))))))))))))))))))
          · rintro ρ' B' H' ⟨rfl, rfl, rfl⟩
            refine Cx.condD rfl (fun h17 => ?_) (fun h17 => ?_)
            · skip
              have z4 := h17
              refine Cx.seq (fun K18 k18 => ?_)
              have hbf : bytesF (d + 1) v = preB (bytesF d) v v.parts.length := by unfold bytesF; rw [if_neg (by omega), if_neg (by omega), if_neg (by omega), if_pos z4]
              rw [hbf] at hb
              have hup : (uvL (BitVec.ofInt 64 (v.parts.length : Nat))).length ≤ 11 := uvF_len 10 _
              have hup2 : (uvL (BitVec.ofNat 64 v.parts.length)).length ≤ 11 := uvF_len 10 _
              refine Cx.region ?_
              refine Lx.y (mv rfl) rfl ?_
              refine Lx.y (fa' fo26_4 rfl) rfl ?_
              refine Lx.y (ld Tryd.underlying23 rfl rfl rfl) rfl ?_
              refine Lx.y (lenV (ty' := 0) Tryd.underlying23 rfl) rfl ?_
              refine Lx.y (cvW64 rfl Tryd.underlying3 Tryd.underlying80) rfl ?_
              refine Lx.cp rfl rfl rfl (encUint_ct _ _) rfl ?_
              refine Lx.y (catS rfl rfl (by first | omega | (simp <;> omega))) rfl ?_
              refine Lx.y (asg rfl) rfl ?_
              refine Lx.nil ?_
              refine Xx.tn (k18 _ _ _ _ ?_)
              refine Cx.seq (fun K19 k19 => ?_)
              refine Cx.region ?_
              refine Lx.y (fa' fo26_4 rfl) rfl ?_
              refine Lx.y (ld Tryd.underlying23 rfl rfl rfl) rfl ?_
              refine Lx.y (lenV (ty' := 0) Tryd.underlying23 rfl) rfl ?_
              refine Lx.y (mv rfl) rfl ?_
              refine Lx.nil ?_
              refine Xx.tn (k19 _ _ _ _ ?_)
              refine Cx.block ?_
              refine Cx.loopK (Sub.cons (s := 0) rfl (Sub.cons (s := 1) rfl (Sub.cons (s := 2) rfl (Sub.cons (s := 6) rfl (Sub.cons (s := 7) rfl (Sub.cons (s := 8) rfl (Sub.cons (s := 9) rfl (Sub.cons (s := 10) rfl (Sub.cons (s := 11) rfl (Sub.cons (s := 12) rfl (Sub.cons (s := 13) rfl (Sub.cons (s := 14) rfl (Sub.cons (s := 20) rfl (Sub.cons (s := 21) rfl (Sub.cons (s := 27) rfl (Sub.cons (s := 35) rfl (Sub.cons (s := 38) rfl (Sub.cons (s := 39) rfl (Sub.cons (s := 40) rfl (Sub.cons (s := 41) rfl (Sub.cons (s := 42) rfl (Sub.cons (s := 43) rfl (Sub.cons (s := 44) rfl (Sub.cons (s := 45) rfl (Sub.cons (s := 46) rfl (Sub.cons (s := 47) rfl (Sub.nil _))))))))))))))))))))))))))) (fun m ρ' B' H' => ∃ (i : Nat), (i ≤ v.parts.length) ∧ m = v.parts.length - i ∧ ρ' = [(3, str (preB (bytesF d) v i)), (48, i64 i)] ∧ B = B' ∧ row b1 26 (vcs v Ap cp An cn) * R = H') ⟨0, Nat.zero_le _, rfl, rfl, rfl, rfl⟩ (Sub.consE (s := 3) rfl (by simp [preB]) (Sub.cons (s := 48) rfl (Sub.cons (s := 0) rfl (Sub.cons (s := 1) rfl (Sub.cons (s := 2) rfl (Sub.cons (s := 6) rfl (Sub.cons (s := 7) rfl (Sub.cons (s := 8) rfl (Sub.cons (s := 9) rfl (Sub.cons (s := 10) rfl (Sub.cons (s := 11) rfl (Sub.cons (s := 12) rfl (Sub.cons (s := 13) rfl (Sub.cons (s := 14) rfl (Sub.cons (s := 20) rfl (Sub.cons (s := 21) rfl (Sub.cons (s := 27) rfl (Sub.cons (s := 35) rfl (Sub.cons (s := 38) rfl (Sub.cons (s := 39) rfl (Sub.cons (s := 40) rfl (Sub.cons (s := 41) rfl (Sub.cons (s := 42) rfl (Sub.cons (s := 43) rfl (Sub.cons (s := 44) rfl (Sub.cons (s := 45) rfl (Sub.cons (s := 46) rfl (Sub.cons (s := 47) rfl (Sub.nil _))))))))))))))))))))))))))))) ?_
              rintro m ρ' B' H' ⟨i, hi, rfl, rfl, rfl, rfl⟩
              have hmi := preB_mono (bytesF d) v (show i ≤ v.parts.length by omega)
              refine Cx.seq (fun K20 k20 => ?_)
              refine Cx.region ?_
              refine Lx.y (lss rfl rfl) rfl ?_
              refine Lx.nil ?_
              refine Xx.tn (k20 _ _ _ _ ?_)
              refine Cx.seq (fun K21 k21 => ?_)
              refine Cx.condD rfl (fun h22 => ?_) (fun h22 => ?_)
              · skip
                refine Cx.skip ?_
                refine Xx.tn (k21 _ _ _ _ ?_)
                refine Cx.seq (fun K23 k23 => ?_)
                refine Cx.block ?_
                refine Cx.seq (fun K24 k24 => ?_)
                have hil : i < v.parts.length := by omega
                have hm2 := preB_mono (bytesF d) v (show i + 1 ≤ v.parts.length by omega)
                rw [preB_succ, List.length_append] at hm2
                obtain ⟨bq, oq, lq, eq, fq, xs, rfl, hBq, hxs, hv2⟩ := hps i hil
                obtain ⟨Ap2, cp2, An2, cn2, rfl⟩ := ValR.shape hv2
                refine Cx.region ?_
                refine Lx.y (mv rfl) rfl ?_
                refine Lx.y (ia Tryd.underlying23 sz26 rfl rfl (by first | exact Int.toNat_natCast _ | rfl) (by omega) (by omega)) rfl ?_
                refine Lx.y (ldA Tryd.underlying26 rfl sz26 rfl (Cells.base (n := 6) hBq hxs) rfl) rfl ?_
                refine Lx.new (allocO ti26) rfl (fun b5 => ?_)
                refine Lx.y (asg rfl) rfl ?_
                refine Lx.st (stA (d := .bool) sz26 rfl rfl rfl rfl (by show 0 + 6 ≤ 6; omega) rfl) ?_
                refine Lx.nil ?_
                refine Xx.tn (k24 _ _ _ _ ?_)
                refine Cx.seq (fun K25 k25 => ?_)
                refine Cx.seq (fun K26 k26 => ?_)
                refine Cx.region ?_
                refine Lx.y (mv rfl) rfl ?_
                refine Lx.y (fa' fo26_5 rfl) rfl ?_
                refine Lx.y (ld Tryd.underlying24 rfl rfl rfl) rfl ?_
                refine Lx.y (lenV (ty' := 0) Tryd.underlying24 rfl) rfl ?_
                refine Lx.y (lss rfl rfl) rfl ?_
                refine Lx.nil ?_
                refine Xx.tn (k26 _ _ _ _ ?_)
                refine Cx.condD rfl (fun h27 => ?_) (fun h27 => ?_)
                · skip
                  have hin : i < v.names.length := by have := h27; omega
                  have hpt : partB (bytesF d) v i = txtL (v.names.getD i []) ++ bytesF d v.parts[i] := by unfold partB; rw [if_pos hin, getDp hil]
                  rw [hpt, List.length_append] at hm2
                  unfold txtL at hm2
                  rw [List.length_append] at hm2
                  obtain ⟨bn, on, ln, en, fn, rfl, hBn, hln⟩ := hns.at1 (k := i) hin
                  rw [get_map hin] at hln
                  have hnl2 : (v.names.getD i []).length ≤ 4611686018427387904 := hnx _ (get_mem hin)
                  generalize v.names.getD i [] = nm at *
                  have hu1 : (uvL (BitVec.ofInt 64 (nm.length : Nat))).length ≤ 11 := uvF_len 10 _
                  have hu2 : (uvL (BitVec.ofNat 64 nm.length)).length ≤ 11 := uvF_len 10 _
                  refine Cx.region ?_
                  refine Lx.y (mv rfl) rfl ?_
                  refine Lx.y (fa' fo26_5 rfl) rfl ?_
                  refine Lx.y (ld Tryd.underlying24 rfl rfl rfl) rfl ?_
                  refine Lx.y (mv rfl) rfl ?_
                  refine Lx.y (ia Tryd.underlying24 sz9 rfl rfl (by first | exact Int.toNat_natCast _ | rfl) (by omega) (by omega)) rfl ?_
                  refine Lx.y (ldB Tryd.underlying9 rfl rfl hBn hln) rfl ?_
                  refine Lx.cp rfl rfl rfl (encText_ct _ _ (by first | exact hsl | exact hnl2)) rfl ?_
                  refine Lx.y (catS rfl rfl (by first | omega | (simp <;> omega))) rfl ?_
                  refine Lx.y (asg rfl) rfl ?_
                  refine Lx.nil ?_
                  refine Xx.tn (k25 _ _ _ _ ?_)
                  refine Cx.region ?_
                  refine Lx.y (mv rfl) rfl ?_
                  refine Lx.y (ldA Tryd.underlying26 rfl sz26 rfl (Cells.own (n := 6) PickB.eq rfl) rfl) rfl ?_
                  refine Lx.cp rfl rfl rfl (ih _ _ _ hv2 (by omega)) rfl ?_
                  refine Lx.y (catS rfl rfl (by first | omega | (simp <;> omega))) rfl ?_
                  refine Lx.y (asg rfl) rfl ?_
                  refine Lx.nil ?_
                  refine Xx.bn ?_
                  refine Xx.tn (k23 _ _ _ _ ?_)
                  refine Cx.region ?_
                  refine Lx.y (add rfl rfl (by first | exact wrap64 (by omega) (by omega) | rfl)) rfl ?_
                  refine Lx.y (mv rfl) rfl ?_
                  refine Lx.nil ?_
                  refine Xx.dropB b5 ?_
                  exact Xx.againK ⟨i + 1, by omega, rfl, rfl, rfl, rfl⟩ (by omega) (Sub.consE (s := 3) rfl (by rw [preB_succ, hpt]; simp [txtL]) (Sub.cons (s := 48) rfl (Sub.cons (s := 0) rfl (Sub.cons (s := 1) rfl (Sub.cons (s := 2) rfl (Sub.cons (s := 6) rfl (Sub.cons (s := 7) rfl (Sub.cons (s := 8) rfl (Sub.cons (s := 9) rfl (Sub.cons (s := 10) rfl (Sub.cons (s := 11) rfl (Sub.cons (s := 12) rfl (Sub.cons (s := 13) rfl (Sub.cons (s := 14) rfl (Sub.cons (s := 20) rfl (Sub.cons (s := 21) rfl (Sub.cons (s := 27) rfl (Sub.cons (s := 35) rfl (Sub.cons (s := 38) rfl (Sub.cons (s := 39) rfl (Sub.cons (s := 40) rfl (Sub.cons (s := 41) rfl (Sub.cons (s := 42) rfl (Sub.cons (s := 43) rfl (Sub.cons (s := 44) rfl (Sub.cons (s := 45) rfl (Sub.cons (s := 46) rfl (Sub.cons (s := 47) rfl (Sub.nil _)))))))))))))))))))))))))))))
                · skip
                  have hin : ¬ i < v.names.length := by have := h27; omega
                  have hpt : partB (bytesF d) v i = bytesF d v.parts[i] := by unfold partB; rw [if_neg hin, getDp hil]; rfl
                  rw [hpt] at hm2
                  refine Cx.skip ?_
                  refine Xx.tn (k25 _ _ _ _ ?_)
                  refine Cx.region ?_
                  refine Lx.y (mv rfl) rfl ?_
                  refine Lx.y (ldA Tryd.underlying26 rfl sz26 rfl (Cells.own (n := 6) PickB.eq rfl) rfl) rfl ?_
                  refine Lx.cp rfl rfl rfl (ih _ _ _ hv2 (by omega)) rfl ?_
                  refine Lx.y (catS rfl rfl (by first | omega | (simp <;> omega))) rfl ?_
                  refine Lx.y (asg rfl) rfl ?_
                  refine Lx.nil ?_
                  refine Xx.bn ?_
                  refine Xx.tn (k23 _ _ _ _ ?_)
                  refine Cx.region ?_
                  refine Lx.y (add rfl rfl (by first | exact wrap64 (by omega) (by omega) | rfl)) rfl ?_
                  refine Lx.y (mv rfl) rfl ?_
                  refine Lx.nil ?_
                  refine Xx.dropB b5 ?_
                  exact Xx.againK ⟨i + 1, by omega, rfl, rfl, rfl, rfl⟩ (by omega) (Sub.consE (s := 3) rfl (by rw [preB_succ, hpt]) (Sub.cons (s := 48) rfl (Sub.cons (s := 0) rfl (Sub.cons (s := 1) rfl (Sub.cons (s := 2) rfl (Sub.cons (s := 6) rfl (Sub.cons (s := 7) rfl (Sub.cons (s := 8) rfl (Sub.cons (s := 9) rfl (Sub.cons (s := 10) rfl (Sub.cons (s := 11) rfl (Sub.cons (s := 12) rfl (Sub.cons (s := 13) rfl (Sub.cons (s := 14) rfl (Sub.cons (s := 20) rfl (Sub.cons (s := 21) rfl (Sub.cons (s := 27) rfl (Sub.cons (s := 35) rfl (Sub.cons (s := 38) rfl (Sub.cons (s := 39) rfl (Sub.cons (s := 40) rfl (Sub.cons (s := 41) rfl (Sub.cons (s := 42) rfl (Sub.cons (s := 43) rfl (Sub.cons (s := 44) rfl (Sub.cons (s := 45) rfl (Sub.cons (s := 46) rfl (Sub.cons (s := 47) rfl (Sub.nil _)))))))))))))))))))))))))))))
              · skip
                obtain rfl : i = v.parts.length := by omega
                refine Cx.exit ?_
                refine Xx.te ?_
                refine Xx.te ?_
                refine Xx.bh ?_
                refine Xx.bn ?_
                refine Xx.tn (k3 _ _ _ _ ?_)
                refine Cx.seq (fun K28 k28 => ?_)
                refine Cx.region ?_
                refine Lx.y (mv rfl) rfl ?_
                refine Lx.y (asg rfl) rfl ?_
                refine Lx.nil ?_
                refine Xx.tn (k28 _ _ _ _ ?_)
                refine Cx.ret ?_
                refine Xx.dropB b1 (Xx.rB1 rfl rfl ⟨congrArg str ?_, rfl⟩ (Frag.le_refl _) rfl)
                first | exact hbf.symm | (unfold bytesF; rw [if_pos z1]) | (unfold bytesF; rw [if_neg z1, if_pos z2]; rfl) | (unfold bytesF; rw [if_neg z1, if_neg z2, if_pos z3]; rfl) | (unfold bytesF; rw [if_neg z1, if_neg z2, if_neg z3, if_neg z4])
            · skip
              have z4 := h17
              refine Cx.skip ?_
              refine Xx.bn ?_
              refine Xx.tn (k3 _ _ _ _ ?_)
              refine Cx.seq (fun K29 k29 => ?_)
              refine Cx.region ?_
              refine Lx.y (mv rfl) rfl ?_
              refine Lx.y (asg rfl) rfl ?_
              refine Lx.nil ?_
              refine Xx.tn (k29 _ _ _ _ ?_)
              refine Cx.ret ?_
              refine Xx.dropB b1 (Xx.rB1 rfl rfl ⟨congrArg str ?_, rfl⟩ (Frag.le_refl _) rfl)
              first | exact hbf.symm | (unfold bytesF; rw [if_pos z1]) | (unfold bytesF; rw [if_neg z1, if_pos z2]; rfl) | (unfold bytesF; rw [if_neg z1, if_neg z2, if_pos z3]; rfl) | (unfold bytesF; rw [if_neg z1, if_neg z2, if_neg z3, if_neg z4])

theorem bytes_ct : ∀ (d : Nat) (v : V) (cs : List Value) (B : Frag), ValR B d v cs → (bytesF d v).length ≤ 1152921504606846976 → CtP Tryd.prog 50 [.agg cs.toArray] B (str (bytesF d v)) := by
  intro d
  induction d with
  | zero => intro v cs B h; exact h.elim
  | succ d ih => intro v cs B h hb; exact bytes_step d ih v cs B h hb
end KeA
end Go.Proofs.YtfnfkoldifpmhaaDoor
