/-
  Values: their keys.
-/
import Derived.Test.YtfnfkoldifpmhaaDoorProg
import Derived.Test.YtfnfkoldifpmhaaDoorSlj
import Derived.Test.YtfnfkoldifpmhaaDoorKeB
namespace Go.Proofs.YtfnfkoldifpmhaaDoor
open Go.SL Go.RowKit
set_option linter.unusedVariables false
set_option linter.unusedSimpArgs false
set_option maxRecDepth 100000
open Ke1 Ke3 Ke4 Ke5 Ke6 Ke7 Ke8 Ke9 KeA KeB
namespace KeC
theorem sz9 : (Tryd.prog.info? 9).map (·.size) = some 1 := by kernel_rfl
theorem sz26 : (Tryd.prog.info? 26).map (·.size) = some 6 := by kernel_rfl
theorem ti5 : TI Tryd.prog 5 [.int .u8 0] 1 1 := TI.of (by kernel_rfl) rfl rfl
theorem ti26 : TI Tryd.prog 26 [.int .i64 0, .bool false, .int .i64 0, str [], .slice none 0 0, .slice none 0 0] 6 88 := TI.of (by kernel_rfl) rfl rfl
theorem fo26_0 : FO Tryd.prog 26 0 0 1 false := FO.of Tryd.underlying26 rfl rfl (by kernel_rfl) Tryd.underlying3 rfl rfl
theorem fo26_1 : FO Tryd.prog 26 1 1 1 false := FO.of Tryd.underlying26 rfl rfl (by kernel_rfl) Tryd.underlying4 rfl rfl
theorem fo26_2 : FO Tryd.prog 26 2 2 1 false := FO.of Tryd.underlying26 rfl rfl (by kernel_rfl) Tryd.underlying2 rfl rfl
theorem fo26_3 : FO Tryd.prog 26 3 3 1 false := FO.of Tryd.underlying26 rfl rfl (by kernel_rfl) Tryd.underlying9 rfl rfl
theorem fo26_4 : FO Tryd.prog 26 4 4 1 false := FO.of Tryd.underlying26 rfl rfl (by kernel_rfl) Tryd.underlying23 rfl rfl
theorem fo26_5 : FO Tryd.prog 26 5 5 1 false := FO.of Tryd.underlying26 rfl rfl (by kernel_rfl) Tryd.underlying24 rfl rfl

def numK (n : Int) : List UInt8 := numL (BitVec.ofInt 64 n ^^^ 9223372036854775808#64)
def partK (f : V → List UInt8) (v : V) (i : Nat) : List UInt8 := [1] ++ (if i < v.names.length then textL (v.names.getD i []) else []) ++ f (v.parts.getD i default)
def preK (f : V → List UInt8) (v : V) (i : Nat) : List UInt8 := [toB v.kind] ++ (List.range i).flatMap (partK f v)
def keyF : Nat → V → List UInt8
  | 0, _ => []
  | d + 1, v => if v.kind = 1 then [toB v.kind] ++ (if v.b then [1] else [0]) else if v.kind = 2 then [toB v.kind] ++ numK v.n else if v.kind = 3 ∨ v.kind = 4 then [toB v.kind] ++ textL v.s
      else if v.kind = 5 ∨ v.kind = 6 then preK (keyF d) v v.parts.length ++ [0] else [toB v.kind]
theorem preK_succ (f : V → List UInt8) (v : V) (i : Nat) : preK f v (i + 1) = preK f v i ++ partK f v i := by
  unfold preK; rw [List.range_succ, List.flatMap_append]; simp
theorem uvL_pos (n : BitVec 64) : 1 ≤ (uvL n).length := by unfold uvL uvF; split <;> simp
theorem textL_len (s : List UInt8) : (textL s).length ≤ 2 * s.length + 2 := by have := rep_len s; unfold textL; rw [List.length_append]; simp only [List.length_cons, List.length_nil]; omega
theorem bytesF_pos {d : Nat} {v : V} : 1 ≤ (bytesF (d + 1) v).length := by
  unfold bytesF
  repeat' split
  all_goals first | (unfold preB; simp only [List.length_append, List.length_cons]; omega) | (simp only [List.length_append, List.length_cons, List.length_nil]; omega)
theorem preK_len (f g : V → List UInt8) (v : V) (hfg : ∀ i (h : i < v.parts.length), (f v.parts[i]).length + 1 ≤ 12 * (g v.parts[i]).length) : ∀ i, i ≤ v.parts.length → (preK f v i).length + 11 + 12 * (uvL (BitVec.ofInt 64 (v.parts.length : Nat))).length ≤ 12 * (preB g v i).length := by
  intro i
  induction i with
  | zero => intro _; unfold preK preB; simp; omega
  | succ i ih =>
    intro hi
    have h1 := ih (by omega)
    have h2 := hfg i (by omega)
    rw [preK_succ, preB_succ, List.length_append, List.length_append]
    have h3 : (partK f v i).length ≤ 12 * (partB g v i).length := by
      unfold partK partB
      rw [getDp (by omega)]
      by_cases hn : i < v.names.length
      · rw [if_pos hn, if_pos hn]
        have h4 := textL_len (v.names.getD i [])
        have h5 := uvL_pos (BitVec.ofInt 64 ((v.names.getD i []).length : Nat))
        unfold txtL
        simp only [List.length_append, List.length_cons, List.length_nil]
        omega
      · rw [if_neg hn, if_neg hn]
        simp only [List.length_append, List.length_cons, List.length_nil]
        omega
    omega

theorem keyF_len : ∀ (d : Nat) (v : V) (cs : List Value) (B : Frag), ValR B d v cs → (keyF d v).length + 1 ≤ 12 * (bytesF d v).length := by
  intro d
  induction d with
  | zero => intro v cs B h; exact h.elim
  | succ d ih =>
    rintro v cs B ⟨Ap, cp, An, cn, _, _, _, _, _, _, hps⟩
    have hp := preK_len (keyF d) (bytesF d) v (fun i hi => by obtain ⟨b, o, l, et, fz, xs, _, _, _, hv⟩ := hps i hi; exact ih _ _ _ hv) v.parts.length (Nat.le_refl _)
    have h4 := textL_len v.s
    have h5 := uvL_pos (BitVec.ofInt 64 (v.s.length : Nat))
    have h6 := uvL_pos (BitVec.ofInt 64 v.n <<< 1 ^^^ BitVec.ofInt 64 (v.n / 9223372036854775808))
    unfold keyF bytesF
    by_cases z1 : v.kind = 1
    · rw [if_pos z1, if_pos z1]; cases v.b <;> simp
    · rw [if_neg z1, if_neg z1]
      by_cases z2 : v.kind = 2
      · rw [if_pos z2, if_pos z2]; unfold numK intL; simp only [List.length_append, List.length_cons, List.length_nil, numL_len]; omega
      · rw [if_neg z2, if_neg z2]
        by_cases z3 : v.kind = 3 ∨ v.kind = 4
        · rw [if_pos z3, if_pos z3]; unfold txtL; simp only [List.length_append, List.length_cons, List.length_nil]; omega
        · rw [if_neg z3, if_neg z3]
          by_cases z4 : v.kind = 5 ∨ v.kind = 6
          · rw [if_pos z4, if_pos z4]; simp only [List.length_append, List.length_cons, List.length_nil]; omega
          · rw [if_neg z4, if_neg z4]; simp

set_option maxHeartbeats 1000000 in
theorem Of_step (d : Nat) (ih : ∀ (v : V) (cs : List Value) (B : Frag), ValR B d v cs → MaxLenIn B → (bytesF d v).length ≤ 1048576 → CtP Tryd.prog 26 [.agg cs.toArray] B (str (keyF d v))) (v : V) (cs : List Value) (B : Frag) (h : ValR B (d + 1) v cs) (hM : MaxLenIn B) (hb : (bytesF (d + 1) v).length ≤ 1048576) : CtP Tryd.prog 26 [.agg cs.toArray] B (str (keyF (d + 1) v)) := by
  have hkl := keyF_len _ _ _ _ h
  have hpk : ∀ i (hi : i < v.parts.length), (keyF d v.parts[i]).length + 1 ≤ 12 * (bytesF d v.parts[i]).length := by
    intro i hi
    obtain ⟨_, _, _, _, _, _, _, _, _, _, hps⟩ := h
    obtain ⟨b, o, l, et, fz, xs, _, _, _, hv⟩ := hps i hi
    exact keyF_len _ _ _ _ hv
  obtain ⟨Ap, cp, An, cn, rfl, ⟨hsl, hn1, hn2, hcn, hcp⟩, hpl, hnl, hns, hnx, hps⟩ := h
  refine CtB.of_body Tryd.func26 rfl (nt := 72) rfl (by kernel_rfl) rfl ?_
  intro N0 w0 R
  refine Cx.seq (fun K1 k1 => ?_)
  refine Cx.region ?_
  refine Lx.new (boxA rfl) rfl (fun b1 => ?_)
  refine Lx.y (asg rfl) rfl ?_
  refine Lx.nil ?_
  refine Xx.tn (k1 _ _ _ _ ?_)
  refine Cx.seq (fun K2 k2 => ?_)
  refine Cx.region ?_
  refine Lx.y (fa' fo26_0 rfl) rfl ?_
  refine Lx.y (ld Tryd.underlying3 rfl rfl rfl) rfl ?_
  refine Lx.y (cvI rfl Tryd.underlying3 Tryd.underlying5 (wrap_u8 _)) rfl ?_
  refine Lx.bsl (bsl1 Tryd.underlying78 ti5 rfl rfl rfl (by decide)) rfl (fun b9 => ?_)
  refine Lx.y (b2sR Tryd.underlying78 Tryd.underlying5 Tryd.underlying9 rfl (u8s_cons u8s_nil) rfl) rfl ?_
  refine Lx.y (asg rfl) rfl ?_
  refine Xx.dropB b9 ?_
  refine Lx.nil ?_
  refine Xx.tn (k2 _ _ _ _ ?_)
  refine Cx.seq (fun K3 k3 => ?_)
  refine Cx.seq (fun K4 k4 => ?_)
  refine Cx.region ?_
  refine Lx.y (fa' fo26_0 rfl) rfl ?_
  refine Lx.y (ld Tryd.underlying3 rfl rfl rfl) rfl ?_
  refine Lx.nil ?_
  refine Xx.tn (k4 _ _ _ _ ?_)
  refine Cx.block ?_
  refine Cx.seq (fun K5 k5 => ?_)
  refine Cx.region ?_
  refine Lx.y (eqI rfl rfl) rfl ?_
  refine Lx.y (asg rfl) rfl ?_
  refine Lx.nil ?_
  refine Xx.tn (k5 _ _ _ _ ?_)
  refine Cx.condD rfl (fun h6 => ?_) (fun h6 => ?_)
  · skip
    have z1 := h6
    refine Cx.seq (fun K7 k7 => ?_)
    refine Cx.seq (fun K8 k8 => ?_)
    refine Cx.region ?_
    refine Lx.y (fa' fo26_1 rfl) rfl ?_
    refine Lx.y (ld Tryd.underlying4 rfl rfl rfl) rfl ?_
    refine Lx.nil ?_
    refine Xx.tn (k8 _ _ _ _ ?_)
    refine Cx.condB rfl (fun h9 => ?_) (fun h9 => ?_)
    · skip
      have zb := h9
      refine Cx.seq (fun K10 k10 => ?_)
      refine Cx.region ?_
      refine Lx.y (mv rfl) rfl ?_
      refine Lx.y (catS rfl rfl (by first | omega | (simp <;> omega))) rfl ?_
      refine Lx.y (asg rfl) rfl ?_
      refine Lx.nil ?_
      refine Xx.tn (k10 _ _ _ _ ?_)
      refine Cx.ret ?_
      refine Xx.tr ?_
      refine Xx.br ?_
      refine Xx.tr ?_
      refine Xx.dropB b1 (Xx.rB1 rfl rfl ⟨congrArg str ?_, rfl⟩ (Frag.le_refl _) rfl)
      first | exact hkf.symm | (unfold keyF; rw [if_pos z1, zb]; rfl) | (unfold keyF; rw [if_neg z1, if_pos z2]; rfl) | (unfold keyF; rw [if_neg z1, if_neg z2, if_pos z3]; done) | (unfold keyF; rw [if_neg z1, if_neg z2, if_neg z3, if_neg z4])
    · skip
      have zb := h9
      refine Cx.skip ?_
      refine Xx.tn (k7 _ _ _ _ ?_)
      refine Cx.seq (fun K11 k11 => ?_)
      refine Cx.region ?_
      refine Lx.y (mv rfl) rfl ?_
      refine Lx.y (catS rfl rfl (by first | omega | (simp <;> omega))) rfl ?_
      refine Lx.y (asg rfl) rfl ?_
      refine Lx.nil ?_
      refine Xx.tn (k11 _ _ _ _ ?_)
      refine Cx.ret ?_
      refine Xx.br ?_
      refine Xx.tr ?_
      refine Xx.dropB b1 (Xx.rB1 rfl rfl ⟨congrArg str ?_, rfl⟩ (Frag.le_refl _) rfl)
      first | exact hkf.symm | (unfold keyF; rw [if_pos z1, zb]; rfl) | (unfold keyF; rw [if_neg z1, if_pos z2]; rfl) | (unfold keyF; rw [if_neg z1, if_neg z2, if_pos z3]; done) | (unfold keyF; rw [if_neg z1, if_neg z2, if_neg z3, if_neg z4])
  · skip
    have z1 := h6
    refine Cx.seq (fun K12 k12 => ?_)
    refine Cx.region ?_
    refine Lx.y (eqI rfl rfl) rfl ?_
    refine Lx.y (asg rfl) rfl ?_
    refine Lx.nil ?_
    refine Xx.tn (k12 _ _ _ _ ?_)
    refine Cx.condD rfl (fun h13 => ?_) (fun h13 => ?_)
    · skip
      have z2 := h13
      refine Cx.seq (fun K14 k14 => ?_)
      refine Cx.region ?_
      refine Lx.y (mv rfl) rfl ?_
      refine Lx.y (fa' fo26_2 rfl) rfl ?_
      refine Lx.y (ld Tryd.underlying2 rfl rfl rfl) rfl ?_
      refine Lx.y (cvW64 rfl Tryd.underlying2 Tryd.underlying80) rfl ?_
      refine Lx.y (xorW64 (b := 9223372036854775808#64) rfl rfl) rfl ?_
      refine Lx.cp rfl rfl rfl (Number_ct _ _) rfl ?_
      refine Lx.y (catS rfl rfl (by first | omega | (simp <;> omega))) rfl ?_
      refine Lx.y (asg rfl) rfl ?_
      refine Lx.nil ?_
      refine Xx.tn (k14 _ _ _ _ ?_)
      refine Cx.ret ?_
      refine Xx.br ?_
      refine Xx.tr ?_
      refine Xx.dropB b1 (Xx.rB1 rfl rfl ⟨congrArg str ?_, rfl⟩ (Frag.le_refl _) rfl)
      first | exact hkf.symm | (unfold keyF; rw [if_pos z1, zb]; rfl) | (unfold keyF; rw [if_neg z1, if_pos z2]; rfl) | (unfold keyF; rw [if_neg z1, if_neg z2, if_pos z3]; done) | (unfold keyF; rw [if_neg z1, if_neg z2, if_neg z3, if_neg z4])
    · skip
      have z2 := h13
      refine Cx.cutK (ds' := []) (Sub.cons (s := 0) rfl (Sub.cons (s := 1) rfl (Sub.cons (s := 2) rfl (Sub.cons (s := 3) rfl (Sub.cons (s := 6) rfl (Sub.cons (s := 7) rfl (Sub.cons (s := 8) rfl (Sub.cons (s := 9) rfl (Sub.cons (s := 10) rfl (Sub.cons (s := 11) rfl (Sub.cons (s := 12) rfl (Sub.cons (s := 13) rfl (Sub.cons (s := 14) rfl (Sub.cons (s := 21) rfl (Sub.cons (s := 22) rfl (Sub.nil _)))))))))))))))) (fun ρ' B' H' => ρ' = [(30, .bool (decide (v.kind = 3 ∨ v.kind = 4)))] ∧ B = B' ∧ row b1 26 (vcs v Ap cp An cn) * R = H') ?_ ?_
      · skip
        refine Cx.seq (fun K15 k15 => ?_)
        refine Cx.region ?_
        refine Lx.y (eqI rfl rfl) rfl ?_
        refine Lx.y (asg rfl) rfl ?_
        refine Lx.nil ?_
        refine Xx.tn (k15 _ _ _ _ ?_)
        refine Cx.condD rfl (fun h16 => ?_) (fun h16 => ?_)
        · skip
          have z3 := h16
          refine Cx.skip ?_
          exact Xx.mkK (⟨rfl, rfl, rfl⟩) (Sub.consE (s := 30) rfl (by first | exact congrArg Value.bool (decide_eq_true (by omega)).symm | exact congrArg Value.bool (decide_eq_decide.2 (by omega))) (Sub.cons (s := 0) rfl (Sub.cons (s := 1) rfl (Sub.cons (s := 2) rfl (Sub.cons (s := 3) rfl (Sub.cons (s := 6) rfl (Sub.cons (s := 7) rfl (Sub.cons (s := 8) rfl (Sub.cons (s := 9) rfl (Sub.cons (s := 10) rfl (Sub.cons (s := 11) rfl (Sub.cons (s := 12) rfl (Sub.cons (s := 13) rfl (Sub.cons (s := 14) rfl (Sub.cons (s := 21) rfl (Sub.cons (s := 22) rfl (Sub.nil _)))))))))))))))))
        · skip
          have z3 := h16
          refine Cx.region ?_
          refine Lx.y (eqI rfl rfl) rfl ?_
          refine Lx.y (asg rfl) rfl ?_
          refine Lx.nil ?_
          exact Xx.mkK (⟨rfl, rfl, rfl⟩) (Sub.consE (s := 30) rfl (by first | exact congrArg Value.bool (decide_eq_true (by omega)).symm | exact congrArg Value.bool (decide_eq_decide.2 (by omega))) (Sub.cons (s := 0) rfl (Sub.cons (s := 1) rfl (Sub.cons (s := 2) rfl (Sub.cons (s := 3) rfl (Sub.cons (s := 6) rfl (Sub.cons (s := 7) rfl (Sub.cons (s := 8) rfl (Sub.cons (s := 9) rfl (Sub.cons (s := 10) rfl (Sub.cons (s := 11) rfl (Sub.cons (s := 12) rfl (Sub.cons (s := 13) rfl (Sub.cons (s := 14) rfl (Sub.cons (s := 21) rfl (Sub.cons (s := 22) rfl (Sub.nil _)))))))))))))))))
      · rintro ρ' B' H' ⟨rfl, rfl, rfl⟩
        refine Cx.condD rfl (fun h17 => ?_) (fun h17 => ?_)
        · skip
          have z3 := h17
          refine Cx.seq (fun K18 k18 => ?_)
          have hsb : v.s.length ≤ 1048576 := by unfold bytesF at hb; rw [if_neg z1, if_neg z2, if_pos z3] at hb; unfold txtL at hb; simp only [List.length_append] at hb; omega
          have htl := textL_len v.s
          refine Cx.region ?_
          refine Lx.y (mv rfl) rfl ?_
          refine Lx.y (fa' fo26_3 rfl) rfl ?_
          refine Lx.y (ld Tryd.underlying9 rfl rfl rfl) rfl ?_
          refine Lx.cp rfl rfl rfl (text_ct _ _ hM (by omega)) rfl ?_
          refine Lx.y (catS rfl rfl (by first | omega | (simp <;> omega))) rfl ?_
          refine Lx.y (asg rfl) rfl ?_
          refine Lx.nil ?_
          refine Xx.tn (k18 _ _ _ _ ?_)
          refine Cx.ret ?_
          refine Xx.br ?_
          refine Xx.tr ?_
          refine Xx.dropB b1 (Xx.rB1 rfl rfl ⟨congrArg str ?_, rfl⟩ (Frag.le_refl _) rfl)
          first | exact hkf.symm | (unfold keyF; rw [if_pos z1, zb]; rfl) | (unfold keyF; rw [if_neg z1, if_pos z2]; rfl) | (unfold keyF; rw [if_neg z1, if_neg z2, if_pos z3]; done) | (unfold keyF; rw [if_neg z1, if_neg z2, if_neg z3, if_neg z4])
        · skip
          have z3 := h17
          refine Cx.cutK (ds' := []) (Sub.cons (s := 0) rfl (Sub.cons (s := 1) rfl (Sub.cons (s := 2) rfl (Sub.cons (s := 3) rfl (Sub.cons (s := 6) rfl (Sub.cons (s := 7) rfl (Sub.cons (s := 8) rfl (Sub.cons (s := 9) rfl (Sub.cons (s := 10) rfl (Sub.cons (s := 11) rfl (Sub.cons (s := 12) rfl (Sub.cons (s := 13) rfl (Sub.cons (s := 14) rfl (Sub.cons (s := 21) rfl (Sub.cons (s := 22) rfl (Sub.cons (s := 30) rfl (Sub.nil _))))))))))))))))) (fun ρ' B' H' => ρ' = [(38, .bool (decide (v.kind = 5 ∨ v.kind = 6)))] ∧ B = B' ∧ row b1 26 (vcs v Ap cp An cn) * R = H') ?_ ?_
          · skip
            refine Cx.seq (fun K19 k19 => ?_)
            refine Cx.region ?_
            refine Lx.y (eqI rfl rfl) rfl ?_
            refine Lx.y (asg rfl) rfl ?_
            refine Lx.nil ?_
            refine Xx.tn (k19 _ _ _ _ ?_)
            refine Cx.condD rfl (fun h20 => ?_) (fun h20 => ?_)
            · skip
              have z4 := h20
              refine Cx.skip ?_
              exact Xx.mkK (⟨rfl, rfl, rfl⟩) (Sub.consE (s := 38) rfl (by first | exact congrArg Value.bool (decide_eq_true (by omega)).symm | exact congrArg Value.bool (decide_eq_decide.2 (by omega))) (Sub.cons (s := 0) rfl (Sub.cons (s := 1) rfl (Sub.cons (s := 2) rfl (Sub.cons (s := 3) rfl (Sub.cons (s := 6) rfl (Sub.cons (s := 7) rfl (Sub.cons (s := 8) rfl (Sub.cons (s := 9) rfl (Sub.cons (s := 10) rfl (Sub.cons (s := 11) rfl (Sub.cons (s := 12) rfl (Sub.cons (s := 13) rfl (Sub.cons (s := 14) rfl (Sub.cons (s := 21) rfl (Sub.cons (s := 22) rfl (Sub.cons (s := 30) rfl (Sub.nil _))))))))))))))))))
            · skip
              have z4 := h20
              refine Cx.region ?_
              refine Lx.y (eqI rfl rfl) rfl ?_
              refine Lx.y (asg rfl) rfl ?_
              refine Lx.nil ?_
              exact Xx.mkK (⟨rfl, rfl, rfl⟩) (Sub.consE (s := 38) rfl (by first | exact congrArg Value.bool (decide_eq_true (by omega)).symm | exact congrArg Value.bool (decide_eq_decide.2 (by omega))) (Sub.cons (s := 0) rfl (Sub.cons (s := 1) rfl (Sub.cons (s := 2) rfl (Sub.cons (s := 3) rfl (Sub.cons (s := 6) rfl (Sub.cons (s := 7) rfl (Sub.cons (s := 8) rfl (Sub.cons (s := 9) rfl (Sub.cons (s := 10) rfl (Sub.cons (s := 11) rfl (Sub.cons (s := 12) rfl (Sub.cons (s := 13) rfl (Sub.cons (s := 14) rfl (Sub.cons (s := 21) rfl (Sub.cons (s := 22) rfl (Sub.cons (s := 30) rfl (Sub.nil _))))))))))))))))))
          · rintro ρ' B' H' ⟨rfl, rfl, rfl⟩
            refine Cx.condD rfl (fun h21 => ?_) (fun h21 => ?_)
            · skip
              have z4 := h21
              refine Cx.seq (fun K22 k22 => ?_)
              refine Cx.seq (fun K23 k23 => ?_)
              have hbf : bytesF (d + 1) v = preB (bytesF d) v v.parts.length := by unfold bytesF; rw [if_neg (by omega), if_neg (by omega), if_neg (by omega), if_pos z4]
              rw [hbf] at hb
              have hkf : keyF (d + 1) v = preK (keyF d) v v.parts.length ++ [0] := by unfold keyF; rw [if_neg (by omega), if_neg (by omega), if_neg (by omega), if_pos z4]
              refine Cx.region ?_
              refine Lx.y (fa' fo26_4 rfl) rfl ?_
              refine Lx.y (ld Tryd.underlying23 rfl rfl rfl) rfl ?_
              refine Lx.y (lenV (ty' := 0) Tryd.underlying23 rfl) rfl ?_
              refine Lx.y (mv rfl) rfl ?_
              refine Lx.nil ?_
              refine Xx.tn (k23 _ _ _ _ ?_)
              refine Cx.block ?_
              refine Cx.loopK (Sub.cons (s := 0) rfl (Sub.cons (s := 1) rfl (Sub.cons (s := 2) rfl (Sub.cons (s := 6) rfl (Sub.cons (s := 7) rfl (Sub.cons (s := 8) rfl (Sub.cons (s := 9) rfl (Sub.cons (s := 10) rfl (Sub.cons (s := 11) rfl (Sub.cons (s := 12) rfl (Sub.cons (s := 13) rfl (Sub.cons (s := 14) rfl (Sub.cons (s := 21) rfl (Sub.cons (s := 22) rfl (Sub.cons (s := 30) rfl (Sub.cons (s := 38) rfl (Sub.cons (s := 41) rfl (Sub.cons (s := 42) rfl (Sub.cons (s := 43) rfl (Sub.nil _)))))))))))))))))))) (fun m ρ' B' H' => ∃ (i : Nat), (i ≤ v.parts.length) ∧ m = v.parts.length - i ∧ ρ' = [(3, str (preK (keyF d) v i)), (44, i64 i)] ∧ B = B' ∧ row b1 26 (vcs v Ap cp An cn) * R = H') ⟨0, Nat.zero_le _, rfl, rfl, rfl, rfl⟩ (Sub.consE (s := 3) rfl (by simp [preK]) (Sub.cons (s := 44) rfl (Sub.cons (s := 0) rfl (Sub.cons (s := 1) rfl (Sub.cons (s := 2) rfl (Sub.cons (s := 6) rfl (Sub.cons (s := 7) rfl (Sub.cons (s := 8) rfl (Sub.cons (s := 9) rfl (Sub.cons (s := 10) rfl (Sub.cons (s := 11) rfl (Sub.cons (s := 12) rfl (Sub.cons (s := 13) rfl (Sub.cons (s := 14) rfl (Sub.cons (s := 21) rfl (Sub.cons (s := 22) rfl (Sub.cons (s := 30) rfl (Sub.cons (s := 38) rfl (Sub.cons (s := 41) rfl (Sub.cons (s := 42) rfl (Sub.cons (s := 43) rfl (Sub.nil _)))))))))))))))))))))) ?_
              rintro m ρ' B' H' ⟨i, hi, rfl, rfl, rfl, rfl⟩
              have hmi := preB_mono (bytesF d) v (show i ≤ v.parts.length by omega)
              have hki := preK_len (keyF d) (bytesF d) v hpk i (by omega)
              refine Cx.seq (fun K24 k24 => ?_)
              refine Cx.region ?_
              refine Lx.y (lss rfl rfl) rfl ?_
              refine Lx.nil ?_
              refine Xx.tn (k24 _ _ _ _ ?_)
              refine Cx.seq (fun K25 k25 => ?_)
              refine Cx.condD rfl (fun h26 => ?_) (fun h26 => ?_)
              · skip
                refine Cx.skip ?_
                refine Xx.tn (k25 _ _ _ _ ?_)
                refine Cx.seq (fun K27 k27 => ?_)
                refine Cx.block ?_
                refine Cx.seq (fun K28 k28 => ?_)
                have hil : i < v.parts.length := by omega
                have hpi := hpk i hil
                have hm2 := preB_mono (bytesF d) v (show i + 1 ≤ v.parts.length by omega)
                rw [preB_succ, List.length_append] at hm2
                obtain ⟨bq, oq, lq, eq, fq, xs, rfl, hBq, hxs, hv2⟩ := hps i hil
                obtain ⟨Ap2, cp2, An2, cn2, rfl⟩ := ValR.shape hv2
                refine Cx.region ?_
                refine Lx.y (mv rfl) rfl ?_
                refine Lx.y (ia Tryd.underlying23 sz26 rfl rfl (by first | exact Int.toNat_natCast _ | rfl) (by omega) (by omega)) rfl ?_
                refine Lx.y (ldA Tryd.underlying26 rfl sz26 rfl (Cells.base (n := 6) hBq hxs) rfl) rfl ?_
                refine Lx.new (allocO ti26) rfl (fun b5 => ?_)
                refine Lx.y (asg rfl) rfl ?_
                refine Lx.st (stA (d := .bool) sz26 rfl rfl rfl rfl (by show 0 + 6 ≤ 6; omega) rfl) ?_
                refine Lx.nil ?_
                refine Xx.tn (k28 _ _ _ _ ?_)
                refine Cx.seq (fun K29 k29 => ?_)
                refine Cx.region ?_
                refine Lx.y (mv rfl) rfl ?_
                refine Lx.y (catS rfl rfl (by first | omega | (simp <;> omega))) rfl ?_
                refine Lx.y (asg rfl) rfl ?_
                refine Lx.nil ?_
                refine Xx.tn (k29 _ _ _ _ ?_)
                refine Cx.seq (fun K30 k30 => ?_)
                refine Cx.seq (fun K31 k31 => ?_)
                refine Cx.region ?_
                refine Lx.y (mv rfl) rfl ?_
                refine Lx.y (fa' fo26_5 rfl) rfl ?_
                refine Lx.y (ld Tryd.underlying24 rfl rfl rfl) rfl ?_
                refine Lx.y (lenV (ty' := 0) Tryd.underlying24 rfl) rfl ?_
                refine Lx.y (lss rfl rfl) rfl ?_
                refine Lx.nil ?_
                refine Xx.tn (k31 _ _ _ _ ?_)
                refine Cx.condD rfl (fun h32 => ?_) (fun h32 => ?_)
                · skip
                  have hin : i < v.names.length := by have := h32; omega
                  have hpt : partK (keyF d) v i = [1] ++ textL (v.names.getD i []) ++ keyF d v.parts[i] := by unfold partK; rw [if_pos hin, getDp hil]
                  have hpb : partB (bytesF d) v i = txtL (v.names.getD i []) ++ bytesF d v.parts[i] := by unfold partB; rw [if_pos hin, getDp hil]
                  rw [hpb, List.length_append] at hm2
                  unfold txtL at hm2
                  rw [List.length_append] at hm2
                  obtain ⟨bn, on, ln, en, fn, rfl, hBn, hln⟩ := hns.at1 (k := i) hin
                  rw [get_map hin] at hln
                  generalize v.names.getD i [] = nm at *
                  have htn := textL_len nm
                  refine Cx.region ?_
                  refine Lx.y (mv rfl) rfl ?_
                  refine Lx.y (fa' fo26_5 rfl) rfl ?_
                  refine Lx.y (ld Tryd.underlying24 rfl rfl rfl) rfl ?_
                  refine Lx.y (mv rfl) rfl ?_
                  refine Lx.y (ia Tryd.underlying24 sz9 rfl rfl (by first | exact Int.toNat_natCast _ | rfl) (by omega) (by omega)) rfl ?_
                  refine Lx.y (ldB Tryd.underlying9 rfl rfl hBn hln) rfl ?_
                  refine Lx.cp rfl rfl rfl (text_ct _ _ hM (by omega)) rfl ?_
                  refine Lx.y (catS rfl rfl (by first | omega | (simp <;> omega))) rfl ?_
                  refine Lx.y (asg rfl) rfl ?_
                  refine Lx.nil ?_
                  refine Xx.tn (k30 _ _ _ _ ?_)
                  refine Cx.region ?_
                  refine Lx.y (mv rfl) rfl ?_
                  refine Lx.y (ldA Tryd.underlying26 rfl sz26 rfl (Cells.own (n := 6) PickB.eq rfl) rfl) rfl ?_
                  refine Lx.cp rfl rfl rfl (ih _ _ _ hv2 hM (by omega)) rfl ?_
                  refine Lx.y (catS rfl rfl (by first | omega | (simp <;> omega))) rfl ?_
                  refine Lx.y (asg rfl) rfl ?_
                  refine Lx.nil ?_
                  refine Xx.bn ?_
                  refine Xx.tn (k27 _ _ _ _ ?_)
                  refine Cx.region ?_
                  refine Lx.y (add rfl rfl (by first | exact wrap64 (by omega) (by omega) | rfl)) rfl ?_
                  refine Lx.y (mv rfl) rfl ?_
                  refine Lx.nil ?_
                  refine Xx.dropB b5 ?_
                  exact Xx.againK ⟨i + 1, by omega, rfl, rfl, rfl, rfl⟩ (by omega) (Sub.consE (s := 3) rfl (by rw [preK_succ, hpt]; simp) (Sub.cons (s := 44) rfl (Sub.cons (s := 0) rfl (Sub.cons (s := 1) rfl (Sub.cons (s := 2) rfl (Sub.cons (s := 6) rfl (Sub.cons (s := 7) rfl (Sub.cons (s := 8) rfl (Sub.cons (s := 9) rfl (Sub.cons (s := 10) rfl (Sub.cons (s := 11) rfl (Sub.cons (s := 12) rfl (Sub.cons (s := 13) rfl (Sub.cons (s := 14) rfl (Sub.cons (s := 21) rfl (Sub.cons (s := 22) rfl (Sub.cons (s := 30) rfl (Sub.cons (s := 38) rfl (Sub.cons (s := 41) rfl (Sub.cons (s := 42) rfl (Sub.cons (s := 43) rfl (Sub.nil _))))))))))))))))))))))
                · skip
                  have hin : ¬ i < v.names.length := by have := h32; omega
                  have hpt : partK (keyF d) v i = [1] ++ [] ++ keyF d v.parts[i] := by unfold partK; rw [if_neg hin, getDp hil]
                  have hpb : partB (bytesF d) v i = bytesF d v.parts[i] := by unfold partB; rw [if_neg hin, getDp hil]; rfl
                  rw [hpb] at hm2
                  refine Cx.skip ?_
                  refine Xx.tn (k30 _ _ _ _ ?_)
                  refine Cx.region ?_
                  refine Lx.y (mv rfl) rfl ?_
                  refine Lx.y (ldA Tryd.underlying26 rfl sz26 rfl (Cells.own (n := 6) PickB.eq rfl) rfl) rfl ?_
                  refine Lx.cp rfl rfl rfl (ih _ _ _ hv2 hM (by omega)) rfl ?_
                  refine Lx.y (catS rfl rfl (by first | omega | (simp <;> omega))) rfl ?_
                  refine Lx.y (asg rfl) rfl ?_
                  refine Lx.nil ?_
                  refine Xx.bn ?_
                  refine Xx.tn (k27 _ _ _ _ ?_)
                  refine Cx.region ?_
                  refine Lx.y (add rfl rfl (by first | exact wrap64 (by omega) (by omega) | rfl)) rfl ?_
                  refine Lx.y (mv rfl) rfl ?_
                  refine Lx.nil ?_
                  refine Xx.dropB b5 ?_
                  exact Xx.againK ⟨i + 1, by omega, rfl, rfl, rfl, rfl⟩ (by omega) (Sub.consE (s := 3) rfl (by rw [preK_succ, hpt]; simp) (Sub.cons (s := 44) rfl (Sub.cons (s := 0) rfl (Sub.cons (s := 1) rfl (Sub.cons (s := 2) rfl (Sub.cons (s := 6) rfl (Sub.cons (s := 7) rfl (Sub.cons (s := 8) rfl (Sub.cons (s := 9) rfl (Sub.cons (s := 10) rfl (Sub.cons (s := 11) rfl (Sub.cons (s := 12) rfl (Sub.cons (s := 13) rfl (Sub.cons (s := 14) rfl (Sub.cons (s := 21) rfl (Sub.cons (s := 22) rfl (Sub.cons (s := 30) rfl (Sub.cons (s := 38) rfl (Sub.cons (s := 41) rfl (Sub.cons (s := 42) rfl (Sub.cons (s := 43) rfl (Sub.nil _))))))))))))))))))))))
              · skip
                obtain rfl : i = v.parts.length := by omega
                refine Cx.exit ?_
                refine Xx.te ?_
                refine Xx.te ?_
                refine Xx.bh ?_
                refine Xx.tn (k22 _ _ _ _ ?_)
                refine Cx.seq (fun K33 k33 => ?_)
                refine Cx.region ?_
                refine Lx.y (mv rfl) rfl ?_
                refine Lx.y (catS rfl rfl (by first | omega | (simp <;> omega))) rfl ?_
                refine Lx.y (asg rfl) rfl ?_
                refine Lx.nil ?_
                refine Xx.tn (k33 _ _ _ _ ?_)
                refine Cx.ret ?_
                refine Xx.br ?_
                refine Xx.tr ?_
                refine Xx.dropB b1 (Xx.rB1 rfl rfl ⟨congrArg str ?_, rfl⟩ (Frag.le_refl _) rfl)
                first | exact hkf.symm | (unfold keyF; rw [if_pos z1, zb]; rfl) | (unfold keyF; rw [if_neg z1, if_pos z2]; rfl) | (unfold keyF; rw [if_neg z1, if_neg z2, if_pos z3]; done) | (unfold keyF; rw [if_neg z1, if_neg z2, if_neg z3, if_neg z4])
            · skip
              have z4 := h21
              refine Cx.skip ?_
              refine Xx.bn ?_
              refine Xx.tn (k3 _ _ _ _ ?_)
              refine Cx.seq (fun K34 k34 => ?_)
              refine Cx.region ?_
              refine Lx.y (mv rfl) rfl ?_
              refine Lx.y (asg rfl) rfl ?_
              refine Lx.nil ?_
              refine Xx.tn (k34 _ _ _ _ ?_)
              refine Cx.ret ?_
              refine Xx.dropB b1 (Xx.rB1 rfl rfl ⟨congrArg str ?_, rfl⟩ (Frag.le_refl _) rfl)
              first | exact hkf.symm | (unfold keyF; rw [if_pos z1, zb]; rfl) | (unfold keyF; rw [if_neg z1, if_pos z2]; rfl) | (unfold keyF; rw [if_neg z1, if_neg z2, if_pos z3]; done) | (unfold keyF; rw [if_neg z1, if_neg z2, if_neg z3, if_neg z4])

theorem Of_ct : ∀ (d : Nat) (v : V) (cs : List Value) (B : Frag), ValR B d v cs → MaxLenIn B → (bytesF d v).length ≤ 1048576 → CtP Tryd.prog 26 [.agg cs.toArray] B (str (keyF d v)) := by
  intro d
  induction d with
  | zero => intro v cs B h; exact h.elim
  | succ d ih => intro v cs B h hM hb; exact Of_step d ih v cs B h hM hb
end KeC
end Go.Proofs.YtfnfkoldifpmhaaDoor
