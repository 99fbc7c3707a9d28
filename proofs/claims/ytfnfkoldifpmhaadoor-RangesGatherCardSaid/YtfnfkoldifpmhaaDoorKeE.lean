/-
  A value cut, a value as the reference has it.
-/
import Derived.Test.YtfnfkoldifpmhaaDoorProg
import Derived.Test.YtfnfkoldifpmhaaDoorSlj
import Derived.Test.YtfnfkoldifpmhaaDoorKeD
namespace Go.Proofs.YtfnfkoldifpmhaaDoor
open Go.SL Go.RowKit
set_option linter.unusedVariables false
set_option linter.unusedSimpArgs false
set_option maxRecDepth 100000
open Ke1 Ke3 Ke4 Ke5 Ke6 Ke7 Ke8 Ke9 KeA KeB KeC KeD
namespace KeE
theorem sz9 : (Tryd.prog.info? 9).map (·.size) = some 1 := by kernel_rfl
theorem sz23 : (Tryd.prog.info? 23).map (·.size) = some 1 := by kernel_rfl
theorem sz24 : (Tryd.prog.info? 24).map (·.size) = some 1 := by kernel_rfl
theorem sz26 : (Tryd.prog.info? 26).map (·.size) = some 6 := by kernel_rfl
theorem sz85 : (Tryd.prog.info? 85).map (·.size) = some 1 := by kernel_rfl
theorem sz87 : (Tryd.prog.info? 87).map (·.size) = some 6 := by kernel_rfl
theorem ti26 : TI Tryd.prog 26 [.int .i64 0, .bool false, .int .i64 0, str [], .slice none 0 0, .slice none 0 0] 6 88 := TI.of (by kernel_rfl) rfl rfl
theorem ti87 : TI Tryd.prog 87 [.int .i64 0, .bool false, .int .i64 0, str [], .slice none 0 0, .slice none 0 0] 6 88 := TI.of (by kernel_rfl) rfl rfl
theorem fo26_0 : FO Tryd.prog 26 0 0 1 false := FO.of Tryd.underlying26 rfl rfl (by kernel_rfl) Tryd.underlying3 rfl rfl
theorem fo26_1 : FO Tryd.prog 26 1 1 1 false := FO.of Tryd.underlying26 rfl rfl (by kernel_rfl) Tryd.underlying4 rfl rfl
theorem fo26_2 : FO Tryd.prog 26 2 2 1 false := FO.of Tryd.underlying26 rfl rfl (by kernel_rfl) Tryd.underlying2 rfl rfl
theorem fo26_3 : FO Tryd.prog 26 3 3 1 false := FO.of Tryd.underlying26 rfl rfl (by kernel_rfl) Tryd.underlying9 rfl rfl
theorem fo26_4 : FO Tryd.prog 26 4 4 1 false := FO.of Tryd.underlying26 rfl rfl (by kernel_rfl) Tryd.underlying23 rfl rfl
theorem fo26_5 : FO Tryd.prog 26 5 5 1 false := FO.of Tryd.underlying26 rfl rfl (by kernel_rfl) Tryd.underlying24 rfl rfl
theorem fo87_4 : FO Tryd.prog 87 4 4 1 false := FO.of Tryd.underlying87 rfl rfl (by kernel_rfl) Tryd.underlying85 rfl rfl
theorem pl87 : PL Tryd.prog 87 [(0, 1), (1, 1), (2, 1), (3, 1), (4, 1), (5, 1)] := PL.of Tryd.underlying87 (by kernel_rfl)

theorem RoE.take {B : Frag} {A : Option Addr} {n : Nat} {xs : List Value} (w : Nat) (h : RoE B A n xs) : RoE B A (min w n) (xs.take w) := by
  refine ⟨by have := h.1; simp; omega, fun k hk => ?_⟩
  obtain ⟨b, o, cs, et, fz, h1, h2, h3⟩ := h.2 k (by omega)
  exact ⟨b, o, cs, et, fz, h1, h2, by rw [h3, List.getElem?_take, if_pos (by omega)]⟩
theorem RoS.part {B : Frag} {A : Option Addr} {n size : Nat} {xs : List Value} (h : RoS B size A n xs) {i : Nat} (hi : i < n) : ∃ b o l et fz, A = some ⟨b, o, none⟩ ∧ B b = some (.cells (List.toArray l) et fz) ∧ (l.drop (o + i * size)).take size = (xs.drop (i * size)).take size := by
  obtain ⟨h1, h2 | ⟨b, o, cs, et, fz, h3, h4, h5⟩⟩ := h
  · omega
  · refine ⟨b, o, cs, et, fz, h3, h4, ?_⟩
    have hle : i * size + size ≤ n * size := by rw [← Nat.succ_mul]; exact Nat.mul_le_mul_right _ hi
    rw [← h5, ← List.drop_drop, List.drop_take, List.take_take, Nat.min_eq_left (by omega)]
/-- A value whose parts lie in one row. -/
theorem ValR.mk {B : Frag} {d : Nat} {v : V} {A An : Option Addr} {c cn : Nat} {xs : List Value} (hs : v.s.length ≤ 4611686018427387904 ∧ -9223372036854775808 ≤ v.n ∧ v.n ≤ 9223372036854775807 ∧ v.names.length ≤ cn ∧ v.parts.length ≤ c) (hp : v.parts.length ≤ 4611686018427387904) (hn : v.names.length ≤ 4611686018427387904)
    (hns : RoE B An v.names.length (v.names.map str)) (hnx : ∀ x ∈ v.names, x.length ≤ 4611686018427387904) (hro : RoS B 6 A v.parts.length xs) (hall : ∀ k (hk : k < v.parts.length), ValR B d v.parts[k] ((xs.drop (k * 6)).take 6)) : ValR B (d + 1) v (vcs v A c An cn) :=
  ⟨A, c, An, cn, rfl, hs, hp, hn, hns, hnx, fun i hi => let ⟨b, o, l, et, fz, h1, h2, h3⟩ := RoS.part hro hi; ⟨b, o, l, et, fz, _, h1, h2, h3, hall i hi⟩⟩
/-- A value cut: so many within one another, beside one another. -/
def cutF : Nat → Nat → V → V
  | 0, w, v => .mk v.kind v.b v.n (v.s.take 1100) [] (v.names.take w)
  | d + 1, w, v => .mk v.kind v.b v.n (v.s.take 1100) ((v.parts.take w).map (cutF d 4)) (v.names.take w)
def cutN (d w : Nat) (v : V) : Nat := if d = 0 then 0 else min v.parts.length w
theorem cutF_kind (d w : Nat) (v : V) : (cutF d w v).kind = v.kind := by cases d <;> rfl
theorem cutF_b (d w : Nat) (v : V) : (cutF d w v).b = v.b := by cases d <;> rfl
theorem cutF_n (d w : Nat) (v : V) : (cutF d w v).n = v.n := by cases d <;> rfl
theorem cutF_s (d w : Nat) (v : V) : (cutF d w v).s = v.s.take 1100 := by cases d <;> rfl
theorem cutF_names (d w : Nat) (v : V) : (cutF d w v).names = v.names.take w := by cases d <;> rfl
theorem cutF_parts (d w : Nat) (v : V) : (cutF d w v).parts.length = cutN d w v := by
  cases d with
  | zero => rfl
  | succ d => show ((v.parts.take w).map _).length = _; unfold cutN; rw [if_neg (by omega)]; simp; omega
theorem cutF_part {d w : Nat} {v : V} {i : Nat} (h : i < v.parts.length) (hi : i < (cutF (d + 1) w v).parts.length) : (cutF (d + 1) w v).parts[i] = cutF d 4 v.parts[i] := by
  show ((v.parts.take w).map (cutF d 4))[i] = _
  simp
theorem cutF_getD {d w : Nat} {v : V} {i : Nat} (h : i < v.parts.length) (hi : i < cutN (d + 1) w v) : (cutF (d + 1) w v).parts.getD i default = cutF d 4 v.parts[i] := by
  rw [getDp (by rw [cutF_parts]; exact hi), cutF_part h]
/-- The parts that were cut so far. -/
def PartsR (B : Frag) (d : Nat) (f : Nat → V) (n : Nat) (xs : List Value) : Prop := xs.length = n * 6 ∧ ∀ k, k < n → ValR B d (f k) ((xs.drop (k * 6)).take 6)
theorem PartsR.mono {B B' : Frag} {d n : Nat} {f : Nat → V} {xs : List Value} (hB : B.le B') (h : PartsR B d f n xs) : PartsR B' d f n xs := ⟨h.1, fun k hk => ValR.mono hB (h.2 k hk)⟩
theorem PartsR.snoc {B : Frag} {d n : Nat} {f : Nat → V} {xs cs : List Value} (h : PartsR B d f n xs) (hl : cs.length = 6) (hv : ValR B d (f n) cs) : PartsR B d f (n + 1) (xs ++ cs) := by
  refine ⟨by simp [h.1, hl]; omega, fun k hk => ?_⟩
  by_cases e : k = n
  · subst e
    rw [← h.1, List.drop_left, List.take_of_length_le (by omega)]
    exact hv
  · have hk2 : k < n := by omega
    have hle : k * 6 + 6 ≤ n * 6 := by omega
    rw [List.drop_append_of_le_length (by rw [h.1]; omega), List.take_append_of_le_length (by rw [List.length_drop, h.1]; omega)]
    exact h.2 k hk2
theorem min_take {α : Type} (l : List α) (w : Nat) (h : l.length ≤ w) : l.take w = l := List.take_of_length_le h

set_option maxHeartbeats 1000000 in
theorem Cut_step (deep w : Nat) (hw : w ≤ 1000) (hd9 : deep ≤ 1000) (ih : ∀ k, k + 1 = deep → ∀ (v : V) (cs : List Value) (d : Nat) (B : Frag), ValR B d v cs → CtB Tryd.prog 37 [.agg cs.toArray, i64 (k : Nat), i64 4] B (fun r B' => ∃ cs', r = .agg cs'.toArray ∧ ValR B' (k + 1) (cutF k 4 v) cs')) (v : V) (cs : List Value) (d : Nat) (B : Frag) (h : ValR B d v cs) : CtB Tryd.prog 37 [.agg cs.toArray, i64 (deep : Nat), i64 (w : Nat)] B (fun r B' => ∃ cs', r = .agg cs'.toArray ∧ ValR B' (deep + 1) (cutF deep w v) cs') := by
  obtain ⟨d, rfl⟩ : ∃ d0, d = d0 + 1 := ⟨d - 1, by cases d with | zero => exact h.elim | succ d => rfl⟩
  obtain ⟨Ap, cp, An, cn, rfl, ⟨hsl, hn1, hn2, hcn, hcp⟩, hpl, hnl, hns, hnx, hps⟩ := h
  refine CtB.of_body Tryd.func37 rfl (nt := 58) rfl (by kernel_rfl) rfl ?_
  intro N0 w0 R
  refine Cx.seq (fun K1 k1 => ?_)
  refine Cx.region ?_
  refine Lx.new (boxA rfl) rfl (fun b3 => ?_)
  refine Lx.new (allocO ti26) rfl (fun b6 => ?_)
  refine Lx.nil ?_
  refine Xx.tn (k1 _ _ _ _ ?_)
  refine Cx.seq (fun K2 k2 => ?_)
  refine Cx.region ?_
  refine Lx.y (ldA Tryd.underlying26 rfl sz26 rfl (Cells.own (n := 6) PickB.eq rfl) rfl) rfl ?_
  refine Lx.new (allocO ti26) rfl (fun b7 => ?_)
  refine Lx.st (stA (d := .bool) sz26 rfl rfl rfl rfl (by show 0 + 6 ≤ 6; omega) rfl) ?_
  refine Lx.nil ?_
  refine Xx.tn (k2 _ _ _ _ ?_)
  refine Cx.cutK (ds' := []) (Sub.cons (s := 0) rfl (Sub.cons (s := 1) rfl (Sub.cons (s := 2) rfl (Sub.cons (s := 3) rfl (Sub.cons (s := 6) rfl (Sub.cons (s := 7) rfl (Sub.cons (s := 10) rfl (Sub.nil _)))))))) (fun ρ' B' H' => ρ' = [] ∧ B = B' ∧ row b7 26 [i64 v.kind, .bool v.b, i64 v.n, str (v.s.take 1100), .slice Ap v.parts.length cp, .slice An v.names.length cn] * (row b6 26 [i64 0, .bool false, i64 0, str [], .slice none 0 0, .slice none 0 0] * (row b3 26 (vcs v Ap cp An cn) * R)) = H') ?_ ?_
  · skip
    refine Cx.seq (fun K3 k3 => ?_)
    refine Cx.region ?_
    refine Lx.y (fa' fo26_3 rfl) rfl ?_
    refine Lx.y (ld Tryd.underlying9 rfl rfl rfl) rfl ?_
    refine Lx.y (lenS Tryd.underlying9 rfl) rfl ?_
    refine Lx.y (gtr rfl rfl) rfl ?_
    refine Lx.nil ?_
    refine Xx.tn (k3 _ _ _ _ ?_)
    refine Cx.condD rfl (fun h4 => ?_) (fun h4 => ?_)
    · skip
      refine Cx.region ?_
      refine Lx.y (fa' fo26_3 rfl) rfl ?_
      refine Lx.y (ld Tryd.underlying9 rfl rfl rfl) rfl ?_
      refine Lx.y (sl2S Tryd.underlying9 rfl rfl (show Int.toNat _ = 1100 from rfl) (by omega) (by omega)) rfl ?_
      refine Lx.y (fa' fo26_3 rfl) rfl ?_
      refine Lx.st (stO Tryd.underlying9 sz9 rfl rfl rfl (by simp) rfl) ?_
      refine Lx.nil ?_
      exact Xx.mkK (⟨rfl, rfl, rfl⟩) (Sub.cons (s := 0) rfl (Sub.cons (s := 1) rfl (Sub.cons (s := 2) rfl (Sub.cons (s := 3) rfl (Sub.cons (s := 6) rfl (Sub.cons (s := 7) rfl (Sub.cons (s := 10) rfl (Sub.nil _))))))))
    · skip
      refine Cx.skip ?_
      exact Xx.mkK (⟨rfl, rfl, by rw [min_take v.s 1100 (by omega)]⟩) (Sub.cons (s := 0) rfl (Sub.cons (s := 1) rfl (Sub.cons (s := 2) rfl (Sub.cons (s := 3) rfl (Sub.cons (s := 6) rfl (Sub.cons (s := 7) rfl (Sub.cons (s := 10) rfl (Sub.nil _))))))))
  · rintro ρ' B' H' ⟨rfl, rfl, rfl⟩
    refine Cx.seq (fun K5 k5 => ?_)
    refine Cx.region ?_
    refine Lx.y (fa' fo26_4 rfl) rfl ?_
    refine Lx.y (ld Tryd.underlying23 rfl rfl rfl) rfl ?_
    refine Lx.y (lenV (ty' := 0) Tryd.underlying23 rfl) rfl ?_
    refine Lx.y (asg rfl) rfl ?_
    refine Lx.nil ?_
    refine Xx.tn (k5 _ _ _ _ ?_)
    refine Cx.cutK (ds' := []) (Sub.cons (s := 0) rfl (Sub.cons (s := 1) rfl (Sub.cons (s := 2) rfl (Sub.cons (s := 3) rfl (Sub.cons (s := 6) rfl (Sub.cons (s := 7) rfl (Sub.cons (s := 10) rfl (Sub.cons (s := 19) rfl (Sub.cons (s := 20) rfl (Sub.cons (s := 21) rfl (Sub.nil _))))))))))) (fun ρ' B' H' => ρ' = [(8, i64 (min v.parts.length w : Nat))] ∧ B = B' ∧ row b7 26 [i64 v.kind, .bool v.b, i64 v.n, str (v.s.take 1100), .slice Ap v.parts.length cp, .slice An v.names.length cn] * (row b6 26 [i64 0, .bool false, i64 0, str [], .slice none 0 0, .slice none 0 0] * (row b3 26 (vcs v Ap cp An cn) * R)) = H') ?_ ?_
    · skip
      refine Cx.seq (fun K6 k6 => ?_)
      refine Cx.region ?_
      refine Lx.y (mv rfl) rfl ?_
      refine Lx.y (mv rfl) rfl ?_
      refine Lx.y (gtr rfl rfl) rfl ?_
      refine Lx.nil ?_
      refine Xx.tn (k6 _ _ _ _ ?_)
      refine Cx.condD rfl (fun h7 => ?_) (fun h7 => ?_)
      · skip
        refine Cx.region ?_
        refine Lx.y (mv rfl) rfl ?_
        refine Lx.y (asg rfl) rfl ?_
        refine Lx.nil ?_
        exact Xx.mkK (⟨rfl, rfl, rfl⟩) (Sub.consE (s := 8) rfl (congrArg (fun z : Nat => i64 (z : Nat)) (by omega)) (Sub.cons (s := 0) rfl (Sub.cons (s := 1) rfl (Sub.cons (s := 2) rfl (Sub.cons (s := 3) rfl (Sub.cons (s := 6) rfl (Sub.cons (s := 7) rfl (Sub.cons (s := 10) rfl (Sub.cons (s := 19) rfl (Sub.cons (s := 20) rfl (Sub.cons (s := 21) rfl (Sub.nil _))))))))))))
      · skip
        refine Cx.skip ?_
        exact Xx.mkK (⟨rfl, rfl, rfl⟩) (Sub.consE (s := 8) rfl (congrArg (fun z : Nat => i64 (z : Nat)) (by omega)) (Sub.cons (s := 0) rfl (Sub.cons (s := 1) rfl (Sub.cons (s := 2) rfl (Sub.cons (s := 3) rfl (Sub.cons (s := 6) rfl (Sub.cons (s := 7) rfl (Sub.cons (s := 10) rfl (Sub.cons (s := 19) rfl (Sub.cons (s := 20) rfl (Sub.cons (s := 21) rfl (Sub.nil _))))))))))))
    · rintro ρ' B' H' ⟨rfl, rfl, rfl⟩
      refine Cx.cutK (ds' := []) (Sub.cons (s := 0) rfl (Sub.cons (s := 1) rfl (Sub.cons (s := 2) rfl (Sub.cons (s := 3) rfl (Sub.cons (s := 6) rfl (Sub.cons (s := 7) rfl (Sub.cons (s := 10) rfl (Sub.cons (s := 19) rfl (Sub.cons (s := 20) rfl (Sub.cons (s := 21) rfl (Sub.nil _))))))))))) (fun ρ' B' H' => ρ' = [(8, i64 (cutN deep w v : Nat))] ∧ B = B' ∧ row b7 26 [i64 v.kind, .bool v.b, i64 v.n, str (v.s.take 1100), .slice Ap v.parts.length cp, .slice An v.names.length cn] * (row b6 26 [i64 0, .bool false, i64 0, str [], .slice none 0 0, .slice none 0 0] * (row b3 26 (vcs v Ap cp An cn) * R)) = H') ?_ ?_
      · skip
        refine Cx.seq (fun K8 k8 => ?_)
        refine Cx.region ?_
        refine Lx.y (mv rfl) rfl ?_
        refine Lx.y (eqI rfl rfl) rfl ?_
        refine Lx.nil ?_
        refine Xx.tn (k8 _ _ _ _ ?_)
        refine Cx.condD rfl (fun h9 => ?_) (fun h9 => ?_)
        · skip
          refine Cx.region ?_
          refine Lx.y (asg rfl) rfl ?_
          refine Lx.nil ?_
          exact Xx.mkK (⟨rfl, rfl, rfl⟩) (Sub.consE (s := 8) rfl (congrArg (fun z : Nat => i64 (z : Nat)) (show 0 = cutN deep w v by unfold cutN; rw [if_pos (by omega)])) (Sub.cons (s := 0) rfl (Sub.cons (s := 1) rfl (Sub.cons (s := 2) rfl (Sub.cons (s := 3) rfl (Sub.cons (s := 6) rfl (Sub.cons (s := 7) rfl (Sub.cons (s := 10) rfl (Sub.cons (s := 19) rfl (Sub.cons (s := 20) rfl (Sub.cons (s := 21) rfl (Sub.nil _))))))))))))
        · skip
          refine Cx.skip ?_
          exact Xx.mkK (⟨rfl, rfl, rfl⟩) (Sub.consE (s := 8) rfl (congrArg (fun z : Nat => i64 (z : Nat)) (show min v.parts.length w = cutN deep w v by unfold cutN; rw [if_neg (by omega)])) (Sub.cons (s := 0) rfl (Sub.cons (s := 1) rfl (Sub.cons (s := 2) rfl (Sub.cons (s := 3) rfl (Sub.cons (s := 6) rfl (Sub.cons (s := 7) rfl (Sub.cons (s := 10) rfl (Sub.cons (s := 19) rfl (Sub.cons (s := 20) rfl (Sub.cons (s := 21) rfl (Sub.nil _))))))))))))
      · rintro ρ' B' H' ⟨rfl, rfl, rfl⟩
        refine Cx.seq (fun K10 k10 => ?_)
        refine Cx.region ?_
        refine Lx.y (fa' fo26_4 rfl) rfl ?_
        refine Lx.st (stO Tryd.underlying23 sz23 rfl rfl rfl (by simp) rfl) ?_
        have hcn1 : cutN deep w v ≤ v.parts.length := by unfold cutN; split <;> omega
        have hcn2 : cutN deep w v ≤ w := by unfold cutN; split <;> omega
        refine Lx.nil ?_
        refine Xx.tn (k10 _ _ _ _ ?_)
        refine Cx.seq (fun K11 k11 => ?_)
        refine Cx.seq (fun K12 k12 => ?_)
        refine Cx.region ?_
        refine Lx.y (asg rfl) rfl ?_
        refine Xx.perm (H' := sbuf 26 6 none 0 0 [] * (_ * (_ * (_ * R)))) ?_ (by rw [sbuf_nil, one_star])
        refine Lx.nil ?_
        refine Xx.tn (k12 _ _ _ _ ?_)
        refine Cx.block ?_
        refine Cx.loopK (Sub.cons (s := 0) rfl (Sub.cons (s := 1) rfl (Sub.cons (s := 2) rfl (Sub.cons (s := 3) rfl (Sub.cons (s := 6) rfl (Sub.cons (s := 7) rfl (Sub.cons (s := 8) rfl (Sub.cons (s := 10) rfl (Sub.cons (s := 19) rfl (Sub.cons (s := 20) rfl (Sub.cons (s := 21) rfl (Sub.cons (s := 28) rfl (Sub.nil _))))))))))))) (fun m ρ' B' H' => ∃ (i : Nat) (A : Option Addr) (c : Nat) (xs : List Value) (B2 : Frag), (i ≤ cutN deep w v ∧ B.le B2 ∧ PartsR B2 deep (fun k => (cutF deep w v).parts.getD k default) i xs) ∧ m = cutN deep w v - i ∧ ρ' = [(9, i64 i)] ∧ B2 = B' ∧ sbuf 26 6 A i c xs * (row b7 26 [i64 v.kind, .bool v.b, i64 v.n, str (v.s.take 1100), .slice A i c, .slice An v.names.length cn] * (row b6 26 [i64 0, .bool false, i64 0, str [], .slice none 0 0, .slice none 0 0] * (row b3 26 (vcs v Ap cp An cn) * R))) = H') ⟨0, none, 0, [], _, ⟨Nat.zero_le _, Frag.le_refl _, rfl, fun k hk => absurd hk (by omega)⟩, rfl, rfl, rfl, rfl⟩ (Sub.cons (s := 9) rfl (Sub.cons (s := 0) rfl (Sub.cons (s := 1) rfl (Sub.cons (s := 2) rfl (Sub.cons (s := 3) rfl (Sub.cons (s := 6) rfl (Sub.cons (s := 7) rfl (Sub.cons (s := 8) rfl (Sub.cons (s := 10) rfl (Sub.cons (s := 19) rfl (Sub.cons (s := 20) rfl (Sub.cons (s := 21) rfl (Sub.cons (s := 28) rfl (Sub.nil _)))))))))))))) ?_
        rintro m ρ' B' H' ⟨i, A, c, xs, B2, ⟨hi, hB2, hpr⟩, rfl, rfl, rfl, rfl⟩
        refine Cx.seq (fun K13 k13 => ?_)
        refine Cx.seq (fun K14 k14 => ?_)
        refine Cx.region ?_
        refine Lx.y (mv rfl) rfl ?_
        refine Lx.y (mv rfl) rfl ?_
        refine Lx.y (lss rfl rfl) rfl ?_
        refine Lx.nil ?_
        refine Xx.tn (k14 _ _ _ _ ?_)
        refine Cx.condD rfl (fun h15 => ?_) (fun h15 => ?_)
        · skip
          have hlt := h15
          refine Cx.skip ?_
          refine Xx.tn (k13 _ _ _ _ ?_)
          refine Cx.seq (fun K16 k16 => ?_)
          refine Cx.block ?_
          have hil : i < v.parts.length := by omega
          have hdp : deep ≠ 0 := fun e => by subst e; unfold cutN at hcn1 hi hlt; simp at hlt; omega
          obtain ⟨k, rfl⟩ : ∃ k, deep = k + 1 := ⟨deep - 1, by omega⟩
          obtain ⟨bq, oq, lq, eq, fq, xs0, rfl, hBq, hxs, hv2⟩ := hps i hil
          obtain ⟨Ap2, cp2, An2, cn2, rfl⟩ := ValR.shape hv2
          refine Cx.drawn (by kernel_rfl) ?_
          refine Dx.p (i := 0) rfl (by kernel_rfl) (fa' fo26_4 rfl) rfl ?_
          refine Dx.r (i := 1) rfl (by kernel_rfl) (ld Tryd.underlying23 rfl rfl rfl) rfl ?_
          refine Dx.p (i := 2) rfl (by kernel_rfl) (fa' fo26_4 rfl) rfl ?_
          refine Dx.r (i := 3) rfl (by kernel_rfl) (ld Tryd.underlying23 rfl rfl rfl) rfl ?_
          refine Dx.p (i := 4) rfl (by kernel_rfl) (mv rfl) rfl ?_
          refine Dx.p (i := 5) rfl (by kernel_rfl) (ia Tryd.underlying23 sz26 rfl rfl (by first | exact Int.toNat_natCast _ | rfl) (by omega) (by omega)) rfl ?_
          refine Dx.r (i := 6) rfl (by kernel_rfl) (ldA Tryd.underlying26 rfl sz26 rfl (Cells.base (n := 6) (by first | exact hB2 _ _ hBq | exact hBc _ _ (hB2 _ _ hBq)) hxs) rfl) rfl ?_
          refine Dx.p (i := 7) rfl (by kernel_rfl) (mv rfl) rfl ?_
          refine Dx.p (i := 8) rfl (by kernel_rfl) (sub rfl rfl (show IntKind.i64.wrap _ = ((k : Nat) : Int) by rw [wrap64 (by omega) (by omega)]; omega)) rfl ?_
          refine Dx.one (i := 9) (by kernel_rfl) ?_
          refine Dstep.o (i := 9) rfl (Ox.cb rfl rfl rfl (ih k rfl _ _ _ _ (ValR.mono hB2 hv2))) rfl (fun v B' H' hΦ hB => ?_)
          obtain ⟨rfl, hΦ⟩ := hΦ
          have hBc := hB
          obtain ⟨cs2, rfl, hv3⟩ := hΦ
          obtain ⟨Ap3, cp3, An3, cn3, rfl⟩ := ValR.shape hv3
          refine ⟨JOk.edge (JOk.yes (JOk.yes (JOk.top) (ld Tryd.underlying23 rfl rfl rfl)) (ld Tryd.underlying23 rfl rfl rfl)) (by kernel_rfl), ?_⟩
          refine Dx.one (i := 10) (by kernel_rfl) ?_
          refine Dstep.o (i := 10) rfl (bslA Tryd.underlying23 ti26 rfl rfl (by decide)) rfl (fun v B' H' hΦ hB => ?_)
          obtain ⟨b12, rfl, rfl, rfl⟩ := hΦ; clear hB
          refine ⟨JOk.yes (JOk.yes (JOk.yes (JOk.top) (ld Tryd.underlying23 rfl rfl rfl)) (ld Tryd.underlying23 rfl rfl rfl)) (ldA Tryd.underlying26 rfl sz26 rfl (Cells.base (n := 6) (by first | exact hB2 _ _ hBq | exact hBc _ _ (hB2 _ _ hBq)) hxs) rfl), ?_⟩
          refine Dx.one (i := 11) (by kernel_rfl) ?_
          refine Dstep.o (i := 11) rfl (appR Tryd.underlying23 Tryd.underlying23 ti26 rfl rfl rfl rfl rfl (by omega) (by omega)) rfl (fun v B' H' hΦ hB => ?_)
          obtain ⟨A2, c2, rfl, hA2, hl2, hc2, rfl, rfl⟩ := hΦ
          refine ⟨JOk.yes (JOk.yes (JOk.edge (JOk.top) (by kernel_rfl)) (ld Tryd.underlying23 rfl rfl rfl)) (ldA Tryd.underlying26 rfl sz26 rfl (Cells.base (n := 6) (by first | exact hB2 _ _ hBq | exact hBc _ _ (hB2 _ _ hBq)) hxs) rfl), ?_⟩
          refine Dx.p (i := 12) rfl (by kernel_rfl) (fa' fo26_4 rfl) rfl ?_
          refine Dx.one (i := 13) (by kernel_rfl) ?_
          refine Dstep.o0 (i := 13) rfl (stO Tryd.underlying23 sz23 rfl rfl rfl (by simp) rfl) (fun v B' H' hΦ hB => ?_)
          obtain ⟨rfl, rfl⟩ := hΦ; clear hB v
          refine ⟨JOk.edge (JOk.edge (JOk.edge (JOk.top) (by kernel_rfl)) (by kernel_rfl)) (by kernel_rfl), ?_⟩
          refine Dx.done (by kernel_rfl) ?_
          refine Xx.bn ?_
          refine Xx.tn (k16 _ _ _ _ ?_)
          refine Cx.region ?_
          refine Lx.y (mv rfl) rfl ?_
          refine Lx.y (add rfl rfl (by first | exact wrap64 (by omega) (by omega) | rfl)) rfl ?_
          refine Lx.y (asg rfl) rfl ?_
          refine Lx.nil ?_
          refine Xx.dropB b12 ?_
          refine Xx.perm ?_ (PickS.eq (A := A2))
          exact Xx.againK ⟨i + 1, A2, c2, _, _, ⟨by omega, Frag.le_trans hB2 hBc, PartsR.snoc (hpr.mono hBc) rfl (by rw [cutF_getD hil (by omega)]; exact hv3)⟩, rfl, rfl, rfl, rfl⟩ (by omega) (Sub.cons (s := 9) rfl (Sub.cons (s := 0) rfl (Sub.cons (s := 1) rfl (Sub.cons (s := 2) rfl (Sub.cons (s := 3) rfl (Sub.cons (s := 6) rfl (Sub.cons (s := 7) rfl (Sub.cons (s := 8) rfl (Sub.cons (s := 10) rfl (Sub.cons (s := 19) rfl (Sub.cons (s := 20) rfl (Sub.cons (s := 21) rfl (Sub.cons (s := 28) rfl (Sub.nil _))))))))))))))
        · skip
          obtain rfl : i = cutN deep w v := by omega
          refine Cx.exit ?_
          refine Xx.te ?_
          refine Xx.te ?_
          refine Xx.bh ?_
          refine Xx.tn (k11 _ _ _ _ ?_)
          refine Cx.cutK (ds' := []) (Sub.cons (s := 0) rfl (Sub.cons (s := 1) rfl (Sub.cons (s := 2) rfl (Sub.cons (s := 3) rfl (Sub.cons (s := 6) rfl (Sub.cons (s := 7) rfl (Sub.cons (s := 8) rfl (Sub.cons (s := 9) rfl (Sub.cons (s := 10) rfl (Sub.cons (s := 19) rfl (Sub.cons (s := 20) rfl (Sub.cons (s := 21) rfl (Sub.cons (s := 28) rfl (Sub.cons (s := 29) rfl (Sub.cons (s := 30) rfl (Sub.cons (s := 31) rfl (Sub.nil _))))))))))))))))) (fun ρ' B' H' => ρ' = [] ∧ B2 = B' ∧ ∃ cn', (cutF deep w v).names.length ≤ cn' ∧ sbuf 26 6 A (cutN deep w v) c xs * (row b7 26 (vcs (cutF deep w v) A c An cn') * (row b6 26 [i64 0, .bool false, i64 0, str [], .slice none 0 0, .slice none 0 0] * (row b3 26 (vcs v Ap cp An cn) * R))) = H') ?_ ?_
          · skip
            refine Cx.seq (fun K17 k17 => ?_)
            refine Cx.region ?_
            refine Lx.y (fa' fo26_5 rfl) rfl ?_
            refine Lx.y (ld Tryd.underlying24 rfl rfl rfl) rfl ?_
            refine Lx.y (lenV (ty' := 0) Tryd.underlying24 rfl) rfl ?_
            refine Lx.y (mv rfl) rfl ?_
            refine Lx.y (gtr rfl rfl) rfl ?_
            refine Lx.nil ?_
            refine Xx.tn (k17 _ _ _ _ ?_)
            refine Cx.condD rfl (fun h18 => ?_) (fun h18 => ?_)
            · skip
              refine Cx.region ?_
              refine Lx.y (fa' fo26_5 rfl) rfl ?_
              refine Lx.y (ld Tryd.underlying24 rfl rfl rfl) rfl ?_
              refine Lx.y (mv rfl) rfl ?_
              refine Lx.y (sl2V Tryd.underlying24 sz9 rfl rfl (by first | exact Int.toNat_natCast _ | rfl) (by omega) (by omega)) rfl ?_
              refine Lx.y (fa' fo26_5 rfl) rfl ?_
              refine Lx.st (stO Tryd.underlying24 sz24 rfl rfl rfl (by simp) rfl) ?_
              refine Lx.nil ?_
              exact Xx.mkK (⟨rfl, rfl, cn, by rw [cutF_names, List.length_take]; omega, by simp only [vcs, cutF_kind, cutF_b, cutF_n, cutF_s, cutF_names, cutF_parts, List.length_take, Nat.min_eq_left (show w ≤ v.names.length by omega)]; ac_rfl⟩) (Sub.cons (s := 0) rfl (Sub.cons (s := 1) rfl (Sub.cons (s := 2) rfl (Sub.cons (s := 3) rfl (Sub.cons (s := 6) rfl (Sub.cons (s := 7) rfl (Sub.cons (s := 8) rfl (Sub.cons (s := 9) rfl (Sub.cons (s := 10) rfl (Sub.cons (s := 19) rfl (Sub.cons (s := 20) rfl (Sub.cons (s := 21) rfl (Sub.cons (s := 28) rfl (Sub.cons (s := 29) rfl (Sub.cons (s := 30) rfl (Sub.cons (s := 31) rfl (Sub.nil _)))))))))))))))))
            · skip
              refine Cx.skip ?_
              exact Xx.mkK (⟨rfl, rfl, cn, by rw [cutF_names, List.length_take]; omega, by simp only [vcs, cutF_kind, cutF_b, cutF_n, cutF_s, cutF_names, cutF_parts, List.length_take, Nat.min_eq_right (show v.names.length ≤ w by omega)]⟩) (Sub.cons (s := 0) rfl (Sub.cons (s := 1) rfl (Sub.cons (s := 2) rfl (Sub.cons (s := 3) rfl (Sub.cons (s := 6) rfl (Sub.cons (s := 7) rfl (Sub.cons (s := 8) rfl (Sub.cons (s := 9) rfl (Sub.cons (s := 10) rfl (Sub.cons (s := 19) rfl (Sub.cons (s := 20) rfl (Sub.cons (s := 21) rfl (Sub.cons (s := 28) rfl (Sub.cons (s := 29) rfl (Sub.cons (s := 30) rfl (Sub.cons (s := 31) rfl (Sub.nil _)))))))))))))))))
          · rintro ρ' B' H' ⟨rfl, rfl, cnz, hcz, rfl⟩
            refine Cx.seq (fun K19 k19 => ?_)
            refine Cx.region ?_
            refine Lx.y (ldA Tryd.underlying26 rfl sz26 rfl (Cells.own (n := 6) PickB.eq rfl) rfl) rfl ?_
            refine Lx.st (stA (d := .bool) sz26 rfl rfl rfl rfl (by show 0 + 6 ≤ 6; omega) rfl) ?_
            refine Lx.nil ?_
            refine Xx.tn (k19 _ _ _ _ ?_)
            refine Cx.ret ?_
            refine Xx.freezeT A fun B3 hB3 hRo hnc _ => ?_
            have hro2 : RoS B3 6 A (cutF (deep) w v).parts.length xs := by rw [cutF_parts]; exact hRo
            refine Xx.dropB b7 (Xx.dropB b3 ?_)
            refine Xx.rBa rfl Tryd.underlying26 rfl sz26 rfl rfl ⟨_, rfl, ?_⟩ (Frag.le_trans hB2 hB3)
            exact ValR.mk (by rw [cutF_s, cutF_n, cutF_parts]; exact ⟨by simp; omega, hn1, hn2, hcz, hnc⟩) (by rw [cutF_parts]; omega) (by rw [cutF_names]; simp; omega) (by rw [cutF_names, List.length_take, List.map_take]; exact RoE.take w (hns.mono (Frag.le_trans hB2 hB3))) (fun x hx => hnx x (by rw [cutF_names] at hx; exact List.mem_of_mem_take hx)) hro2 (fun k hk => by
              have h9 : ValR B3 deep ((cutF deep w v).parts.getD k default) _ := (hpr.mono hB3).2 k (by rw [cutF_parts] at hk; exact hk)
              rw [getDp hk] at h9
              exact h9)

theorem Cut_ct : ∀ (deep w : Nat) (v : V) (cs : List Value) (d : Nat) (B : Frag), w ≤ 1000 → deep ≤ 1000 → ValR B d v cs → CtB Tryd.prog 37 [.agg cs.toArray, i64 (deep : Nat), i64 (w : Nat)] B (fun r B' => ∃ cs', r = .agg cs'.toArray ∧ ValR B' (deep + 1) (cutF deep w v) cs') := by
  intro deep
  induction deep with
  | zero => intro w v cs d B hw hd h; exact Cut_step 0 w hw hd (fun k hk => absurd hk (by omega)) v cs d B h
  | succ k ih => intro w v cs d B hw hd h; exact Cut_step (k + 1) w hw hd (fun k' hk v cs d B h => by obtain rfl : k' = k := by omega
                                                                                                      exact ih 4 v cs d B (by omega) (by omega) h) v cs d B h

/-- few parts, all the way down -/
def Few : Nat → V → Prop
  | 0, _ => True
  | d + 1, v => v.parts.length ≤ 1000 ∧ ∀ p ∈ v.parts, Few d p
theorem Few.parts {d : Nat} {v : V} (h : Few (d + 1) v) {i : Nat} (hi : i < v.parts.length) : Few d v.parts[i] := h.2 _ (List.getElem_mem hi)
theorem cutF_few : ∀ (deep w d : Nat) (v : V), w ≤ 1000 → Few d (cutF deep w v) := by
  intro deep
  induction deep with
  | zero => intro w d v hw; cases d with
    | zero => exact trivial
    | succ d => exact ⟨by show ([] : List V).length ≤ _; simp, fun p hp => by cases hp⟩
  | succ k ih => intro w d v hw; cases d with
    | zero => exact trivial
    | succ d =>
      refine ⟨by rw [cutF_parts]; unfold cutN; rw [if_neg (by omega)]; omega, fun p hp => ?_⟩
      have hp' : p ∈ (v.parts.take w).map (cutF k 4) := hp
      obtain ⟨q, _, rfl⟩ := List.mem_map.1 hp'
      exact ih 4 d q (by omega)

set_option maxHeartbeats 1000000 in
theorem Ref_step (d : Nat) (ih : ∀ (v : V) (cs : List Value) (B : Frag), ValR B d v cs → Few d v → CtB Tryd.prog 53 [.agg cs.toArray] B (fun r B' => ∃ cs', r = .agg cs'.toArray ∧ ValR B' d v cs')) (v : V) (cs : List Value) (B : Frag) (h : ValR B (d + 1) v cs) (hf : Few (d + 1) v) : CtB Tryd.prog 53 [.agg cs.toArray] B (fun r B' => ∃ cs', r = .agg cs'.toArray ∧ ValR B' (d + 1) v cs') := by
  have hsm := hf.1
  obtain ⟨Ap, cp, An, cn, rfl, ⟨hsl, hn1, hn2, hcn, hcp⟩, hpl, hnl, hns, hnx, hps⟩ := h
  refine CtB.of_body Tryd.func53 rfl (nt := 35) rfl (by kernel_rfl) rfl ?_
  intro N0 w0 R
  refine Cx.seq (fun K1 k1 => ?_)
  refine Cx.region ?_
  refine Lx.new (boxA rfl) rfl (fun b1 => ?_)
  refine Lx.new (allocO ti87) rfl (fun b2 => ?_)
  refine Lx.nil ?_
  refine Xx.tn (k1 _ _ _ _ ?_)
  refine Cx.seq (fun K2 k2 => ?_)
  refine Cx.region ?_
  refine Lx.y (fa' fo26_0 rfl) rfl ?_
  refine Lx.y (ld Tryd.underlying3 rfl rfl rfl) rfl ?_
  refine Lx.y (fa' fo26_1 rfl) rfl ?_
  refine Lx.y (ld Tryd.underlying4 rfl rfl rfl) rfl ?_
  refine Lx.y (fa' fo26_2 rfl) rfl ?_
  refine Lx.y (ld Tryd.underlying2 rfl rfl rfl) rfl ?_
  refine Lx.y (fa' fo26_3 rfl) rfl ?_
  refine Lx.y (ld Tryd.underlying9 rfl rfl rfl) rfl ?_
  refine Lx.y (fa' fo26_5 rfl) rfl ?_
  refine Lx.y (ld Tryd.underlying24 rfl rfl rfl) rfl ?_
  refine Lx.y (bld ti87 pl87 rfl rfl) rfl ?_
  refine Lx.new (allocO ti87) rfl (fun b3 => ?_)
  refine Lx.st (stA (d := .bool) sz87 rfl rfl rfl rfl (by show 0 + 6 ≤ 6; omega) rfl) ?_
  refine Lx.nil ?_
  refine Xx.tn (k2 _ _ _ _ ?_)
  refine Cx.seq (fun K3 k3 => ?_)
  refine Cx.seq (fun K4 k4 => ?_)
  refine Cx.region ?_
  refine Lx.y (asg rfl) rfl ?_
  refine Xx.perm (H' := sbuf 87 6 none 0 0 [] * (_ * (_ * (_ * R)))) ?_ (by rw [sbuf_nil, one_star])
  refine Lx.nil ?_
  refine Xx.tn (k4 _ _ _ _ ?_)
  refine Cx.block ?_
  refine Cx.loopK (Sub.cons (s := 0) rfl (Sub.cons (s := 1) rfl (Sub.cons (s := 2) rfl (Sub.cons (s := 3) rfl (Sub.cons (s := 5) rfl (Sub.cons (s := 6) rfl (Sub.cons (s := 7) rfl (Sub.cons (s := 8) rfl (Sub.cons (s := 9) rfl (Sub.cons (s := 10) rfl (Sub.cons (s := 11) rfl (Sub.cons (s := 12) rfl (Sub.cons (s := 13) rfl (Sub.cons (s := 14) rfl (Sub.cons (s := 15) rfl (Sub.nil _)))))))))))))))) (fun m ρ' B' H' => ∃ (i : Nat) (A : Option Addr) (c : Nat) (xs : List Value) (B2 : Frag), (i ≤ v.parts.length ∧ B.le B2 ∧ PartsR B2 d (fun k => v.parts.getD k default) i xs) ∧ m = v.parts.length - i ∧ ρ' = [(4, i64 i)] ∧ B2 = B' ∧ sbuf 87 6 A i c xs * (row b3 87 [i64 v.kind, .bool v.b, i64 v.n, str v.s, .slice A i c, .slice An v.names.length cn] * (row b2 87 [i64 0, .bool false, i64 0, str [], .slice none 0 0, .slice none 0 0] * (row b1 26 (vcs v Ap cp An cn) * R))) = H') ⟨0, none, 0, [], _, ⟨Nat.zero_le _, Frag.le_refl _, rfl, fun k hk => absurd hk (by omega)⟩, rfl, rfl, rfl, rfl⟩ (Sub.cons (s := 4) rfl (Sub.cons (s := 0) rfl (Sub.cons (s := 1) rfl (Sub.cons (s := 2) rfl (Sub.cons (s := 3) rfl (Sub.cons (s := 5) rfl (Sub.cons (s := 6) rfl (Sub.cons (s := 7) rfl (Sub.cons (s := 8) rfl (Sub.cons (s := 9) rfl (Sub.cons (s := 10) rfl (Sub.cons (s := 11) rfl (Sub.cons (s := 12) rfl (Sub.cons (s := 13) rfl (Sub.cons (s := 14) rfl (Sub.cons (s := 15) rfl (Sub.nil _))))))))))))))))) ?_
  rintro m ρ' B' H' ⟨i, A, c, xs, B2, ⟨hi, hB2, hpr⟩, rfl, rfl, rfl, rfl⟩
  refine Cx.seq (fun K5 k5 => ?_)
  refine Cx.seq (fun K6 k6 => ?_)
  refine Cx.region ?_
  refine Lx.y (mv rfl) rfl ?_
  refine Lx.y (fa' fo26_4 rfl) rfl ?_
  refine Lx.y (ld Tryd.underlying23 rfl rfl rfl) rfl ?_
  refine Lx.y (lenV (ty' := 0) Tryd.underlying23 rfl) rfl ?_
  refine Lx.y (lss rfl rfl) rfl ?_
  refine Lx.nil ?_
  refine Xx.tn (k6 _ _ _ _ ?_)
  refine Cx.condD rfl (fun h7 => ?_) (fun h7 => ?_)
  · skip
    have hlt := h7
    refine Cx.skip ?_
    refine Xx.tn (k5 _ _ _ _ ?_)
    refine Cx.seq (fun K8 k8 => ?_)
    refine Cx.block ?_
    have hil : i < v.parts.length := by omega
    obtain ⟨bq, oq, lq, eq, fq, xs0, rfl, hBq, hxs, hv2⟩ := hps i hil
    obtain ⟨Ap2, cp2, An2, cn2, rfl⟩ := ValR.shape hv2
    refine Cx.drawn (by kernel_rfl) ?_
    refine Dx.p (i := 0) rfl (by kernel_rfl) (fa' fo87_4 rfl) rfl ?_
    refine Dx.r (i := 1) rfl (by kernel_rfl) (ld Tryd.underlying85 rfl rfl rfl) rfl ?_
    refine Dx.p (i := 2) rfl (by kernel_rfl) (fa' fo26_4 rfl) rfl ?_
    refine Dx.r (i := 3) rfl (by kernel_rfl) (ld Tryd.underlying23 rfl rfl rfl) rfl ?_
    refine Dx.p (i := 4) rfl (by kernel_rfl) (mv rfl) rfl ?_
    refine Dx.p (i := 5) rfl (by kernel_rfl) (ia Tryd.underlying23 sz26 rfl rfl (by first | exact Int.toNat_natCast _ | rfl) (by omega) (by omega)) rfl ?_
    refine Dx.r (i := 6) rfl (by kernel_rfl) (ldA Tryd.underlying26 rfl sz26 rfl (Cells.base (n := 6) (by first | exact hB2 _ _ hBq | exact hBc _ _ (hB2 _ _ hBq)) hxs) rfl) rfl ?_
    refine Dx.one (i := 7) (by kernel_rfl) ?_
    refine Dstep.o (i := 7) rfl (Ox.cb rfl rfl rfl (ih _ _ _ (ValR.mono hB2 hv2) (hf.parts hil))) rfl (fun v B' H' hΦ hB => ?_)
    obtain ⟨rfl, hΦ⟩ := hΦ
    have hBc := hB
    obtain ⟨cs2, rfl, hv3⟩ := hΦ
    obtain ⟨Ap3, cp3, An3, cn3, rfl⟩ := ValR.shape hv3
    refine ⟨JOk.edge (JOk.yes (JOk.yes (JOk.top) (ld Tryd.underlying85 rfl rfl rfl)) (ld Tryd.underlying23 rfl rfl rfl)) (by kernel_rfl), ?_⟩
    refine Dx.one (i := 8) (by kernel_rfl) ?_
    refine Dstep.o (i := 8) rfl (bslA Tryd.underlying85 ti87 rfl rfl (by decide)) rfl (fun v B' H' hΦ hB => ?_)
    obtain ⟨b12, rfl, rfl, rfl⟩ := hΦ; clear hB
    refine ⟨JOk.yes (JOk.yes (JOk.yes (JOk.top) (ld Tryd.underlying85 rfl rfl rfl)) (ld Tryd.underlying23 rfl rfl rfl)) (ldA Tryd.underlying26 rfl sz26 rfl (Cells.base (n := 6) (by first | exact hB2 _ _ hBq | exact hBc _ _ (hB2 _ _ hBq)) hxs) rfl), ?_⟩
    refine Dx.one (i := 9) (by kernel_rfl) ?_
    refine Dstep.o (i := 9) rfl (appR Tryd.underlying85 Tryd.underlying85 ti87 rfl rfl rfl rfl rfl (by omega) (by omega)) rfl (fun v B' H' hΦ hB => ?_)
    obtain ⟨A2, c2, rfl, hA2, hl2, hc2, rfl, rfl⟩ := hΦ
    refine ⟨JOk.yes (JOk.yes (JOk.edge (JOk.top) (by kernel_rfl)) (ld Tryd.underlying23 rfl rfl rfl)) (ldA Tryd.underlying26 rfl sz26 rfl (Cells.base (n := 6) (by first | exact hB2 _ _ hBq | exact hBc _ _ (hB2 _ _ hBq)) hxs) rfl), ?_⟩
    refine Dx.p (i := 10) rfl (by kernel_rfl) (fa' fo87_4 rfl) rfl ?_
    refine Dx.one (i := 11) (by kernel_rfl) ?_
    refine Dstep.o0 (i := 11) rfl (stO Tryd.underlying85 sz85 rfl rfl rfl (by simp) rfl) (fun v B' H' hΦ hB => ?_)
    obtain ⟨rfl, rfl⟩ := hΦ; clear hB v
    refine ⟨JOk.edge (JOk.edge (JOk.edge (JOk.top) (by kernel_rfl)) (by kernel_rfl)) (by kernel_rfl), ?_⟩
    refine Dx.done (by kernel_rfl) ?_
    refine Xx.bn ?_
    refine Xx.tn (k8 _ _ _ _ ?_)
    refine Cx.region ?_
    refine Lx.y (mv rfl) rfl ?_
    refine Lx.y (add rfl rfl (by first | exact wrap64 (by omega) (by omega) | rfl)) rfl ?_
    refine Lx.y (asg rfl) rfl ?_
    refine Lx.nil ?_
    refine Xx.dropB b12 ?_
    refine Xx.perm ?_ (PickS.eq (A := A2))
    exact Xx.againK ⟨i + 1, A2, c2, _, _, ⟨by omega, Frag.le_trans hB2 hBc, PartsR.snoc (hpr.mono hBc) rfl (by rw [getDp hil]; exact hv3)⟩, rfl, rfl, rfl, rfl⟩ (by omega) (Sub.cons (s := 4) rfl (Sub.cons (s := 0) rfl (Sub.cons (s := 1) rfl (Sub.cons (s := 2) rfl (Sub.cons (s := 3) rfl (Sub.cons (s := 5) rfl (Sub.cons (s := 6) rfl (Sub.cons (s := 7) rfl (Sub.cons (s := 8) rfl (Sub.cons (s := 9) rfl (Sub.cons (s := 10) rfl (Sub.cons (s := 11) rfl (Sub.cons (s := 12) rfl (Sub.cons (s := 13) rfl (Sub.cons (s := 14) rfl (Sub.cons (s := 15) rfl (Sub.nil _)))))))))))))))))
  · skip
    obtain rfl : i = v.parts.length := by omega
    refine Cx.exit ?_
    refine Xx.te ?_
    refine Xx.te ?_
    refine Xx.bh ?_
    refine Xx.tn (k3 _ _ _ _ ?_)
    refine Cx.seq (fun K9 k9 => ?_)
    refine Cx.region ?_
    refine Lx.y (ldA Tryd.underlying87 rfl sz87 rfl (Cells.own (n := 6) PickB.eq rfl) rfl) rfl ?_
    refine Lx.st (stA (d := .bool) sz87 rfl rfl rfl rfl (by show 0 + 6 ≤ 6; omega) rfl) ?_
    refine Lx.nil ?_
    refine Xx.tn (k9 _ _ _ _ ?_)
    refine Cx.ret ?_
    refine Xx.freezeT A fun B3 hB3 hRo hnc _ => ?_
    refine Xx.dropB b3 (Xx.dropB b1 ?_)
    refine Xx.rBa rfl Tryd.underlying87 rfl sz87 rfl rfl ⟨_, rfl, ?_⟩ (Frag.le_trans hB2 hB3)
    exact ValR.mk ⟨hsl, hn1, hn2, hcn, hnc⟩ hpl hnl (hns.mono (Frag.le_trans hB2 hB3)) hnx hRo (fun k hk => by
      have h9 : ValR B3 d (v.parts.getD k default) _ := (hpr.mono hB3).2 k hk
      rw [getDp hk] at h9
      exact h9)

theorem Ref_ct : ∀ (d : Nat) (v : V) (cs : List Value) (B : Frag), ValR B d v cs → Few d v → CtB Tryd.prog 53 [.agg cs.toArray] B (fun r B' => ∃ cs', r = .agg cs'.toArray ∧ ValR B' d v cs') := by
  intro d
  induction d with
  | zero => intro v cs B h; exact h.elim
  | succ d ih =>
    intro v cs B h hf
    exact Ref_step d ih v cs B h hf
end KeE
end Go.Proofs.YtfnfkoldifpmhaaDoor
