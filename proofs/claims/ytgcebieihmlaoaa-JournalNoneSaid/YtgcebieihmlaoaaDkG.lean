/-
  Sectors that are touched.
-/
import Derived.Test.YtgcebieihmlaoaaProg
import Derived.Test.YtgcebieihmlaoaaSlj
import Derived.Test.YtgcebieihmlaoaaDkF
namespace Go.Proofs.Ytgcebieihmlaoaa
open Go.SL Go.RowKit
set_option linter.unusedVariables false
set_option linter.unusedSimpArgs false
set_option maxRecDepth 100000
open DkA DkB DkC DkD DkE DkF
namespace DkG
theorem sz3 : (Try.prog.info? 3).map (·.size) = some 1 := by kernel_rfl
theorem sz5 : (Try.prog.info? 5).map (·.size) = some 1 := by kernel_rfl
theorem sz25 : (Try.prog.info? 25).map (·.size) = some 3 := by kernel_rfl
theorem sz39 : (Try.prog.info? 39).map (·.size) = some 1 := by kernel_rfl
theorem ti3 : TI Try.prog 3 [.int .i64 0] 1 8 := TI.of (by kernel_rfl) rfl rfl
theorem ti5 : TI Try.prog 5 [.int .u8 0] 1 1 := TI.of (by kernel_rfl) rfl rfl
theorem fo102_2 : FO Try.prog 102 2 2 1 false := FO.of Try.underlying102 rfl rfl (by kernel_rfl) Try.underlying39 rfl rfl

def insN (l : List Nat) (i : Nat) : List Nat := if i ∈ l then l else l.take (lbN l i) ++ [i] ++ l.drop (lbN l i)
/-- the sectors of some bytes, among those that are not sure -/
def touchL (l : List Nat) (fr tu : Nat) : List Nat := if fr < tu then (List.range' (fr / 64) (sec tu - fr / 64)).foldl insN l else l
theorem lbN_take : ∀ (l : List Nat) (t : Nat), ∀ x ∈ l.take (lbN l t), x < t := by
  intro l t
  induction l with
  | nil => intro x hx; simp [lbN] at hx
  | cons k l ih =>
    intro x hx
    unfold lbN at hx
    split at hx
    · rename_i h
      rw [List.take_succ_cons] at hx
      rcases List.mem_cons.1 hx with rfl | hx
      · exact h
      · exact ih x hx
    · simp at hx
theorem lbN_drop : ∀ (l : List Nat) (t : Nat), Rise l → ∀ x ∈ l.drop (lbN l t), t ≤ x := by
  intro l t
  induction l with
  | nil => intro _ x hx; simp at hx
  | cons k l ih =>
    intro hr x hx
    unfold lbN at hx
    split at hx
    · rw [List.drop_succ_cons] at hx
      exact ih (List.pairwise_cons.1 hr).2 x hx
    · rename_i h
      rw [List.drop_zero] at hx
      rcases List.mem_cons.1 hx with rfl | hx
      · omega
      · have := (List.pairwise_cons.1 hr).1 x hx; omega
theorem lbN_le (l : List Nat) (t : Nat) : lbN l t ≤ l.length := by
  induction l with
  | nil => exact Nat.le_refl _
  | cons k l ih => unfold lbN; split <;> simp <;> omega
theorem insN_mem (l : List Nat) (i x : Nat) : x ∈ insN l i ↔ x ∈ l ∨ x = i := by
  unfold insN
  split
  · rename_i h
    constructor
    · exact .inl
    · rintro (h1 | rfl)
      · exact h1
      · exact h
  · conv => rhs; rw [← List.take_append_drop (lbN l i) l]
    simp only [List.mem_append, List.mem_singleton]
    constructor
    · rintro ((h | h) | h)
      · exact .inl (.inl h)
      · exact .inr h
      · exact .inl (.inr h)
    · rintro ((h | h) | h)
      · exact .inl (.inl h)
      · exact .inr h
      · exact .inl (.inr h)
theorem insN_rise {l : List Nat} (h : Rise l) (i : Nat) : Rise (insN l i) := by
  unfold insN
  split
  · exact h
  · rename_i hi
    have ht := lbN_take l i
    have hd := lbN_drop l i h
    have hd2 : ∀ x ∈ l.drop (lbN l i), i < x := fun x hx => by
      have h1 := hd x hx
      have : x ≠ i := fun e => hi (e ▸ List.mem_of_mem_drop hx)
      omega
    refine List.pairwise_append.2 ⟨List.pairwise_append.2 ⟨h.sublist (List.take_sublist _ _), List.pairwise_singleton _ _, fun a ha b hb => ?_⟩, h.sublist (List.drop_sublist _ _), fun a ha b hb => ?_⟩
    · rw [List.mem_singleton.1 hb]; exact ht a ha
    · rcases List.mem_append.1 ha with ha | ha
      · exact Nat.lt_trans (ht a ha) (hd2 b hb)
      · rw [List.mem_singleton.1 ha]; exact hd2 b hb
theorem insN_len (l : List Nat) (i : Nat) : (insN l i).length ≤ l.length + 1 := by
  unfold insN
  split
  · omega
  · simp only [List.length_append, List.length_take, List.length_drop, List.length_singleton]; omega
theorem nv_app (a b : List Nat) : nv (a ++ b) = nv a ++ nv b := by simp [nv]
theorem nv_ins {l : List Nat} {i : Nat} (h : ¬ i ∈ l) : (nv l).take (lbN l i * 1) ++ [i64 ((i : Nat) : Int)] ++ (nv l).drop (lbN l i * 1) = nv (insN l i) := by
  unfold insN
  rw [if_neg h, nv_app, nv_app, Nat.mul_one]
  simp [nv, List.map_take, List.map_drop]
theorem insN_new {l : List Nat} {i : Nat} (h : ¬ i ∈ l) : (insN l i).length = l.length + 1 := by
  have := lbN_le l i
  unfold insN
  rw [if_neg h]
  simp only [List.length_append, List.length_take, List.length_drop, List.length_singleton]; omega
theorem range_step (a n : Nat) (f : List Nat → Nat → List Nat) (l : List Nat) : (List.range' a (n + 1)).foldl f l = f ((List.range' a n).foldl f l) (a + n) := by
  rw [List.range'_concat, List.foldl_append]; simp

set_option maxHeartbeats 4000000 in
theorem touch_ct (f : Fi) (fr tu : Nat) (B : Frag) (hr : Rise f.m.loose) (hl : f.m.loose.length ≤ 1099511627776) (hfr : fr ≤ 1099511627776) (hto : tu ≤ 1099511627776) : Ct Try.prog 51 [.pointer (some ⟨f.b, 0, none⟩), i64 ((fr : Nat) : Int), i64 ((tu : Nat) : Int)] B (fiH f) (fun v B' H' => B' = B ∧ v = .tuple #[] ∧ ∃ Al cl, H' = fiH { f with m := { f.m with loose := touchL f.m.loose fr tu }, Al := Al, cl := cl }) := by
  obtain ⟨⟨fn, now, sure, loose⟩, fb, An, cn, As, cs, Al0, cl0⟩ := f
  simp only at hr hl ⊢
  refine Ct.of_body Try.func51 rfl (nt := 44) rfl (by kernel_rfl) rfl ?_
  intro N0 w0 R
  unfold fiH fcs
  simp only [star_assoc]
  refine Cx.seq (fun K1 k1 => ?_)
  refine Cx.region ?_
  refine Lx.y (mv rfl) rfl ?_
  refine Lx.y (Yx.val (quoN rfl rfl (by omega) (by decide) (by exact wrap64 (by omega) (by omega))) (show _ = i64 ((fr / 64 : Nat) : Int) from rfl)) rfl ?_
  refine Lx.y (asg rfl) rfl ?_
  refine Lx.nil ?_
  refine Xx.tn (k1 _ _ _ _ ?_)
  refine Cx.block ?_
  refine Cx.loopK (Sub.cons (s := 0) rfl (Sub.cons (s := 1) rfl (Sub.cons (s := 2) rfl (Sub.cons (s := 9) rfl (Sub.cons (s := 10) rfl (Sub.nil _)))))) (fun m ρ' B' H' => ∃ (i : Nat) (l : List Nat) (Al : Option Addr) (cl : Nat), (fr / 64 ≤ i ∧ l = (List.range' (fr / 64) (i - fr / 64)).foldl insN loose ∧ Rise l ∧ l.length ≤ loose.length + (i - fr / 64) ∧ (i ≤ sec tu ∨ i = fr / 64) ∧ (fr < tu ∨ l = loose)) ∧ m = sec tu - i ∧ ρ' = [(6, i64 ((i : Nat) : Int))] ∧ B = B' ∧ row fb 102 [.slice An now.length cn, .slice As sure.length cs, .slice Al l.length cl] * (sbuf 5 1 An now.length cn (u8s now) * (sbuf 5 1 As sure.length cs (u8s sure) * (sbuf 3 1 Al l.length cl (nv l) * R))) = H') ⟨fr / 64, loose, _, _, ⟨Nat.le_refl _, by rw [Nat.sub_self]; rfl, hr, by omega, .inr rfl, .inr rfl⟩, rfl, rfl, rfl, rfl⟩ (Sub.cons (s := 6) rfl (Sub.cons (s := 0) rfl (Sub.cons (s := 1) rfl (Sub.cons (s := 2) rfl (Sub.cons (s := 9) rfl (Sub.cons (s := 10) rfl (Sub.nil _))))))) ?_
  rintro m ρ' B' H' ⟨i, l, Al, cl, ⟨hi, hls, hri, hll, hit, hft⟩, rfl, rfl, rfl, rfl⟩
  refine Cx.seq (fun K2 k2 => ?_)
  refine Cx.seq (fun K3 k3 => ?_)
  refine Cx.region ?_
  refine Lx.y (mv rfl) rfl ?_
  refine Lx.y (mv rfl) rfl ?_
  refine Lx.y (lss rfl rfl) rfl ?_
  refine Lx.y (mv rfl) rfl ?_
  refine Xx.ifD (t := 14) rfl (fun h4 => ?_) (fun h4 => ?_)
  · skip
    have g1 := h4
    refine Lx.gT rfl rfl rfl ?_
    refine Lx.y (mv rfl) rfl ?_
    refine Lx.gT rfl rfl rfl ?_
    refine Lx.y (mv rfl) rfl ?_
    refine Lx.gT rfl rfl rfl ?_
    refine Lx.cp rfl rfl rfl (sectors_ct tu _ (by omega)) rfl ?_
    refine Lx.gT rfl rfl rfl ?_
    refine Lx.y (lss rfl rfl) rfl ?_
    refine Lx.y (pickT rfl rfl) rfl ?_
    refine Lx.nil ?_
    refine Xx.tn (k3 _ _ _ _ ?_)
    refine Cx.condD rfl (fun h5 => ?_) (fun h5 => ?_)
    · skip
      have g2 := h5
      have hst : sec tu ≤ 17179869185 := by unfold sec; omega
      refine Cx.skip ?_
      refine Xx.tn (k2 _ _ _ _ ?_)
      refine Cx.seq (fun K6 k6 => ?_)
      refine Cx.block ?_
      refine Cx.seq (fun K7 k7 => ?_)
      refine Cx.region ?_
      refine Lx.y (mv rfl) rfl ?_
      refine Lx.y (nilc rfl) rfl ?_
      refine Lx.y (fa' fo102_2 rfl) rfl ?_
      refine Lx.y (ld Try.underlying39 rfl rfl rfl) rfl ?_
      refine Lx.y (mv rfl) rfl ?_
      refine Lx.co rfl rfl rfl (BSn_ct l i Al cl _ hri (by omega)) (pickS _) rfl ?_
      refine Lx.y (mv rfl) rfl ?_
      refine Lx.y (ext rfl rfl) rfl ?_
      refine Lx.y (ext rfl rfl) rfl ?_
      refine Lx.y (asg rfl) rfl ?_
      refine Lx.y (asg rfl) rfl ?_
      refine Lx.nil ?_
      refine Xx.tn (k7 _ _ _ _ ?_)
      refine Cx.seq (fun K8 k8 => ?_)
      refine Cx.region ?_
      refine Lx.y (mv rfl) rfl ?_
      refine Lx.y (not' rfl) rfl ?_
      refine Lx.nil ?_
      refine Xx.tn (k8 _ _ _ _ ?_)
      refine Cx.condN rfl (fun h9 => ?_) (fun h9 => ?_)
      · skip
        have hni := h9
        refine Cx.region ?_
        refine Lx.y (mv rfl) rfl ?_
        refine Lx.y (mv rfl) rfl ?_
        refine Lx.y (nilc rfl) rfl ?_
        refine Lx.y (fa' fo102_2 rfl) rfl ?_
        refine Lx.y (ld Try.underlying39 rfl rfl rfl) rfl ?_
        refine Lx.y (mv rfl) rfl ?_
        refine Lx.y (mv rfl) rfl ?_
        refine Lx.bsl (bsl1 Try.underlying39 ti3 rfl rfl rfl (by decide)) rfl (fun bv => ?_)
        refine Lx.c rfl rfl rfl (InsI_ct Al (lbN l i) l.length cl (nv l) bv 3 [i64 ((i : Nat) : Int)] _ (lbN_le l i) (by rw [nv_len, Nat.mul_one]) (nv_all l) rfl rfl (by omega)) (pickSB _ _) rfl ?_
        rintro v1 B1 H1 ⟨A9, c9, rfl, hBB, rfl, _, hc9⟩ hB1
        subst hBB
        rename Frag => B1
        clear hB1
        refine Lx.y (nilc rfl) rfl ?_
        refine Lx.y (fa' fo102_2 rfl) rfl ?_
        refine Lx.st (stO Try.underlying39 sz39 rfl rfl rfl (by show 2 < 3; omega) rfl) ?_
        refine Lx.nil ?_
        refine Xx.bn ?_
        refine Xx.tn (k6 _ _ _ _ ?_)
        refine Cx.region ?_
        refine Lx.y (mv rfl) rfl ?_
        refine Lx.y (Yx.val (add rfl rfl (by first | exact wrap64 (by omega) (by omega) | rfl)) (show _ = i64 ((i + 1 : Nat) : Int) from rfl)) rfl ?_
        refine Lx.y (asg rfl) rfl ?_
        refine Lx.nil ?_
        exact Xx.againK ⟨i + 1, insN l i, A9, c9, ⟨by omega, by rw [show i + 1 - fr / 64 = (i - fr / 64) + 1 by omega, range_step, ← hls, show fr / 64 + (i - fr / 64) = i by omega], insN_rise hri i, by have := insN_len l i; omega, .inl (by omega), .inl (by omega)⟩, rfl, rfl, rfl, (by rw [← nv_ins hni, insN_new hni]; ac_rfl)⟩ (by omega) (Sub.cons (s := 6) rfl (Sub.cons (s := 0) rfl (Sub.cons (s := 1) rfl (Sub.cons (s := 2) rfl (Sub.cons (s := 9) rfl (Sub.cons (s := 10) rfl (Sub.nil _)))))))
      · skip
        have hni := h9
        refine Cx.skip ?_
        refine Xx.bn ?_
        refine Xx.tn (k6 _ _ _ _ ?_)
        refine Cx.region ?_
        refine Lx.y (mv rfl) rfl ?_
        refine Lx.y (Yx.val (add rfl rfl (by first | exact wrap64 (by omega) (by omega) | rfl)) (show _ = i64 ((i + 1 : Nat) : Int) from rfl)) rfl ?_
        refine Lx.y (asg rfl) rfl ?_
        refine Lx.nil ?_
        have hin : insN l i = l := by unfold insN; rw [if_pos hni]
        exact Xx.againK ⟨i + 1, insN l i, Al, cl, ⟨by omega, by rw [show i + 1 - fr / 64 = (i - fr / 64) + 1 by omega, range_step, ← hls, show fr / 64 + (i - fr / 64) = i by omega], insN_rise hri i, by have := insN_len l i; omega, .inl (by omega), .inl (by omega)⟩, rfl, rfl, rfl, (by rw [hin]; ac_rfl)⟩ (by omega) (Sub.cons (s := 6) rfl (Sub.cons (s := 0) rfl (Sub.cons (s := 1) rfl (Sub.cons (s := 2) rfl (Sub.cons (s := 9) rfl (Sub.cons (s := 10) rfl (Sub.nil _)))))))
    · skip
      have g2 := h5
      refine Cx.exit ?_
      refine Xx.te ?_
      refine Xx.te ?_
      refine Xx.bh ?_
      have htl : touchL loose fr tu = l := by
        unfold touchL
        rw [if_pos (by omega), hls, show sec tu - fr / 64 = i - fr / 64 by omega]
      exact Xx.end0 rfl ⟨rfl, rfl, Al, cl, rfl⟩ (Frag.le_refl _) (by rw [htl]; ac_rfl)
  · skip
    have g1 := h4
    refine Lx.gF rfl rfl rfl rfl ?_
    refine Lx.gF rfl rfl rfl rfl ?_
    refine Lx.gF rfl rfl rfl rfl ?_
    refine Lx.gF rfl rfl rfl rfl ?_
    refine Lx.y (pickF rfl rfl) rfl ?_
    refine Lx.nil ?_
    refine Xx.tn (k3 _ _ _ _ ?_)
    refine Cx.condF rfl ?_
    refine Cx.exit ?_
    refine Xx.te ?_
    refine Xx.te ?_
    refine Xx.bh ?_
    have htl : touchL loose fr tu = l := by
      unfold touchL
      rw [if_neg (by omega)]
      rcases hft with h | h
      · omega
      · exact h.symm
    exact Xx.end0 rfl ⟨rfl, rfl, Al, cl, rfl⟩ (Frag.le_refl _) (by rw [htl]; ac_rfl)
end DkG
end Go.Proofs.Ytgcebieihmlaoaa
