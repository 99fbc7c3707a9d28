/-
  Texts of this seat, one behind the other: RwO, RwP, RwQ, SlD, RwR, RwT, Shelf2, RwS, RwU, RwV, RwX.
-/
import Derived.Test.YtdidpocakipinaaGreatDoorProg
import Derived.Sort.OwnSorted
import Derived.Shelf.Sort.Plain
import Derived.Shelf.Slices.In.SortNone
import Derived.Test.YtdidpocakipinaaGreatDoorMp6
set_option linter.unusedSectionVars false
set_option linter.unusedSimpArgs false
set_option linter.unusedVariables false
namespace Go.Proofs.YtdidpocakipinaaGreatDoor
open Go.SL Go.RowKit
set_option maxRecDepth 100000
open Ke1 Ke3 Ke4 Ke5 Ke6 Ke7 Ke8 Ke9 KeA KeB KeC KeD KeE KeF KeG KeI RgA RgB BtB BtC BtD BtE BtG BtX BtH BtI BtF BtJ BtK BtL BtM BtN BtO BtR BtY BtZ DrA DrB DrC DrD DrE DrF RwA RwB BtQ BtS RwC RwD RwE RwF RwG RwH RwI RwK
namespace RwO
theorem sz9 : (Tryz.prog.info? 9).map (·.size) = some 1 := by kernel_rfl
theorem sz39 : (Tryz.prog.info? 39).map (·.size) = some 6 := by kernel_rfl
theorem sz70 : (Tryz.prog.info? 70).map (·.size) = some 8 := by kernel_rfl
theorem ti5 : TI Tryz.prog 5 [.int .u8 0] 1 1 := TI.of (by kernel_rfl) rfl rfl
theorem ti70 : TI Tryz.prog 70 [.int .u64 0, .int .u64 0, .int .i64 0, .bool false, .int .i64 0, str [], .slice none 0 0, .slice none 0 0] 8 104 := TI.of (by kernel_rfl) rfl rfl
theorem fo70_0 : FO Tryz.prog 70 0 0 1 false := FO.of U70 rfl rfl (by kernel_rfl) U34 rfl rfl
theorem flatL_at {α : Type} {en : α → List Value} {s : Nat} : ∀ (m : List α) (k : Nat) (hk : k < m.length), (∀ a ∈ m, (en a).length = s) → ((m.flatMap en).drop (k * s)).take s = en m[k] := by
  intro m
  induction m with
  | nil => intro k hk; simp at hk
  | cons a m ih =>
    intro k hk h
    have h9 : (en a).length = s := h a (by simp)
    rw [List.flatMap_cons]
    cases k with
    | zero => rw [Nat.zero_mul, List.drop_zero, List.take_left' h9]; rfl
    | succ k =>
      rw [show (k + 1) * s = (en a).length + k * s by rw [h9, Nat.succ_mul]; omega, ← List.drop_drop, List.drop_left]
      exact ih k (by simpa using hk) fun b hb => h b (by simp [hb])
def MdR (B : Frag) (A : Option Addr) (ds : List Dc) : Prop := RoS B 8 A ds.length (ds.flatMap Dc.cells) ∧ ∀ d ∈ ds, DOk B d
theorem MdR.mono {B B' : Frag} {A : Option Addr} {ds : List Dc} (h : MdR B A ds) (hB : B.le B') : MdR B' A ds := ⟨h.1.mono hB, fun d hd => (h.2 d hd).mono hB⟩
theorem cells_len {B : Frag} {d : Dc} (h : DOk B d) : d.cells.length = 8 := by
  obtain ⟨_, _, _, _, e⟩ := cells_shape h
  rw [e]; rfl
theorem md_at {B : Frag} {A : Option Addr} {ds : List Dc} (h : MdR B A ds) {i : Nat} (hi : i < ds.length) : ∃ b o cs et fz, A = some ⟨b, o, none⟩ ∧ B b = some (.cells (List.toArray cs) et fz) ∧ (cs.drop (o + i * 8)).take 8 = ds[i].cells := by
  obtain ⟨⟨hl, ⟨_, h0⟩ | ⟨b, o, cs, et, fz, hA, hB, hx⟩⟩, hd⟩ := h
  · omega
  · refine ⟨b, o, cs, et, fz, hA, hB, ?_⟩
    have h1 := flatL_at ds i hi (fun a ha => cells_len (hd a ha))
    rw [← hx, List.drop_take, List.take_take, List.drop_drop, Nat.min_eq_left (by omega)] at h1
    exact h1
theorem dropD_app (n : BitVec 64) (a b : List Dc) : dropD n (a ++ b) = dropD n a ++ dropD n b := List.filter_append ..
theorem dropD_one (n : BitVec 64) (d : Dc) : dropD n [d] = if d.n = n then [] else [d] := by
  unfold dropD
  by_cases h : d.n = n <;> simp [h]
theorem flat_snoc (q : List Dc) (d : Dc) : (q ++ [d]).flatMap Dc.cells = q.flatMap Dc.cells ++ d.cells := by simp
def insD (d : Dc) : List Dc → List Dc
  | [] => [d]
  | x :: l => if d.n.toNat < x.n.toNat then d :: x :: l else x :: insD d l
theorem insD_lt {d : Dc} {b : List Dc} : ∀ {a : List Dc}, (∃ x ∈ a, d.n.toNat < x.n.toNat) → insD d (a ++ b) = insD d a ++ b := by
  intro a
  induction a with
  | nil => rintro ⟨x, hx, _⟩; cases hx
  | cons y a ih =>
    rintro ⟨x, hx, h⟩
    show (if d.n.toNat < y.n.toNat then _ else y :: insD d (a ++ b)) = (if d.n.toNat < y.n.toNat then d :: y :: a else y :: insD d a) ++ b
    by_cases hy : d.n.toNat < y.n.toNat
    · rw [if_pos hy, if_pos hy]; rfl
    · rw [if_neg hy, if_neg hy]
      rcases List.mem_cons.1 hx with rfl | hx
      · exact absurd h hy
      · rw [ih ⟨x, hx, h⟩]; rfl
theorem insD_ge {d : Dc} {b : List Dc} : ∀ {a : List Dc}, (∀ x ∈ a, ¬ d.n.toNat < x.n.toNat) → insD d (a ++ b) = a ++ insD d b := by
  intro a
  induction a with
  | nil => intro _; rfl
  | cons y a ih =>
    intro h
    show (if d.n.toNat < y.n.toNat then _ else y :: insD d (a ++ b)) = _
    rw [if_neg (h y (by simp)), ih fun x hx => h x (by simp [hx])]; rfl
theorem insD_len (d : Dc) (l : List Dc) : (insD d l).length = l.length + 1 := by
  induction l with
  | nil => rfl
  | cons x l ih => unfold insD; split <;> simp [ih]
theorem insD_mem {d y : Dc} {l : List Dc} : y ∈ insD d l ↔ y = d ∨ y ∈ l := by
  induction l with
  | nil => simp [insD]
  | cons x l ih =>
    unfold insD
    split
    · simp
    · rw [List.mem_cons, ih, List.mem_cons]
      constructor
      · rintro (h | h | h)
        · exact .inr (.inl h)
        · exact .inl h
        · exact .inr (.inr h)
      · rintro (h | h | h)
        · exact .inr (.inl h)
        · exact .inl h
        · exact .inr (.inr h)
def withD (d : Dc) (ds : List Dc) : List Dc := insD d (dropD d.n ds)
theorem pair_num (n : BitVec 64) {i : Nat} (h : i < 8) : toB (((n >>> (8 * i)) % 256#64).toNat : Nat) :: (numL n).drop (8 - i) = (numL n).drop (8 - (i + 1)) := numL_drop n h
set_option maxHeartbeats 4000000 in
theorem without_ct (ds : List Dc) (A : Option Addr) (c : Nat) (n : BitVec 64) (B : Frag) (hm : MdR B A ds) (hl : ds.length ≤ 1000) : CtB Tryz.prog 24 [.slice A ds.length c, u64 n] B (fun r B' => ∃ A' c', r = .tuple #[.slice A' (dropD n ds).length c', .bool (decide (∃ d ∈ ds, d.n = n))] ∧ MdR B' A' (dropD n ds)) := by
 refine CtB.of_body Tryz.func24 rfl (nt := 32) rfl (by kernel_rfl) rfl ?_
 intro N0 w0 R
 refine Cx.seq (fun K1 k1 => ?_)
 refine Cx.region <| Lx.y (asg rfl) rfl <| Lx.y (asg rfl) rfl <| Lx.nil <| ?_
 refine Xx.tn (k1 _ _ _ _ ?_)
 refine Cx.seq (fun K2 k2 => ?_)
 refine Cx.region ?_
 refine Lx.o (bslZ U62 ti70) rfl (fun v B' H' hΦ hB => ?_)
 obtain ⟨b0, rfl, hBB, rfl⟩ := hΦ
 have hBB2 := hBB.symm
 subst hBB2
 clear hB
 refine Lx.y (asg rfl) rfl <| Lx.y (asg rfl) rfl <| Lx.nil <| ?_
 refine Xx.tn (k2 _ _ _ _ ?_)
 refine Cx.seq (fun K3 k3 => ?_)
 refine Cx.seq (fun K4 k4 => ?_)
 refine Cx.region <| Lx.y (asg rfl) rfl <| Lx.nil <| ?_
 refine Xx.tn (k4 _ _ _ _ ?_)
 refine Cx.block ?_
 refine Cx.loopK (Sc 0 rfl (Sc 1 rfl (Sc 4 rfl (Sc 5 rfl (Sc 9 rfl (Sub.nil _)))))) (fun m ρ' B' H' => ∃ (i : Nat) (q : List Dc) (Ao : Option Addr) (co : Nat), (i ≤ ds.length ∧ q = dropD n (ds.take i) ∧ q.length ≤ co) ∧ m = ds.length - i ∧ ρ' = [(6, .slice Ao q.length co), (7, .bool (decide (∃ d ∈ ds.take i, d.n = n))), (8, i64 i)] ∧ B = B' ∧ sbuf 70 8 Ao q.length co (q.flatMap Dc.cells) * R = H') ⟨0, [], _, _, ⟨Nat.zero_le _, rfl, Nat.le_refl _⟩, rfl, rfl, rfl, rfl⟩ (Sc 6 rfl (Sub.consE (s := 7) rfl (by simp) (Sc 8 rfl (Sc 0 rfl (Sc 1 rfl (Sc 4 rfl (Sc 5 rfl (Sc 9 rfl (Sub.nil _))))))))) ?_
 rintro m ρ' B' H' ⟨i, q, Ao, co, ⟨hi, hq, hco⟩, rfl, rfl, rfl, rfl⟩
 refine Cx.seq (fun K5 k5 => ?_)
 refine Cx.seq (fun K6 k6 => ?_)
 refine Cx.region <| Lx.y (mv rfl) rfl <| Lx.y (mv rfl) rfl <| Lx.y (lenV (ty' := 0) U62 rfl) rfl <| Lx.y (lss rfl rfl) rfl <| Lx.nil <| ?_
 refine Xx.tn (k6 _ _ _ _ ?_)
 refine Cx.condD rfl (fun h7 => ?_) (fun h7 => ?_)
 ·
  have hlt := h7
  have hlt : i < ds.length := by omega
  obtain ⟨bq, oq, lq, eq, fq, hAq, hBq, hxq⟩ := md_at hm hlt
  subst hAq
  obtain ⟨Ap, cp, An, cn, hsh⟩ := cells_shape (hm.2 _ (List.getElem_mem hlt))
  have htk := List.take_succ_eq_append_getElem hlt
  have hmI : ds[i] ∈ ds.take (i + 1) := by rw [htk]; exact List.mem_append_right _ (List.mem_singleton.2 rfl)
  have hmT : ∀ d, d ∈ ds.take i → d ∈ ds.take (i + 1) := fun d h => by rw [htk]; exact List.mem_append_left _ h
  have hqd : q.length ≤ ds.length := by rw [hq]; exact Nat.le_trans dropD_len (by simp; omega)
  refine Cx.skip ?_
  refine Xx.tn (k5 _ _ _ _ ?_)
  refine Cx.seq (fun K8 k8 => ?_)
  refine Cx.block ?_
  refine Cx.seq (fun K9 k9 => ?_)
  refine Cx.region <| Lx.y (mv rfl) rfl <| Lx.y (mv rfl) rfl <| Lx.y (ia U62 sz70 rfl rfl (Int.toNat_natCast _) (by omega) (by omega)) rfl <| Lx.y (fa' fo70_0 rfl) rfl <| Lx.y (ldB U34 rfl rfl hBq (take_at (j := 0) (hxq.trans hsh) rfl (by decide))) rfl <| Lx.y (mv rfl) rfl <| Lx.y (eqW64 rfl rfl) rfl <| Lx.nil <| ?_
  refine Xx.tn (k9 _ _ _ _ ?_)
  refine Cx.condD rfl (fun h10 => ?_) (fun h10 => ?_)
  ·
   have heq := h10
   have heq : ds[i].n = n := heq
   refine Cx.region <| Lx.y (asg rfl) rfl <| Lx.nil <| Xx.bn <| ?_
   refine Xx.tn (k8 _ _ _ _ ?_)
   refine Cx.region <| Lx.y (mv rfl) rfl <| Lx.y (Yx.val (add rfl rfl (by first | exact wrap64 (by omega) (by omega) | rfl)) (show _ = i64 ((i + 1 : Nat) : Int) from rfl)) rfl <| Lx.y (asg rfl) rfl <| Lx.nil <| ?_
   exact Xx.againK ⟨i + 1, q, Ao, co, ⟨by omega, by rw [htk, dropD_app, dropD_one, if_pos heq, List.append_nil]; exact hq, hco⟩, rfl, rfl, rfl, rfl⟩ (by omega) (Sc 6 rfl (Sub.consE (s := 7) rfl (congrArg Value.bool (decide_eq_true ⟨ds[i], hmI, heq⟩).symm) (Sc 8 rfl (Sc 0 rfl (Sc 1 rfl (Sc 4 rfl (Sc 5 rfl (Sc 9 rfl (Sub.nil _)))))))))
  ·
   have heq := h10
   have heq : ¬ ds[i].n = n := heq
   refine Cx.region <| Lx.y (mv rfl) rfl <| Lx.y (mv rfl) rfl <| Lx.y (mv rfl) rfl <| Lx.y (ia U62 sz70 rfl rfl (Int.toNat_natCast _) (by omega) (by omega)) rfl <| Lx.y (ldA U70 rfl sz70 rfl (Cells.base (n := 8) (by first | exact hBq | exact hB _ _ hBq) (hxq.trans hsh)) rfl) rfl <| ?_
   refine Lx.bsl (bslA U62 ti70 rfl rfl (by decide)) rfl (fun bv => ?_)
   refine Lx.o (appN (A := Ao) (q.length + 1) (u64 ds[i].n :: u64 ds[i].ver :: vcs ds[i].v Ap cp An cn) ((q.flatMap Dc.cells) ++ (u64 ds[i].n :: u64 ds[i].ver :: vcs ds[i].v Ap cp An cn)) U62 U62 ti70 rfl rfl rfl rfl rfl (by omega) (by omega) rfl rfl) rfl (fun v B' H' hΦ hB => ?_)
   obtain ⟨A2, c2, rfl, hA2, hl2, hc2, hBB, rfl⟩ := hΦ
   have hBB2 := hBB.symm
   subst hBB2
   clear hB
   refine Lx.y (asg rfl) rfl <| Lx.nil <| Xx.bn <| ?_
   refine Xx.tn (k8 _ _ _ _ ?_)
   refine Cx.region <| Lx.y (mv rfl) rfl <| Lx.y (Yx.val (add rfl rfl (by first | exact wrap64 (by omega) (by omega) | rfl)) (show _ = i64 ((i + 1 : Nat) : Int) from rfl)) rfl <| Lx.y (asg rfl) rfl <| Lx.nil <| ?_
   refine Xx.dropB bv ?_
   exact Xx.againK ⟨i + 1, q ++ [ds[i]], A2, c2, ⟨by omega, by rw [htk, dropD_app, dropD_one, if_neg heq, hq], by rw [List.length_append]; exact hc2⟩, rfl, rfl, rfl, (by rw [flat_snoc, hsh, List.length_append]; ac_rfl)⟩ (by omega) (Sub.consE (s := 6) rfl (by rw [List.length_append]; rfl) (Sub.consE (s := 7) rfl (congrArg Value.bool (decide_eq_decide.2 ⟨fun ⟨d, hd, e⟩ => ⟨d, hmT d hd, e⟩, fun ⟨d, hd, e⟩ => by rw [htk] at hd; rcases List.mem_append.1 hd with h9 | h9; exact ⟨d, h9, e⟩; rw [List.mem_singleton.1 h9] at e; exact (heq e).elim⟩)) (Sc 8 rfl (Sc 0 rfl (Sc 1 rfl (Sc 4 rfl (Sc 5 rfl (Sc 9 rfl (Sub.nil _)))))))))
 ·
  have hge := h7
  obtain rfl : i = ds.length := by omega
  rw [List.take_length] at hq
  refine Cx.exit <| Xx.te <| Xx.te <| Xx.bh <| ?_
  refine Xx.tn (k3 _ _ _ _ ?_)
  refine Cx.seq (fun K11 k11 => ?_)
  refine Cx.region <| Lx.y (mv rfl) rfl <| Lx.y (mv rfl) rfl <| Lx.y (asg rfl) rfl <| Lx.y (asg rfl) rfl <| Lx.nil <| ?_
  refine Xx.tn (k11 _ _ _ _ ?_)
  refine Cx.ret ?_
  refine Xx.freezeT Ao fun B3 hB3 hRo hnc _ => ?_
  exact Xx.rB2 rfl rfl rfl ⟨Ao, co, by rw [hq, List.take_length], by rw [← hq]; exact ⟨hRo, fun d hd => by rw [hq] at hd; exact (hm.2 d (dropD_mem.1 hd).1).mono hB3⟩⟩ hB3 rfl
set_option maxHeartbeats 2000000 in
theorem has_ct (fs : List (List UInt8)) (A : Option Addr) (c : Nat) (s : List UInt8) (B : Frag) (hR : RoE B A fs.length (fs.map str)) (hl : fs.length ≤ 1000) : CtP Tryz.prog 25 [.slice A fs.length c, str s] B (.bool (decide (s ∈ fs))) := by
  refine CtB.of_body Tryz.func25 rfl (nt := 18) rfl (by kernel_rfl) rfl ?_
  intro N0 w0 R
  refine Cx.seq (fun K1 k1 => ?_)
  refine Cx.region <| Lx.y (asg rfl) rfl <| Lx.nil <| ?_
  refine Xx.tn (k1 _ _ _ _ ?_)
  refine Cx.seq (fun K2 k2 => ?_)
  refine Cx.seq (fun K3 k3 => ?_)
  refine Cx.region <| Lx.y (asg rfl) rfl <| Lx.nil <| ?_
  refine Xx.tn (k3 _ _ _ _ ?_)
  refine Cx.block ?_
  refine Cx.loopK (Sc 0 rfl (Sc 1 rfl (Sub.nil _))) (fun m ρ' B' H' => ∃ (i : Nat), (i ≤ fs.length ∧ s ∉ fs.take i) ∧ m = fs.length - i ∧ ρ' = [(5, i64 i)] ∧ B = B' ∧ R = H') ⟨0, ⟨Nat.zero_le _, by simp⟩, rfl, rfl, rfl, rfl⟩ (Sc 5 rfl (Sc 0 rfl (Sc 1 rfl (Sub.nil _)))) ?_
  rintro m ρ' B' H' ⟨i, ⟨hi, hn⟩, rfl, rfl, rfl, rfl⟩
  refine Cx.seq (fun K4 k4 => ?_)
  refine Cx.seq (fun K5 k5 => ?_)
  refine Cx.region <| Lx.y (mv rfl) rfl <| Lx.y (mv rfl) rfl <| Lx.y (lenV (ty' := 0) U23 rfl) rfl <| Lx.y (lss rfl rfl) rfl <| Lx.nil <| ?_
  refine Xx.tn (k5 _ _ _ _ ?_)
  refine Cx.condD rfl (fun h6 => ?_) (fun h6 => ?_)
  · skip
    have hlt := h6
    have hlt : i < fs.length := by omega
    obtain ⟨bq, oq, lq, eq, fq, rfl, hBq, hvq⟩ := roe_str hR hlt rfl
    refine Cx.skip ?_
    refine Xx.tn (k4 _ _ _ _ ?_)
    refine Cx.seq (fun K7 k7 => ?_)
    refine Cx.block ?_
    refine Cx.seq (fun K8 k8 => ?_)
    refine Cx.region <| Lx.y (mv rfl) rfl <| Lx.y (mv rfl) rfl <| Lx.y (ia U23 sz9 rfl rfl (Int.toNat_natCast _) (by omega) (by omega)) rfl <| Lx.y (ldB U9 rfl rfl hBq hvq) rfl <| Lx.y (mv rfl) rfl <| Lx.y (eqS rfl rfl) rfl <| Lx.nil <| ?_
    refine Xx.tn (k8 _ _ _ _ ?_)
    refine Cx.condD rfl (fun h9 => ?_) (fun h9 => ?_)
    · skip
      have heq : fs[i] = s := h9
      refine Cx.seq (fun K10 k10 => ?_)
      refine Cx.region <| Lx.y (asg rfl) rfl <| Lx.nil <| ?_
      refine Xx.tn (k10 _ _ _ _ ?_)
      refine Cx.ret ?_
      refine Xx.br ?_
      refine Xx.tr <| Xx.tr <| ?_
      refine Xx.br ?_
      refine Xx.tr ?_
      exact Xx.rB1 rfl rfl ⟨congrArg Value.bool (decide_eq_true (by rw [← heq]; exact List.getElem_mem hlt)).symm, rfl⟩ (Frag.le_refl _) rfl
    · skip
      have hne : ¬ fs[i] = s := h9
      refine Cx.skip <| Xx.bn <| ?_
      refine Xx.tn (k7 _ _ _ _ ?_)
      refine Cx.region <| Lx.y (mv rfl) rfl <| Lx.y (Yx.val (add rfl rfl (by first | exact wrap64 (by omega) (by omega) | rfl)) (show _ = i64 ((i + 1 : Nat) : Int) from rfl)) rfl <| Lx.y (asg rfl) rfl <| Lx.nil <| ?_
      exact Xx.againK ⟨i + 1, ⟨by omega, fun h9 => by
  rw [List.take_succ_eq_append_getElem hlt] at h9
  rcases List.mem_append.1 h9 with h8 | h8
  · exact hn h8
  · exact hne (List.mem_singleton.1 h8).symm⟩, rfl, rfl, rfl, rfl⟩ (by omega) (Sc 5 rfl (Sc 0 rfl (Sc 1 rfl (Sub.nil _))))
  · skip
    have hge := h6
    obtain rfl : i = fs.length := by omega
    rw [List.take_length] at hn
    refine Cx.exit <| Xx.te <| Xx.te <| Xx.bh <| ?_
    refine Xx.tn (k2 _ _ _ _ ?_)
    refine Cx.seq (fun K11 k11 => ?_)
    refine Cx.region <| Lx.y (asg rfl) rfl <| Lx.nil <| ?_
    refine Xx.tn (k11 _ _ _ _ ?_)
    refine Cx.ret ?_
    exact Xx.rB1 rfl rfl ⟨congrArg Value.bool (decide_eq_false hn).symm, rfl⟩ (Frag.le_refl _) rfl
end RwO
end Go.Proofs.YtdidpocakipinaaGreatDoor
namespace Go.Proofs.YtdidpocakipinaaGreatDoor
open Go.SL Go.RowKit
set_option maxRecDepth 100000
open Ke1 Ke3 Ke4 Ke5 Ke6 Ke7 Ke8 Ke9 KeA KeB KeC KeD KeE KeF KeG KeI RgA RgB BtB BtC BtD BtE BtG BtX BtH BtI BtF BtJ BtK BtL BtM BtN BtO BtR BtY BtZ DrA DrB DrC DrD DrE DrF RwA RwB BtQ BtS RwC RwD RwE RwF RwG RwH RwI RwK RwO
namespace RwP
theorem sz9 : (Tryz.prog.info? 9).map (·.size) = some 1 := by kernel_rfl
theorem sz25 : (Tryz.prog.info? 25).map (·.size) = some 6 := by kernel_rfl
theorem sz36 : (Tryz.prog.info? 36).map (·.size) = some 8 := by kernel_rfl
theorem sz39 : (Tryz.prog.info? 39).map (·.size) = some 6 := by kernel_rfl
theorem sz70 : (Tryz.prog.info? 70).map (·.size) = some 8 := by kernel_rfl
theorem ti5 : TI Tryz.prog 5 [.int .u8 0] 1 1 := TI.of (by kernel_rfl) rfl rfl
theorem ti70 : TI Tryz.prog 70 [.int .u64 0, .int .u64 0, .int .i64 0, .bool false, .int .i64 0, str [], .slice none 0 0, .slice none 0 0] 8 104 := TI.of (by kernel_rfl) rfl rfl
theorem fo36_0 : FO Tryz.prog 36 0 0 1 false := FO.of U36 rfl rfl (by kernel_rfl) U34 rfl rfl
theorem fo36_1 : FO Tryz.prog 36 1 1 1 false := FO.of U36 rfl rfl (by kernel_rfl) U34 rfl rfl
theorem fo36_2 : FO Tryz.prog 36 2 2 6 true := FO.of U36 rfl rfl (by kernel_rfl) U25 rfl rfl
theorem fo70_0 : FO Tryz.prog 70 0 0 1 false := FO.of U70 rfl rfl (by kernel_rfl) U34 rfl rfl
theorem fo70_1 : FO Tryz.prog 70 1 1 1 false := FO.of U70 rfl rfl (by kernel_rfl) U34 rfl rfl
theorem fo70_2 : FO Tryz.prog 70 2 2 6 true := FO.of U70 rfl rfl (by kernel_rfl) U39 rfl rfl
set_option maxHeartbeats 8000000 in
theorem with_ct (ds : List Dc) (A : Option Addr) (c : Nat) (d : Dc) (B : Frag) (hm : MdR B A ds) (hd : DOk B d) (hl : ds.length ≤ 900) : CtB Tryz.prog 26 [.slice A ds.length c, .agg d.cells.toArray] B (fun r B' => ∃ A' c', r = .slice A' (withD d ds).length c' ∧ MdR B' A' (withD d ds)) := by
 obtain ⟨Ap0, cp0, An0, cn0, hsh0⟩ := cells_shape hd
 rw [hsh0]
 refine CtB.of_body Tryz.func26 rfl (nt := 54) rfl (by kernel_rfl) rfl ?_
 intro N0 w0 R
 refine Cx.seq (fun K1 k1 => ?_)
 refine Cx.region ?_
 refine Lx.new (boxA rfl) rfl (fun b3 => ?_)
 refine Lx.y (asg rfl) rfl <| Lx.nil <| ?_
 refine Xx.tn (k1 _ _ _ _ ?_)
 refine Cx.seq (fun K2 k2 => ?_)
 refine Cx.region <| Lx.y (mv rfl) rfl <| Lx.y (fa' fo70_0 rfl) rfl <| Lx.y (ld U34 rfl rfl rfl) rfl <| ?_
 refine Lx.cb rfl rfl rfl (without_ct ds A c d.n _ hm (by omega)) rfl ?_
 rintro r1 B1 ⟨A1, c1, rfl, hmr⟩ hB1
 generalize hrs : dropD d.n ds = rs at *
 have hrl : rs.length ≤ ds.length := by rw [← hrs]; exact dropD_len
 refine Lx.y (mv rfl) rfl <| Lx.y (ext rfl rfl) rfl <| Lx.y (ext rfl rfl) rfl <| Lx.y (asg rfl) rfl <| Lx.y (asg rfl) rfl <| Lx.nil <| ?_
 refine Xx.tn (k2 _ _ _ _ ?_)
 refine Cx.seq (fun K4 k4 => ?_)
 refine Cx.region ?_
 refine Lx.o (bslZ U62 ti70) rfl (fun v B' H' hΦ hB => ?_)
 obtain ⟨b0, rfl, hBB, rfl⟩ := hΦ
 have hBB2 := hBB.symm
 subst hBB2
 clear hB
 refine Lx.y (asg rfl) rfl <| Lx.y (asg rfl) rfl <| Lx.nil <| ?_
 refine Xx.tn (k4 _ _ _ _ ?_)
 refine Cx.seq (fun K5 k5 => ?_)
 refine Cx.seq (fun K6 k6 => ?_)
 refine Cx.region <| Lx.y (asg rfl) rfl <| Lx.nil <| ?_
 refine Xx.tn (k6 _ _ _ _ ?_)
 refine Cx.block ?_
 refine Cx.loopK (Sc 0 rfl (Sc 1 rfl (Sc 3 rfl (Sc 4 rfl (Sc 5 rfl (Sc 10 rfl (Sc 11 rfl (Sc 12 rfl (Sc 13 rfl (Sc 14 rfl (Sc 15 rfl (Sc 16 rfl (Sc 17 rfl (Sub.nil _)))))))))))))) (fun m ρ' B' H' => ∃ (i : Nat) (q : List Dc) (fl : Bool) (Ao : Option Addr) (co : Nat), (i ≤ rs.length ∧ q.length ≤ co ∧ (fl = false ∧ q = rs.take i ∧ (∀ y ∈ rs.take i, ¬ d.n.toNat < y.n.toNat) ∨ fl = true ∧ q = insD d (rs.take i) ∧ ∃ y ∈ rs.take i, d.n.toNat < y.n.toNat)) ∧ m = rs.length - i ∧ ρ' = [(7, .slice Ao q.length co), (8, .bool fl), (9, i64 i)] ∧ B1 = B' ∧ sbuf 70 8 Ao q.length co (q.flatMap Dc.cells) * (row b3 70 (u64 d.n :: u64 d.ver :: vcs d.v Ap0 cp0 An0 cn0) * R) = H') ⟨0, [], false, _, _, ⟨Nat.zero_le _, Nat.le_refl _, .inl ⟨rfl, by simp, fun y hy => by simp at hy⟩⟩, rfl, rfl, rfl, rfl⟩ (Sc 7 rfl (Sc 8 rfl (Sc 9 rfl (Sc 0 rfl (Sc 1 rfl (Sc 3 rfl (Sc 4 rfl (Sc 5 rfl (Sc 10 rfl (Sc 11 rfl (Sc 12 rfl (Sc 13 rfl (Sc 14 rfl (Sc 15 rfl (Sc 16 rfl (Sc 17 rfl (Sub.nil _))))))))))))))))) ?_
 rintro m ρ' B' H' ⟨i, q, fl, Ao, co, ⟨hi, hco, hcase⟩, rfl, rfl, rfl, rfl⟩
 refine Cx.seq (fun K7 k7 => ?_)
 refine Cx.seq (fun K8 k8 => ?_)
 refine Cx.region <| Lx.y (mv rfl) rfl <| Lx.y (mv rfl) rfl <| Lx.y (lenV (ty' := 0) U62 rfl) rfl <| Lx.y (lss rfl rfl) rfl <| Lx.nil <| ?_
 refine Xx.tn (k8 _ _ _ _ ?_)
 refine Cx.condD rfl (fun h9 => ?_) (fun h9 => ?_)
 ·
  have hlt := h9
  have hlt : i < rs.length := by omega
  obtain ⟨bq, oq, lq, eq, fq, hAq, hBq, hxq⟩ := md_at hmr hlt
  subst hAq
  obtain ⟨Ap, cp, An, cn, hsh⟩ := cells_shape (hmr.2 _ (List.getElem_mem hlt))
  have htk := List.take_succ_eq_append_getElem hlt
  have hql : q.length ≤ i + 1 := by rcases hcase with ⟨_, hq, _⟩ | ⟨_, hq, _⟩; rw [hq, List.length_take]; omega; rw [hq, insD_len, List.length_take]; omega
  refine Cx.skip ?_
  refine Xx.tn (k7 _ _ _ _ ?_)
  refine Cx.seq (fun K10 k10 => ?_)
  refine Cx.block ?_
  refine Cx.seq (fun K11 k11 => ?_)
  refine Cx.seq (fun K12 k12 => ?_)
  refine Cx.drawn (by kernel_rfl) ?_
  refine Dx.p (i := 0) rfl (by kernel_rfl) (mv rfl) rfl ?_
  refine Dx.p (i := 1) rfl (by kernel_rfl) (not' rfl) rfl ?_
  refine Dx.p (i := 2) rfl (by kernel_rfl) (mv rfl) rfl ?_
  refine Xx.ifB (t := 26) rfl (fun h13 => ?_) (fun h13 => ?_)
  ·
   have hfl : fl = false := by simpa using h13
   obtain ⟨_, hq, hall⟩ : fl = false ∧ q = rs.take i ∧ (∀ y ∈ rs.take i, ¬ d.n.toNat < y.n.toNat) := by rcases hcase with z | z; exact z; rw [z.1] at hfl; cases hfl
   refine Dx.pT (i := 3) rfl rfl rfl rfl (by kernel_rfl) (mv rfl) rfl ?_
   refine Dx.pT (i := 4) rfl rfl rfl rfl (by kernel_rfl) (mv rfl) rfl ?_
   refine Dx.pT (i := 5) rfl rfl rfl rfl (by kernel_rfl) (ia U62 sz70 rfl rfl (Int.toNat_natCast _) (by omega) (by omega)) rfl ?_
   refine Dx.pT (i := 6) rfl rfl rfl rfl (by kernel_rfl) (fa' fo70_0 rfl) rfl ?_
   refine Dx.rT (i := 7) rfl rfl rfl rfl (by kernel_rfl) (ldB U34 rfl rfl hBq (take_at (j := 0) (hxq.trans hsh) rfl (by decide))) rfl ?_
   refine Dx.pT (i := 8) rfl rfl rfl rfl (by kernel_rfl) (fa' fo70_0 rfl) rfl ?_
   refine Dx.rT (i := 9) rfl rfl rfl rfl (by kernel_rfl) (ld U34 rfl rfl rfl) rfl ?_
   refine Dx.pT (i := 10) rfl rfl rfl rfl (by kernel_rfl) (gtr rfl rfl) rfl ?_
   refine Dx.p (i := 11) rfl (by kernel_rfl) (pickT rfl rfl) rfl ?_
   refine Dx.done (by kernel_rfl) ?_
   refine Xx.tn (k12 _ _ _ _ ?_)
   refine Cx.condD rfl (fun h14 => ?_) (fun h14 => ?_)
   ·
    have hgt := h14
    have hgt : d.n.toNat < rs[i].n.toNat := by have h9 : ((rs[i].n.toNat : Nat) : Int) > ((d.n.toNat : Nat) : Int) := hgt; omega
    have hq2 : q ++ [d] ++ [rs[i]] = insD d (rs.take (i + 1)) := by rw [htk, insD_ge hall, hq]; show _ = rs.take i ++ (if _ then _ else _); rw [if_pos hgt]; simp
    have hex2 : ∃ y ∈ rs.take (i + 1), d.n.toNat < y.n.toNat := ⟨rs[i], by rw [htk]; exact List.mem_append_right _ (List.mem_singleton.2 rfl), hgt⟩
    refine Cx.region <| Lx.y (mv rfl) rfl <| Lx.y (ldA U70 rfl sz70 rfl (Cells.own (n := 8) PickB.eq rfl) rfl) rfl <| ?_
    refine Lx.bsl (bslA U62 ti70 rfl rfl (by decide)) rfl (fun bv => ?_)
    refine Lx.o (appN (A := Ao) (q.length + 1) (u64 d.n :: u64 d.ver :: vcs d.v Ap0 cp0 An0 cn0) ((q.flatMap Dc.cells) ++ (u64 d.n :: u64 d.ver :: vcs d.v Ap0 cp0 An0 cn0)) U62 U62 ti70 rfl rfl rfl rfl rfl (by omega) (by omega) rfl rfl) rfl (fun v B' H' hΦ hB => ?_)
    obtain ⟨A4, c4, rfl, hA4, hl4, hc4, hBB, rfl⟩ := hΦ
    have hBB2 := hBB.symm
    subst hBB2
    clear hB
    refine Lx.y (asg rfl) rfl <| Lx.y (asg rfl) rfl <| Lx.nil <| ?_
    refine Xx.tn (k11 _ _ _ _ ?_)
    refine Cx.region <| Lx.y (mv rfl) rfl <| Lx.y (mv rfl) rfl <| Lx.y (mv rfl) rfl <| Lx.y (ia U62 sz70 rfl rfl (Int.toNat_natCast _) (by omega) (by omega)) rfl <| Lx.y (ldA U70 rfl sz70 rfl (Cells.base (n := 8) (by first | exact hBq | exact hB _ _ hBq) (hxq.trans hsh)) rfl) rfl <| ?_
    refine Lx.bsl (bslA U62 ti70 rfl rfl (by decide)) rfl (fun bw => ?_)
    refine Lx.o (appN (A := A4) (q.length + 1 + 1) (u64 rs[i].n :: u64 rs[i].ver :: vcs rs[i].v Ap cp An cn) ((q.flatMap Dc.cells) ++ (u64 d.n :: u64 d.ver :: vcs d.v Ap0 cp0 An0 cn0) ++ (u64 rs[i].n :: u64 rs[i].ver :: vcs rs[i].v Ap cp An cn)) U62 U62 ti70 rfl rfl rfl rfl rfl (by omega) (by omega) rfl rfl) rfl (fun v B' H' hΦ hB => ?_)
    obtain ⟨A2, c2, rfl, hA2, hl2, hc2, hBB, rfl⟩ := hΦ
    have hBB2 := hBB.symm
    subst hBB2
    clear hB
    refine Lx.y (asg rfl) rfl <| Lx.nil <| Xx.bn <| ?_
    refine Xx.tn (k10 _ _ _ _ ?_)
    refine Cx.region <| Lx.y (mv rfl) rfl <| Lx.y (Yx.val (add rfl rfl (by first | exact wrap64 (by omega) (by omega) | rfl)) (show _ = i64 ((i + 1 : Nat) : Int) from rfl)) rfl <| Lx.y (asg rfl) rfl <| Lx.nil <| ?_
    refine Xx.dropB bv ?_
    refine Xx.dropB bw ?_
    exact Xx.againK ⟨i + 1, (q ++ [d]) ++ [rs[i]], true, A2, c2, ⟨by omega, by simp only [List.length_append, List.length_singleton]; exact hc2, .inr ⟨rfl, hq2, hex2⟩⟩, rfl, rfl, rfl, (by rw [flat_snoc, flat_snoc, hsh, hsh0]; simp only [List.length_append, List.length_singleton])⟩ (by omega) (Sub.consE (s := 7) rfl (by simp only [List.length_append, List.length_singleton]) (Sc 8 rfl (Sc 9 rfl (Sc 0 rfl (Sc 1 rfl (Sc 3 rfl (Sc 4 rfl (Sc 5 rfl (Sc 10 rfl (Sc 11 rfl (Sc 12 rfl (Sc 13 rfl (Sc 14 rfl (Sc 15 rfl (Sc 16 rfl (Sc 17 rfl (Sub.nil _)))))))))))))))))
   ·
    have hgt := h14
    have hgt : ¬ d.n.toNat < rs[i].n.toNat := by have h9 : ¬ ((rs[i].n.toNat : Nat) : Int) > ((d.n.toNat : Nat) : Int) := hgt; omega
    have hcase2 : fl = false ∧ q ++ [rs[i]] = rs.take (i + 1) ∧ (∀ y ∈ rs.take (i + 1), ¬ d.n.toNat < y.n.toNat) ∨ fl = true ∧ q ++ [rs[i]] = insD d (rs.take (i + 1)) ∧ ∃ y ∈ rs.take (i + 1), d.n.toNat < y.n.toNat := .inl ⟨hfl, by rw [htk, hq], fun y hy => by rw [htk] at hy; rcases List.mem_append.1 hy with h9 | h9; exact hall y h9; rw [List.mem_singleton.1 h9]; exact hgt⟩
    refine Cx.skip ?_
    refine Xx.tn (k11 _ _ _ _ ?_)
    refine Cx.region <| Lx.y (mv rfl) rfl <| Lx.y (mv rfl) rfl <| Lx.y (mv rfl) rfl <| Lx.y (ia U62 sz70 rfl rfl (Int.toNat_natCast _) (by omega) (by omega)) rfl <| Lx.y (ldA U70 rfl sz70 rfl (Cells.base (n := 8) (by first | exact hBq | exact hB _ _ hBq) (hxq.trans hsh)) rfl) rfl <| ?_
    refine Lx.bsl (bslA U62 ti70 rfl rfl (by decide)) rfl (fun bw => ?_)
    refine Lx.o (appN (A := Ao) (q.length + 1) (u64 rs[i].n :: u64 rs[i].ver :: vcs rs[i].v Ap cp An cn) ((q.flatMap Dc.cells) ++ (u64 rs[i].n :: u64 rs[i].ver :: vcs rs[i].v Ap cp An cn)) U62 U62 ti70 rfl rfl rfl rfl rfl (by omega) (by omega) rfl rfl) rfl (fun v B' H' hΦ hB => ?_)
    obtain ⟨A2, c2, rfl, hA2, hl2, hc2, hBB, rfl⟩ := hΦ
    have hBB2 := hBB.symm
    subst hBB2
    clear hB
    refine Lx.y (asg rfl) rfl <| Lx.nil <| Xx.bn <| ?_
    refine Xx.tn (k10 _ _ _ _ ?_)
    refine Cx.region <| Lx.y (mv rfl) rfl <| Lx.y (Yx.val (add rfl rfl (by first | exact wrap64 (by omega) (by omega) | rfl)) (show _ = i64 ((i + 1 : Nat) : Int) from rfl)) rfl <| Lx.y (asg rfl) rfl <| Lx.nil <| ?_
    refine Xx.dropB bw ?_
    exact Xx.againK ⟨i + 1, q ++ [rs[i]], fl, A2, c2, ⟨by omega, by rw [List.length_append]; exact hc2, hcase2⟩, rfl, rfl, rfl, (by rw [flat_snoc, hsh, List.length_append]; rfl)⟩ (by omega) (Sub.consE (s := 7) rfl (by rw [List.length_append]; rfl) (Sc 8 rfl (Sc 9 rfl (Sc 0 rfl (Sc 1 rfl (Sc 3 rfl (Sc 4 rfl (Sc 5 rfl (Sc 10 rfl (Sc 11 rfl (Sc 12 rfl (Sc 13 rfl (Sc 14 rfl (Sc 15 rfl (Sc 16 rfl (Sc 17 rfl (Sub.nil _)))))))))))))))))
  ·
   have hfl : fl = true := by simpa using h13
   have hcase2 : fl = false ∧ q ++ [rs[i]] = rs.take (i + 1) ∧ (∀ y ∈ rs.take (i + 1), ¬ d.n.toNat < y.n.toNat) ∨ fl = true ∧ q ++ [rs[i]] = insD d (rs.take (i + 1)) ∧ ∃ y ∈ rs.take (i + 1), d.n.toNat < y.n.toNat := by
    rcases hcase with z | ⟨z1, z2, y, z3, z4⟩
    ·rw [z.1] at hfl; cases hfl
    ·exact .inr ⟨z1, by rw [htk, insD_lt ⟨y, z3, z4⟩, z2], y, by rw [htk]; exact List.mem_append_left _ z3, z4⟩
   refine Dx.pF (i := 3) rfl (fun _ h => by cases h) rfl rfl rfl (by kernel_rfl) rfl ?_
   refine Dx.pF (i := 4) rfl (fun _ h => by cases h) rfl rfl rfl (by kernel_rfl) rfl ?_
   refine Dx.pF (i := 5) rfl (fun _ h => by cases h) rfl rfl rfl (by kernel_rfl) rfl ?_
   refine Dx.pF (i := 6) rfl (fun _ h => by cases h) rfl rfl rfl (by kernel_rfl) rfl ?_
   refine Dx.pF (i := 7) rfl (fun _ h => by cases h) rfl rfl rfl (by kernel_rfl) rfl ?_
   refine Dx.pF (i := 8) rfl (fun _ h => by cases h) rfl rfl rfl (by kernel_rfl) rfl ?_
   refine Dx.pF (i := 9) rfl (fun _ h => by cases h) rfl rfl rfl (by kernel_rfl) rfl ?_
   refine Dx.pF (i := 10) rfl (fun _ h => by cases h) rfl rfl rfl (by kernel_rfl) rfl ?_
   refine Dx.p (i := 11) rfl (by kernel_rfl) (pickF rfl rfl) rfl ?_
   refine Dx.done (by kernel_rfl) ?_
   refine Xx.tn (k12 _ _ _ _ ?_)
   refine Cx.condF rfl <| Cx.skip <| ?_
   refine Xx.tn (k11 _ _ _ _ ?_)
   refine Cx.region <| Lx.y (mv rfl) rfl <| Lx.y (mv rfl) rfl <| Lx.y (mv rfl) rfl <| Lx.y (ia U62 sz70 rfl rfl (Int.toNat_natCast _) (by omega) (by omega)) rfl <| Lx.y (ldA U70 rfl sz70 rfl (Cells.base (n := 8) (by first | exact hBq | exact hB _ _ hBq) (hxq.trans hsh)) rfl) rfl <| ?_
   refine Lx.bsl (bslA U62 ti70 rfl rfl (by decide)) rfl (fun bw => ?_)
   refine Lx.o (appN (A := Ao) (q.length + 1) (u64 rs[i].n :: u64 rs[i].ver :: vcs rs[i].v Ap cp An cn) ((q.flatMap Dc.cells) ++ (u64 rs[i].n :: u64 rs[i].ver :: vcs rs[i].v Ap cp An cn)) U62 U62 ti70 rfl rfl rfl rfl rfl (by omega) (by omega) rfl rfl) rfl (fun v B' H' hΦ hB => ?_)
   obtain ⟨A2, c2, rfl, hA2, hl2, hc2, hBB, rfl⟩ := hΦ
   have hBB2 := hBB.symm
   subst hBB2
   clear hB
   refine Lx.y (asg rfl) rfl <| Lx.nil <| Xx.bn <| ?_
   refine Xx.tn (k10 _ _ _ _ ?_)
   refine Cx.region <| Lx.y (mv rfl) rfl <| Lx.y (Yx.val (add rfl rfl (by first | exact wrap64 (by omega) (by omega) | rfl)) (show _ = i64 ((i + 1 : Nat) : Int) from rfl)) rfl <| Lx.y (asg rfl) rfl <| Lx.nil <| ?_
   refine Xx.dropB bw ?_
   exact Xx.againK ⟨i + 1, q ++ [rs[i]], fl, A2, c2, ⟨by omega, by rw [List.length_append]; exact hc2, hcase2⟩, rfl, rfl, rfl, (by rw [flat_snoc, hsh, List.length_append]; rfl)⟩ (by omega) (Sub.consE (s := 7) rfl (by rw [List.length_append]; rfl) (Sc 8 rfl (Sc 9 rfl (Sc 0 rfl (Sc 1 rfl (Sc 3 rfl (Sc 4 rfl (Sc 5 rfl (Sc 10 rfl (Sc 11 rfl (Sc 12 rfl (Sc 13 rfl (Sc 14 rfl (Sc 15 rfl (Sc 16 rfl (Sc 17 rfl (Sub.nil _)))))))))))))))))
 ·
  have hge := h9
  obtain rfl : i = rs.length := by omega
  rw [List.take_length] at hcase
  refine Cx.exit <| Xx.te <| Xx.te <| Xx.bh <| ?_
  refine Xx.tn (k5 _ _ _ _ ?_)
  refine Cx.seq (fun K15 k15 => ?_)
  refine Cx.seq (fun K16 k16 => ?_)
  refine Cx.region <| Lx.y (mv rfl) rfl <| Lx.y (not' rfl) rfl <| Lx.nil <| ?_
  refine Xx.tn (k16 _ _ _ _ ?_)
  refine Cx.condB rfl (fun h17 => ?_) (fun h17 => ?_)
  ·
   have hfl : fl = false := by simpa using h17
   obtain ⟨_, hq, hall⟩ : fl = false ∧ q = rs ∧ (∀ y ∈ rs, ¬ d.n.toNat < y.n.toNat) := by rcases hcase with z | z; exact z; rw [z.1] at hfl; cases hfl
   have hql : q.length ≤ rs.length := by rw [hq]; exact Nat.le_refl _
   have hqw : q ++ [d] = withD d ds := by unfold withD; rw [hrs, hq]; have h9 := insD_ge (b := []) hall; rw [List.append_nil] at h9; rw [h9]; rfl
   refine Cx.region <| Lx.y (mv rfl) rfl <| Lx.y (ldA U70 rfl sz70 rfl (Cells.own (n := 8) PickB.eq rfl) rfl) rfl <| ?_
   refine Lx.bsl (bslA U62 ti70 rfl rfl (by decide)) rfl (fun bx => ?_)
   refine Lx.o (appN (A := Ao) (q.length + 1) (u64 d.n :: u64 d.ver :: vcs d.v Ap0 cp0 An0 cn0) ((q.flatMap Dc.cells) ++ (u64 d.n :: u64 d.ver :: vcs d.v Ap0 cp0 An0 cn0)) U62 U62 ti70 rfl rfl rfl rfl rfl (by omega) (by omega) rfl rfl) rfl (fun v B' H' hΦ hB => ?_)
   obtain ⟨A4, c4, rfl, hA4, hl4, hc4, hBB, rfl⟩ := hΦ
   have hBB2 := hBB.symm
   subst hBB2
   clear hB
   refine Lx.y (asg rfl) rfl <| Lx.nil <| ?_
   refine Xx.tn (k15 _ _ _ _ ?_)
   refine Cx.seq (fun K18 k18 => ?_)
   refine Cx.region <| Lx.y (mv rfl) rfl <| Lx.y (asg rfl) rfl <| Lx.nil <| ?_
   refine Xx.tn (k18 _ _ _ _ ?_)
   refine Cx.ret ?_
   refine Xx.dropB bx ?_
   refine Xx.freezeT A4 fun B3 hB3 hRo hnc _ => ?_
   refine Xx.dropB b3 ?_
   exact Xx.rB1 rfl rfl ⟨A4, c4, by rw [← hqw, List.length_append]; rfl, by rw [← hqw]; exact ⟨by rw [flat_snoc, hsh0, List.length_append]; exact hRo, fun y hy => by rcases List.mem_append.1 hy with h9 | h9; exact (hmr.2 y (by rw [← hq]; exact h9)).mono hB3; rw [List.mem_singleton.1 h9]; exact hd.mono (Frag.le_trans hB1 hB3)⟩⟩ (Frag.le_trans hB1 hB3) rfl
  ·
   have hfl : fl = true := by simpa using h17
   obtain ⟨_, hq, _⟩ : fl = true ∧ q = insD d rs ∧ ∃ y ∈ rs, d.n.toNat < y.n.toNat := by rcases hcase with z | z; rw [z.1] at hfl; cases hfl; exact z
   have hqw : q = withD d ds := by unfold withD; rw [hrs, hq]
   refine Cx.skip ?_
   refine Xx.tn (k15 _ _ _ _ ?_)
   refine Cx.seq (fun K19 k19 => ?_)
   refine Cx.region <| Lx.y (mv rfl) rfl <| Lx.y (asg rfl) rfl <| Lx.nil <| ?_
   refine Xx.tn (k19 _ _ _ _ ?_)
   refine Cx.ret ?_
   refine Xx.freezeT Ao fun B3 hB3 hRo hnc _ => ?_
   refine Xx.dropB b3 ?_
   exact Xx.rB1 rfl rfl ⟨Ao, co, by rw [← hqw], by rw [← hqw]; exact ⟨hRo, fun y hy => by rw [hq] at hy; rcases insD_mem.1 hy with h9 | h9; rw [h9]; exact hd.mono (Frag.le_trans hB1 hB3); exact (hmr.2 y h9).mono hB3⟩⟩ (Frag.le_trans hB1 hB3) rfl
theorem numL_take (n : BitVec 64) : (numL n).drop (8 - 0) = [] := by rw [Nat.sub_zero, List.drop_of_length_le (by simp)]
theorem shr_zero (n : BitVec 64) : n >>> (8 * 0) = n := by simp
theorem quo_256 (n : BitVec 64) (i : Nat) : (n >>> (8 * i)) / 256#64 = n >>> (8 * (i + 1)) := by
  apply BitVec.eq_of_toNat_eq
  rw [BitVec.toNat_udiv, BitVec.toNat_ushiftRight, BitVec.toNat_ushiftRight, Nat.shiftRight_eq_div_pow, Nat.shiftRight_eq_div_pow, show 8 * (i + 1) = 8 * i + 8 by omega, Nat.pow_add, ← Nat.div_div_eq_div_mul]; rfl
set_option maxHeartbeats 4000000 in
theorem pair_ct (d : Dc) (f : List UInt8) (B : Frag) (hd : DOk B d) : CtP Tryz.prog 74 [.agg d.cells.toArray, str f] B (str (keyD f d)) := by
 obtain ⟨Ap0, cp0, An0, cn0, hsh0⟩ := cells_shape hd
 rw [hsh0]
 obtain ⟨hval, hchk, hbyt⟩ := hd
 rw [show d.cs = vcs d.v Ap0 cp0 An0 cn0 by unfold Dc.cells at hsh0; injection hsh0 with _ h8; injection h8] at hval
 refine CtB.of_body Tryz.func74 rfl (nt := 30) rfl (by kernel_rfl) rfl ?_
 intro N0 w0 R
 refine Cx.seq (fun K1 k1 => ?_)
 refine Cx.region ?_
 refine Lx.new (boxA rfl) rfl (fun b3 => ?_)
 refine Lx.y (asg rfl) rfl <| Lx.nil <| ?_
 refine Xx.tn (k1 _ _ _ _ ?_)
 refine Cx.seq (fun K2 k2 => ?_)
 refine Cx.region <| Lx.y (fa' fo70_0 rfl) rfl <| Lx.y (ld U34 rfl rfl rfl) rfl <| Lx.y (asg rfl) rfl <| Lx.nil <| ?_
 refine Xx.tn (k2 _ _ _ _ ?_)
 refine Cx.seq (fun K3 k3 => ?_)
 refine Cx.region <| Lx.y (asg rfl) rfl <| Lx.nil <| ?_
 refine Xx.tn (k3 _ _ _ _ ?_)
 refine Cx.seq (fun K4 k4 => ?_)
 refine Cx.seq (fun K5 k5 => ?_)
 refine Cx.region <| Lx.y (asg rfl) rfl <| Lx.nil <| ?_
 refine Xx.tn (k5 _ _ _ _ ?_)
 refine Cx.block ?_
 refine Cx.loopK (Sc 0 rfl (Sc 1 rfl (Sc 2 rfl (Sc 4 rfl (Sc 8 rfl (Sc 9 rfl (Sub.nil _))))))) (fun m ρ' B' H' => ∃ (i : Nat), (i ≤ 8) ∧ m = 8 - i ∧ ρ' = [(5, u64 (d.n >>> (8 * i))), (6, str ((numL d.n).drop (8 - i))), (7, i64 i)] ∧ B = B' ∧ row b3 70 (u64 d.n :: u64 d.ver :: vcs d.v Ap0 cp0 An0 cn0) * R = H') ⟨0, Nat.zero_le _, rfl, rfl, rfl, rfl⟩ (Sub.consE (s := 5) rfl (by rw [shr_zero]) (Sub.consE (s := 6) rfl (by rw [numL_take]) (Sc 7 rfl (Sc 0 rfl (Sc 1 rfl (Sc 2 rfl (Sc 4 rfl (Sc 8 rfl (Sc 9 rfl (Sub.nil _)))))))))) ?_
 rintro m ρ' B' H' ⟨i, hi, rfl, rfl, rfl, rfl⟩
 refine Cx.seq (fun K6 k6 => ?_)
 refine Cx.seq (fun K7 k7 => ?_)
 refine Cx.region <| Lx.y (mv rfl) rfl <| Lx.y (lss rfl rfl) rfl <| Lx.nil <| ?_
 refine Xx.tn (k7 _ _ _ _ ?_)
 refine Cx.condD rfl (fun h8 => ?_) (fun h8 => ?_)
 ·
  have hi8 := h8
  have hi8 : i < 8 := by omega
  refine Cx.skip ?_
  refine Xx.tn (k6 _ _ _ _ ?_)
  refine Cx.seq (fun K9 k9 => ?_)
  refine Cx.block ?_
  refine Cx.seq (fun K10 k10 => ?_)
  refine Cx.region <| Lx.y (mv rfl) rfl <| Lx.y (remW64 (b := 256#64) rfl rfl (by decide)) rfl <| Lx.y (cvI rfl U34 U5 (wrap_u8 _)) rfl <| ?_
  refine Lx.bsl (bsl1 U106 ti5 rfl rfl rfl (by decide)) rfl (fun bv => ?_)
  refine Lx.y (b2sR U106 U5 U9 rfl (u8s_cons u8s_nil) rfl) rfl <| Lx.y (mv rfl) rfl <| Lx.y (catS rfl rfl (by simp; omega)) rfl <| Lx.y (asg rfl) rfl <| Lx.nil <| ?_
  refine Xx.tn (k10 _ _ _ _ ?_)
  refine Cx.region <| Lx.y (mv rfl) rfl <| Lx.y (quoW64 (b := 256#64) rfl rfl (by decide)) rfl <| Lx.y (asg rfl) rfl <| Lx.nil <| Xx.bn <| ?_
  refine Xx.tn (k9 _ _ _ _ ?_)
  refine Cx.region <| Lx.y (mv rfl) rfl <| Lx.y (Yx.val (add rfl rfl (by first | exact wrap64 (by omega) (by omega) | rfl)) (show _ = i64 ((i + 1 : Nat) : Int) from rfl)) rfl <| Lx.y (asg rfl) rfl <| Lx.nil <| ?_
  refine Xx.dropB bv ?_
  exact Xx.againK ⟨i + 1, by omega, rfl, rfl, rfl, rfl⟩ (by omega) (Sub.consE (s := 5) rfl (by rw [quo_256]) (Sub.consE (s := 6) rfl (congrArg str (pair_num d.n hi8)) (Sc 7 rfl (Sc 0 rfl (Sc 1 rfl (Sc 2 rfl (Sc 4 rfl (Sc 8 rfl (Sc 9 rfl (Sub.nil _))))))))))
 ·
  have hi8 := h8
  obtain rfl : i = 8 := by omega
  refine Cx.exit <| Xx.te <| Xx.te <| Xx.bh <| ?_
  refine Xx.tn (k4 _ _ _ _ ?_)
  refine Cx.seq (fun K11 k11 => ?_)
  refine Cx.region <| Lx.y (fa' fo70_2 rfl) rfl <| Lx.y (ldA U39 rfl sz39 rfl (Cells.own (n := 6) PickB.eq (show ((u64 d.n :: u64 d.ver :: vcs d.v Ap0 cp0 An0 cn0).drop 2).take 6 = vcs d.v Ap0 cp0 An0 cn0 from rfl)) rfl) rfl <| Lx.y (mv rfl) rfl <| ?_
  refine Lx.cb rfl rfl rfl (RgA.RGet_ct 2 d.v f 1 _ _ hval hchk) rfl ?_
  rintro r1 B1 ⟨hBB, cs9, rfl, hg9⟩ hB1
  have hBB2 := hBB.symm
  subst hBB2
  clear hB1
  have hkl : (keyF 3 (getV d.v f)).length + 1 ≤ 12 * (bytesF 3 (getV d.v f)).length := keyF_len _ _ _ _ hg9
  have h9 : (bytesF 3 (getV d.v f)).length ≤ (bytesF 4 d.v).length + 1 := getV_bytes (d := 2) f hchk
  refine Lx.cp rfl rfl rfl (RKey_ct 3 (getV d.v f) _ 2 _ hg9 (getV_ok (d := 2) f (by decide) hchk) (by omega)) rfl ?_
  refine Lx.y (mv rfl) rfl <| Lx.y (catS rfl rfl (by simp; omega)) rfl <| Lx.y (asg rfl) rfl <| Lx.nil <| ?_
  refine Xx.tn (k11 _ _ _ _ ?_)
  refine Cx.ret ?_
  refine Xx.dropB b3 ?_
  exact Xx.rB1 rfl rfl ⟨rfl, rfl⟩ (Frag.le_refl _) rfl
theorem few_of : ∀ (d : Nat) (v : V) (deep : Int), checkF d v deep = 0 → Few d v := by
  intro d
  induction d with
  | zero => intro v deep _; exact trivial
  | succ d ih =>
    intro v deep h
    obtain ⟨_, _, _, _, hal, _, hap⟩ := chk_ok h
    refine ⟨by omega, fun p hp => ?_⟩
    obtain ⟨k, hk, rfl⟩ := List.getElem_of_mem hp
    exact ih _ _ (hap k hk)
theorem cmp_refl (d : Nat) (a : V) : cmpF d a a = .eq := by
  have h := cmpF_swap d a a
  cases hc : cmpF d a a with
  | eq => rfl
  | lt => rw [hc] at h; cases h
  | gt => rw [hc] at h; cases h
set_option maxHeartbeats 4000000 in
theorem alike_ct (x d : Dc) (B : Frag) (hx : DOk B x) (hd : DOk B d) (he : Dc.abs x = Dc.abs d) : CtB Tryz.prog 48 [.agg x.cells.toArray, .agg d.cells.toArray] B (fun v _ => v = .bool true) := by
 obtain ⟨Ap0, cp0, An0, cn0, hsh0⟩ := cells_shape hd
 obtain ⟨Ap1, cp1, An1, cn1, hsh1⟩ := cells_shape hx
 rw [hsh0, hsh1]
 obtain ⟨hvd, hckd, _⟩ := hd
 obtain ⟨hvx, hckx, _⟩ := hx
 rw [show d.cs = vcs d.v Ap0 cp0 An0 cn0 by unfold Dc.cells at hsh0; injection hsh0 with _ h8; injection h8] at hvd
 rw [show x.cs = vcs x.v Ap1 cp1 An1 cn1 by unfold Dc.cells at hsh1; injection hsh1 with _ h8; injection h8] at hvx
 have e1 : x.n = d.n := congrArg (fun t => t.1) he
 have e2 : x.ver = d.ver := congrArg (fun t => t.2.1) he
 have e3 : x.v = d.v := congrArg (fun t => t.2.2) he
 rw [e1, e2, e3]
 rw [e3] at hvx hckx
 refine CtB.of_body Tryz.func48 rfl (nt := 25) rfl (by kernel_rfl) rfl ?_
 intro N0 w0 R
 refine Cx.seq (fun K1 k1 => ?_)
 refine Cx.region ?_
 refine Lx.new (boxA rfl) rfl (fun b2 => ?_)
 refine Lx.new (boxA rfl) rfl (fun b3 => ?_)
 refine Lx.y (asg rfl) rfl <| Lx.nil <| ?_
 refine Xx.tn (k1 _ _ _ _ ?_)
 refine Cx.seq (fun K2 k2 => ?_)
 refine Cx.drawn (by kernel_rfl) ?_
 refine Dx.p (i := 0) rfl (by kernel_rfl) (fa' fo36_0 rfl) rfl ?_
 refine Dx.r (i := 1) rfl (by kernel_rfl) (ld U34 rfl rfl rfl) rfl ?_
 refine Dx.p (i := 2) rfl (by kernel_rfl) (fa' fo70_0 rfl) rfl ?_
 refine Dx.r (i := 3) rfl (by kernel_rfl) (ld U34 rfl rfl rfl) rfl ?_
 refine Dx.p (i := 4) rfl (by kernel_rfl) (Yx.tt (eqW64 rfl rfl) (decide_eq_true rfl)) rfl ?_
 refine Dx.p (i := 5) rfl (by kernel_rfl) (mv rfl) rfl ?_
 refine Dx.pT (i := 6) rfl rfl rfl rfl (by kernel_rfl) (fa' fo36_1 rfl) rfl ?_
 refine Dx.rT (i := 7) rfl rfl rfl rfl (by kernel_rfl) (ld U34 rfl rfl rfl) rfl ?_
 refine Dx.pT (i := 8) rfl rfl rfl rfl (by kernel_rfl) (fa' fo70_1 rfl) rfl ?_
 refine Dx.rT (i := 9) rfl rfl rfl rfl (by kernel_rfl) (ld U34 rfl rfl rfl) rfl ?_
 refine Dx.pT (i := 10) rfl rfl rfl rfl (by kernel_rfl) (Yx.tt (eqW64 rfl rfl) (decide_eq_true rfl)) rfl ?_
 refine Dx.p (i := 11) rfl (by kernel_rfl) (pickT rfl rfl) rfl ?_
 refine Dx.p (i := 12) rfl (by kernel_rfl) (mv rfl) rfl ?_
 refine Dx.pT (i := 13) rfl rfl rfl rfl (by kernel_rfl) (fa' fo36_2 rfl) rfl ?_
 refine Dx.rT (i := 14) rfl rfl rfl rfl (by kernel_rfl) (ldA U25 rfl sz25 rfl (Cells.own (n := 6) PickB.eq (show ((u64 d.n :: u64 d.ver :: vcs d.v Ap1 cp1 An1 cn1).drop 2).take 6 = vcs d.v Ap1 cp1 An1 cn1 from rfl)) rfl) rfl ?_
 refine Dx.pT (i := 16) rfl rfl rfl rfl (by kernel_rfl) (fa' fo70_2 rfl) rfl ?_
 refine Dx.rT (i := 17) rfl rfl rfl rfl (by kernel_rfl) (ldA U39 rfl sz39 rfl (Cells.own (n := 6) PickB.eq (show ((u64 d.n :: u64 d.ver :: vcs d.v Ap0 cp0 An0 cn0).drop 2).take 6 = vcs d.v Ap0 cp0 An0 cn0 from rfl)) rfl) rfl ?_
 refine Dx.one (i := 15) (by kernel_rfl) ?_
 refine Dstep.oT (i := 15) rfl rfl rfl rfl (Ox.cb rfl rfl rfl (Ref_ct 4 d.v _ _ hvx (few_of 4 _ _ hckx))) rfl (fun v B' H' hΦ hB => ?_)
 obtain ⟨rfl, hΦ⟩ := hΦ
 obtain ⟨cs7, rfl, hw⟩ := hΦ
 obtain ⟨Aw, cw, Nw, dw, rfl⟩ := ValR.shape hw
 obtain ⟨B7, h7e⟩ : ∃ B7, B7 = B' := ⟨_, rfl⟩
 subst h7e
 have hB7 := hB
 refine ⟨JOk.yes (JOk.edge (JOk.yes (JOk.yes (JOk.yes (JOk.yes (JOk.top) (ld U34 rfl rfl rfl)) (ld U34 rfl rfl rfl)) (ld U34 rfl rfl rfl)) (ld U34 rfl rfl rfl)) (by kernel_rfl)) (ldA U39 rfl sz39 rfl (Cells.own (n := 6) PickB.eq (show ((u64 d.n :: u64 d.ver :: vcs d.v Ap0 cp0 An0 cn0).drop 2).take 6 = vcs d.v Ap0 cp0 An0 cn0 from rfl)) rfl), ?_⟩
 refine Dx.one (i := 18) (by kernel_rfl) ?_
 refine Dstep.oT (i := 18) rfl rfl rfl rfl (Ox.cb rfl rfl rfl (Same_ct 4 d.v d.v 1 _ _ _ hw (hvd.mono hB7) hckd hckd)) rfl (fun v B' H' hΦ hB => ?_)
 obtain ⟨rfl, rfl, hBB⟩ := hΦ; have hBB2 := hBB.symm; subst hBB2; clear hB
 refine ⟨JOk.edge (JOk.yes (JOk.yes (JOk.yes (JOk.yes (JOk.yes (JOk.top) (ld U34 rfl rfl rfl)) (ld U34 rfl rfl rfl)) (ld U34 rfl rfl rfl)) (ld U34 rfl rfl rfl)) (ldA U25 rfl sz25 rfl (Cells.own (n := 6) PickB.eq (show ((u64 d.n :: u64 d.ver :: vcs d.v Ap1 cp1 An1 cn1).drop 2).take 6 = vcs d.v Ap1 cp1 An1 cn1 from rfl)) rfl)) (by kernel_rfl), ?_⟩
 refine Dx.p (i := 19) rfl (by kernel_rfl) (pickT rfl rfl) rfl ?_
 refine Dx.p (i := 20) rfl (by kernel_rfl) (asg rfl) rfl ?_
 refine Dx.done (by kernel_rfl) ?_
 refine Xx.tn (k2 _ _ _ _ ?_)
 refine Cx.ret ?_
 refine Xx.dropB b2 (Xx.dropB b3 ?_)
 exact Xx.rB1 rfl rfl (congrArg Value.bool (by rw [cmp_refl]; rfl)) hB7 rfl
end RwP
end Go.Proofs.YtdidpocakipinaaGreatDoor
namespace Go.Proofs.YtdidpocakipinaaGreatDoor
open Go.SL Go.RowKit
set_option maxRecDepth 100000
open Ke1 Ke3 Ke4 Ke5 Ke6 Ke7 Ke8 Ke9 KeA KeB KeC KeD KeE KeF KeG KeI RgA RgB BtB BtC BtD BtE BtG BtX BtH BtI BtF BtJ BtK BtL BtM BtN BtO BtR BtY BtZ DrA DrB DrC DrD DrE DrF RwA RwB BtQ BtS RwC RwD RwE RwF RwG RwH RwI RwK RwO RwP
namespace RwQ
theorem sz9 : (Tryz.prog.info? 9).map (·.size) = some 1 := by kernel_rfl
theorem sz48 : (Tryz.prog.info? 48).map (·.size) = some 2 := by kernel_rfl
theorem sz70 : (Tryz.prog.info? 70).map (·.size) = some 8 := by kernel_rfl
theorem ti70 : TI Tryz.prog 70 [.int .u64 0, .int .u64 0, .int .i64 0, .bool false, .int .i64 0, str [], .slice none 0 0, .slice none 0 0] 8 104 := TI.of (by kernel_rfl) rfl rfl
theorem fo48_0 : FO Tryz.prog 48 0 0 1 false := FO.of U48 rfl rfl (by kernel_rfl) U9 rfl rfl
theorem fo48_1 : FO Tryz.prog 48 1 1 1 false := FO.of U48 rfl rfl (by kernel_rfl) U9 rfl rfl
theorem flat_takeD {q : List Dc} (h : ∀ d ∈ q, d.cells.length = 8) (j : Nat) : (q.flatMap Dc.cells).take (j * 8) = (q.take j).flatMap Dc.cells := by
  induction q generalizing j with
  | nil => simp
  | cons d q ih =>
    cases j with
    | zero => simp
    | succ j =>
      have h8 := h d (by simp)
      rw [List.flatMap_cons, List.take_succ_cons, List.flatMap_cons, ← ih (fun y hy => h y (by simp [hy])) j, show (j + 1) * 8 = d.cells.length + j * 8 by rw [h8]; omega, List.take_append, List.take_of_length_le (by omega), Nat.add_sub_cancel_left]
theorem flat_dropD {q : List Dc} (h : ∀ d ∈ q, d.cells.length = 8) (j : Nat) : (q.flatMap Dc.cells).drop (j * 8) = (q.drop j).flatMap Dc.cells := by
  induction q generalizing j with
  | nil => simp
  | cons d q ih =>
    cases j with
    | zero => simp
    | succ j =>
      have h8 := h d (by simp)
      rw [List.flatMap_cons, List.drop_succ_cons, ← ih (fun y hy => h y (by simp [hy])) j, show (j + 1) * 8 = d.cells.length + j * 8 by rw [h8]; omega, ← List.drop_drop, List.drop_left]
theorem cells_all {B : Frag} {d : Dc} (h : DOk B d) : d.cells.all (·.oneCell') = true := by
  obtain ⟨_, _, _, _, e⟩ := cells_shape h
  rw [e]; rfl
theorem flat_all {B : Frag} {q : List Dc} (h : ∀ d ∈ q, DOk B d) : (q.flatMap Dc.cells).all (·.oneCell') = true := by
  induction q with
  | nil => rfl
  | cons d q ih => rw [List.flatMap_cons, List.all_append, cells_all (h d (by simp)), ih fun y hy => h y (by simp [hy])]; rfl
noncomputable def insK (f : List UInt8) (d : Dc) : List Dc → List Dc
  | [] => [d]
  | x :: l => if bless (keyD f x) (keyD f d) = true then x :: insK f d l else d :: x :: l
theorem insK_at {f : List UInt8} {d : Dc} : ∀ {q : List Dc} {k : Nat}, k ≤ q.length → (∀ y ∈ q.take k, bless (keyD f y) (keyD f d) = true) → (∀ h : k < q.length, bless (keyD f q[k]) (keyD f d) = false) → insK f d q = q.take k ++ d :: q.drop k := by
  intro q
  induction q with
  | nil => intro k hk _ _; obtain rfl : k = 0 := by simpa using hk
           rfl
  | cons x q ih =>
    intro k hk h1 h2
    unfold insK
    cases k with
    | zero => rw [if_neg (by have := h2 (by simp); simp at this; simp [this])]; rfl
    | succ k =>
      rw [if_pos (h1 x (by simp)), ih (by simpa using hk) (fun y hy => h1 y (by simp [hy])) (fun h => by have := h2 (by simpa using h); simpa using this)]
      rfl
theorem insK_len (f : List UInt8) (d : Dc) (l : List Dc) : (insK f d l).length = l.length + 1 := by
  induction l with
  | nil => rfl
  | cons x l ih => unfold insK; split <;> simp [ih]
theorem insK_mem {f : List UInt8} {d y : Dc} {l : List Dc} : y ∈ insK f d l ↔ y = d ∨ y ∈ l := by
  induction l with
  | nil => simp [insK]
  | cons x l ih =>
    unfold insK
    split
    · rw [List.mem_cons, ih, List.mem_cons]
      constructor
      · rintro (h | h | h)
        · exact .inr (.inl h)
        · exact .inl h
        · exact .inr (.inr h)
      · rintro (h | h | h)
        · exact .inr (.inl h)
        · exact .inl h
        · exact .inr (.inr h)
    · simp
noncomputable def sortK (f lo hi : List UInt8) (ds : List Dc) : List Dc := ds.foldl (fun q d => if BtS.hasB lo hi (keyD f d) = true then insK f d q else q) []
theorem sortK_snoc (f lo hi : List UInt8) (ds : List Dc) (d : Dc) : sortK f lo hi (ds ++ [d]) = if BtS.hasB lo hi (keyD f d) = true then insK f d (sortK f lo hi ds) else sortK f lo hi ds := by
  unfold sortK; rw [List.foldl_append]; rfl
set_option maxHeartbeats 8000000 in
theorem sorted_ct (ds : List Dc) (A : Option Addr) (c : Nat) (f lo hi : List UInt8) (B : Frag) (hm : MdR B A ds) (hl : ds.length ≤ 1000) : CtB Tryz.prog 49 [.slice A ds.length c, str f, .agg [str lo, str hi].toArray] B (fun r B' => ∃ A' c', r = .slice A' (sortK f lo hi ds).length c' ∧ MdR B' A' (sortK f lo hi ds)) := by
 refine CtB.of_body Tryz.func49 rfl (nt := 71) rfl (by kernel_rfl) rfl ?_
 intro N0 w0 R
 refine Cx.seq (fun K1 k1 => ?_)
 refine Cx.region ?_
 refine Lx.new (boxA rfl) rfl (fun b3 => ?_)
 refine Lx.y (asg rfl) rfl <| Lx.nil <| ?_
 refine Xx.tn (k1 _ _ _ _ ?_)
 refine Cx.seq (fun K2 k2 => ?_)
 refine Cx.region ?_
 refine Lx.o (bslZ U62 ti70) rfl (fun v B' H' hΦ hB => ?_)
 obtain ⟨b0, rfl, hBB, rfl⟩ := hΦ
 have hBB2 := hBB.symm
 subst hBB2
 clear hB
 refine Lx.y (asg rfl) rfl <| Lx.nil <| ?_
 refine Xx.tn (k2 _ _ _ _ ?_)
 refine Cx.seq (fun K3 k3 => ?_)
 refine Cx.seq (fun K4 k4 => ?_)
 refine Xx.freezeT (some ⟨b0, 0, none⟩) fun B2 hB2 hRo hnc _ => ?_
 refine Cx.region <| Lx.y (asg rfl) rfl <| Lx.nil <| ?_
 refine Xx.tn (k4 _ _ _ _ ?_)
 refine Cx.block ?_
 refine Cx.loopK (Sc 0 rfl (Sc 1 rfl (Sc 2 rfl (Sc 5 rfl (Sc 6 rfl (Sc 11 rfl (Sub.nil _))))))) (fun m ρ' B' H' => ∃ (i : Nat) (q : List Dc) (Ao : Option Addr) (co : Nat) (B2 : Frag), (i ≤ ds.length ∧ q = sortK f lo hi (ds.take i) ∧ q.length ≤ i ∧ q.length ≤ co ∧ MdR B2 Ao q ∧ B.le B2) ∧ m = ds.length - i ∧ ρ' = [(7, .slice Ao q.length co), (8, i64 i)] ∧ B2 = B' ∧ row b3 48 [str lo, str hi] * R = H') ⟨0, [], _, _, _, ⟨Nat.zero_le _, rfl, Nat.le_refl _, Nat.le_refl _, ⟨hRo, fun d hd => by cases hd⟩, hB2⟩, rfl, rfl, rfl, rfl⟩ (Sc 7 rfl (Sc 8 rfl (Sc 0 rfl (Sc 1 rfl (Sc 2 rfl (Sc 5 rfl (Sc 6 rfl (Sc 11 rfl (Sub.nil _))))))))) ?_
 rintro m ρ' B' H' ⟨i, q, Ao, co, B2, ⟨hi1, hq, hql, hco, hmq, hB2⟩, rfl, rfl, rfl, rfl⟩
 refine Cx.seq (fun K5 k5 => ?_)
 refine Cx.seq (fun K6 k6 => ?_)
 refine Cx.region <| Lx.y (mv rfl) rfl <| Lx.y (mv rfl) rfl <| Lx.y (lenV (ty' := 0) U62 rfl) rfl <| Lx.y (lss rfl rfl) rfl <| Lx.nil <| ?_
 refine Xx.tn (k6 _ _ _ _ ?_)
 refine Cx.condD rfl (fun h7 => ?_) (fun h7 => ?_)
 ·
  have hlt := h7
  have hlt : i < ds.length := by omega
  have hm2 := hm.mono hB2
  obtain ⟨bq, oq, lq, eq, fq, hAq, hBq, hxq⟩ := md_at hm2 hlt
  have hdi := hm2.2 _ (List.getElem_mem hlt)
  obtain ⟨Ap, cp, An, cn, hsh⟩ := cells_shape hdi
  have htk := List.take_succ_eq_append_getElem hlt
  have hpr : CtP Tryz.prog 74 [.agg (u64 ds[i].n :: u64 ds[i].ver :: vcs ds[i].v Ap cp An cn).toArray, str f] B2 (str (keyD f ds[i])) := by rw [← hsh]; exact pair_ct ds[i] f _ hdi
  subst hAq
  refine Cx.skip ?_
  refine Xx.tn (k5 _ _ _ _ ?_)
  refine Cx.seq (fun K8 k8 => ?_)
  refine Cx.block ?_
  refine Cx.seq (fun K9 k9 => ?_)
  refine Cx.region <| Lx.y (mv rfl) rfl <| Lx.y (mv rfl) rfl <| Lx.y (ia U62 sz70 rfl rfl (Int.toNat_natCast _) (by omega) (by omega)) rfl <| Lx.y (ldA U70 rfl sz70 rfl (Cells.base (n := 8) (by first | exact hBq | exact hB _ _ hBq) (hxq.trans hsh)) rfl) rfl <| Lx.y (mv rfl) rfl <| ?_
  refine Lx.cp rfl rfl rfl (hpr) rfl ?_
  refine Lx.y (asg rfl) rfl <| Lx.nil <| ?_
  refine Xx.tn (k9 _ _ _ _ ?_)
  refine Cx.cutK (ds' := []) (Sc 0 rfl (Sc 1 rfl (Sc 2 rfl (Sc 5 rfl (Sc 6 rfl (Sc 7 rfl (Sc 8 rfl (Sc 9 rfl (Sc 11 rfl (Sc 12 rfl (Sc 13 rfl (Sc 14 rfl (Sc 15 rfl (Sc 18 rfl (Sc 19 rfl (Sc 20 rfl (Sc 21 rfl (Sc 22 rfl (Sc 23 rfl (Sub.nil _)))))))))))))))))))) (fun ρ' B' H' => ρ' = [] ∧ B2 = B' ∧ row b3 48 [str lo, str hi] * R = H' ∧ BtS.hasB lo hi (keyD f ds[i]) = true) ?_ ?_
  ·
   refine Cx.seq (fun K10 k10 => ?_)
   refine Cx.region <| Lx.y (mv rfl) rfl <| Lx.y (fa' fo48_0 rfl) rfl <| Lx.y (ld U9 rfl rfl rfl) rfl <| Lx.y (lssS rfl rfl) rfl <| Lx.y (mv rfl) rfl <| ?_
   refine Xx.ifB (t := 28) rfl (fun h11 => ?_) (fun h11 => ?_)
   ·
    have g1 := h11
    have hno : BtS.hasB lo hi (keyD f ds[i]) = false := by unfold BtS.hasB; simp_all
    refine Lx.gF rfl rfl rfl rfl <| Lx.gF rfl rfl rfl rfl <| Lx.gF rfl rfl rfl rfl <| Lx.gF rfl rfl rfl rfl <| Lx.gU rfl rfl rfl rfl <| Lx.gU rfl rfl rfl rfl <| Lx.gU rfl rfl rfl rfl <| Lx.gU rfl rfl rfl rfl <| Lx.gF rfl rfl rfl rfl <| Lx.y (pickT rfl rfl) rfl <| Lx.nil <| ?_
    refine Xx.tn (k10 _ _ _ _ ?_)
    refine Cx.condT rfl <| Cx.exit <| Xx.te <| Xx.bh <| ?_
    refine Xx.tn (k8 _ _ _ _ ?_)
    refine Cx.region <| Lx.y (mv rfl) rfl <| Lx.y (Yx.val (add rfl rfl (by first | exact wrap64 (by omega) (by omega) | rfl)) (show _ = i64 ((i + 1 : Nat) : Int) from rfl)) rfl <| Lx.y (asg rfl) rfl <| Lx.nil <| ?_
    exact Xx.againK ⟨i + 1, q, Ao, co, B2, ⟨by omega, by rw [htk, sortK_snoc, if_neg (by rw [hno]; decide)]; exact hq, by omega, hco, hmq, hB2⟩, rfl, rfl, rfl, rfl⟩ (by omega) (Sc 7 rfl (Sc 8 rfl (Sc 0 rfl (Sc 1 rfl (Sc 2 rfl (Sc 5 rfl (Sc 6 rfl (Sc 11 rfl (Sub.nil _)))))))))
   ·
    have g1 := h11
    refine Lx.gT rfl rfl rfl <| Lx.y (fa' fo48_1 rfl) rfl <| Lx.gT rfl rfl rfl <| Lx.y (ld U9 rfl rfl rfl) rfl <| Lx.gT rfl rfl rfl <| Lx.y (neS rfl rfl) rfl <| Lx.gT rfl rfl rfl <| Lx.y (mv rfl) rfl <| ?_
    refine Xx.ifN (t := 32) rfl (fun h12 => ?_) (fun h12 => ?_)
    ·
     have g2 := h12
     refine Lx.gT rfl rfl rfl <| Lx.y (mv rfl) rfl <| Lx.gT rfl rfl rfl <| Lx.y (fa' fo48_1 rfl) rfl <| Lx.gT rfl rfl rfl <| Lx.y (ld U9 rfl rfl rfl) rfl <| Lx.gT rfl rfl rfl <| Lx.y (geqS rfl rfl) rfl <| Lx.gT rfl rfl rfl <| Lx.y (pickT rfl rfl) rfl <| Lx.y (pickF rfl rfl) rfl <| Lx.nil <| ?_
     refine Xx.tn (k10 _ _ _ _ ?_)
     refine Cx.condB rfl (fun h13 => ?_) (fun h13 => ?_)
     ·
      have g3 := h13
      have hno : BtS.hasB lo hi (keyD f ds[i]) = false := by unfold BtS.hasB; simp_all
      refine Cx.exit <| Xx.te <| Xx.bh <| ?_
      refine Xx.tn (k8 _ _ _ _ ?_)
      refine Cx.region <| Lx.y (mv rfl) rfl <| Lx.y (Yx.val (add rfl rfl (by first | exact wrap64 (by omega) (by omega) | rfl)) (show _ = i64 ((i + 1 : Nat) : Int) from rfl)) rfl <| Lx.y (asg rfl) rfl <| Lx.nil <| ?_
      exact Xx.againK ⟨i + 1, q, Ao, co, B2, ⟨by omega, by rw [htk, sortK_snoc, if_neg (by rw [hno]; decide)]; exact hq, by omega, hco, hmq, hB2⟩, rfl, rfl, rfl, rfl⟩ (by omega) (Sc 7 rfl (Sc 8 rfl (Sc 0 rfl (Sc 1 rfl (Sc 2 rfl (Sc 5 rfl (Sc 6 rfl (Sc 11 rfl (Sub.nil _)))))))))
     ·
      have g3 := h13
      have hyes : BtS.hasB lo hi (keyD f ds[i]) = true := by unfold BtS.hasB; simp_all
      refine Cx.skip ?_
      exact Xx.mkK (⟨rfl, rfl, rfl, hyes⟩) (Sc 0 rfl (Sc 1 rfl (Sc 2 rfl (Sc 5 rfl (Sc 6 rfl (Sc 7 rfl (Sc 8 rfl (Sc 9 rfl (Sc 11 rfl (Sc 12 rfl (Sc 13 rfl (Sc 14 rfl (Sc 15 rfl (Sc 18 rfl (Sc 19 rfl (Sc 20 rfl (Sc 21 rfl (Sc 22 rfl (Sc 23 rfl (Sub.nil _))))))))))))))))))))
    ·
     have g2 := h12
     have hyes : BtS.hasB lo hi (keyD f ds[i]) = true := by unfold BtS.hasB; simp_all
     refine Lx.gF rfl rfl rfl rfl <| Lx.gF rfl rfl rfl rfl <| Lx.gF rfl rfl rfl rfl <| Lx.gF rfl rfl rfl rfl <| Lx.gT rfl rfl rfl <| Lx.y (pickF rfl rfl) rfl <| Lx.y (pickF rfl rfl) rfl <| Lx.nil <| ?_
     refine Xx.tn (k10 _ _ _ _ ?_)
     refine Cx.condF rfl <| Cx.skip <| ?_
     exact Xx.mkK (⟨rfl, rfl, rfl, hyes⟩) (Sc 0 rfl (Sc 1 rfl (Sc 2 rfl (Sc 5 rfl (Sc 6 rfl (Sc 7 rfl (Sc 8 rfl (Sc 9 rfl (Sc 11 rfl (Sc 12 rfl (Sc 13 rfl (Sc 14 rfl (Sc 15 rfl (Sc 18 rfl (Sc 19 rfl (Sc 20 rfl (Sc 21 rfl (Sc 22 rfl (Sc 23 rfl (Sub.nil _))))))))))))))))))))
  ·rintro ρ' B' H' ⟨rfl, rfl, rfl, hyes⟩
   refine Cx.seq (fun K14 k14 => ?_)
   refine Cx.region <| Lx.y (asg rfl) rfl <| Lx.nil <| ?_
   refine Xx.tn (k14 _ _ _ _ ?_)
   refine Cx.cutK (ds' := []) (Sc 0 rfl (Sc 1 rfl (Sc 2 rfl (Sc 5 rfl (Sc 6 rfl (Sc 7 rfl (Sc 8 rfl (Sc 9 rfl (Sc 11 rfl (Sc 12 rfl (Sc 13 rfl (Sc 14 rfl (Sc 15 rfl (Sc 18 rfl (Sc 19 rfl (Sc 20 rfl (Sc 21 rfl (Sc 22 rfl (Sc 23 rfl (Sub.nil _)))))))))))))))))))) (fun ρ' B' H' => ∃ a : Nat, ρ' = [(10, i64 a)] ∧ B2 = B' ∧ row b3 48 [str lo, str hi] * R = H' ∧ a ≤ q.length ∧ (∀ y ∈ q.take a, bless (keyD f y) (keyD f ds[i]) = true) ∧ (∀ h : a < q.length, bless (keyD f q[a]) (keyD f ds[i]) = false)) ?_ ?_
   ·
    refine Cx.block ?_
    refine Cx.loopK (Sc 0 rfl (Sc 1 rfl (Sc 2 rfl (Sc 5 rfl (Sc 6 rfl (Sc 7 rfl (Sc 8 rfl (Sc 9 rfl (Sc 11 rfl (Sc 12 rfl (Sc 13 rfl (Sc 14 rfl (Sc 15 rfl (Sc 18 rfl (Sc 19 rfl (Sc 20 rfl (Sc 21 rfl (Sc 22 rfl (Sc 23 rfl (Sub.nil _)))))))))))))))))))) (fun m ρ' B' H' => ∃ (a : Nat), (a ≤ q.length ∧ ∀ y ∈ q.take a, bless (keyD f y) (keyD f ds[i]) = true) ∧ m = q.length - a ∧ ρ' = [(10, i64 a)] ∧ B2 = B' ∧ row b3 48 [str lo, str hi] * R = H') ⟨0, ⟨Nat.zero_le _, fun y hy => by simp at hy⟩, rfl, rfl, rfl, rfl⟩ (Sc 10 rfl (Sc 0 rfl (Sc 1 rfl (Sc 2 rfl (Sc 5 rfl (Sc 6 rfl (Sc 7 rfl (Sc 8 rfl (Sc 9 rfl (Sc 11 rfl (Sc 12 rfl (Sc 13 rfl (Sc 14 rfl (Sc 15 rfl (Sc 18 rfl (Sc 19 rfl (Sc 20 rfl (Sc 21 rfl (Sc 22 rfl (Sc 23 rfl (Sub.nil _))))))))))))))))))))) ?_
    rintro m ρ' B' H' ⟨a, ⟨ha, hall⟩, rfl, rfl, rfl, rfl⟩
    refine Cx.seq (fun K15 k15 => ?_)
    refine Cx.seq (fun K16 k16 => ?_)
    refine Cx.region <| Lx.y (mv rfl) rfl <| Lx.y (mv rfl) rfl <| Lx.y (lenV (ty' := 0) U62 rfl) rfl <| Lx.y (lss rfl rfl) rfl <| Lx.y (mv rfl) rfl <| ?_
    refine Xx.ifD (t := 43) rfl (fun h17 => ?_) (fun h17 => ?_)
    ·
     have halt := h17
     have halt : a < q.length := by omega
     obtain ⟨br, or, lr, er, fr, hAr, hBr, hxr⟩ := md_at hmq halt
     subst hAr
     obtain ⟨Ar, cr, An2, cn2, hsh2⟩ := cells_shape (hmq.2 _ (List.getElem_mem halt))
     have hpr2 : CtP Tryz.prog 74 [.agg (u64 q[a].n :: u64 q[a].ver :: vcs q[a].v Ar cr An2 cn2).toArray, str f] B2 (str (keyD f q[a])) := by rw [← hsh2]; exact pair_ct q[a] f _ (hmq.2 _ (List.getElem_mem halt))
     refine Lx.gT rfl rfl rfl <| Lx.y (mv rfl) rfl <| Lx.gT rfl rfl rfl <| Lx.y (mv rfl) rfl <| Lx.gT rfl rfl rfl <| Lx.y (ia U62 sz70 rfl rfl (Int.toNat_natCast _) (by omega) (by omega)) rfl <| Lx.gT rfl rfl rfl <| Lx.y (ldA U70 rfl sz70 rfl (Cells.base (n := 8) (by first | exact hBr | exact hB _ _ hBr) (hxr.trans hsh2)) rfl) rfl <| Lx.gT rfl rfl rfl <| Lx.y (mv rfl) rfl <| Lx.gT rfl rfl rfl <| ?_
     refine Lx.cp rfl rfl rfl (hpr2) rfl ?_
     refine Lx.gT rfl rfl rfl <| Lx.y (mv rfl) rfl <| Lx.gT rfl rfl rfl <| Lx.y (lssS rfl rfl) rfl <| Lx.y (pickT rfl rfl) rfl <| Lx.nil <| ?_
     refine Xx.tn (k16 _ _ _ _ ?_)
     refine Cx.condB rfl (fun h18 => ?_) (fun h18 => ?_)
     ·
      have hbl := h18
      refine Cx.skip ?_
      refine Xx.tn (k15 _ _ _ _ ?_)
      refine Cx.block <| Cx.region <| Lx.y (mv rfl) rfl <| Lx.y (Yx.val (add rfl rfl (by first | exact wrap64 (by omega) (by omega) | rfl)) (show _ = i64 ((a + 1 : Nat) : Int) from rfl)) rfl <| Lx.y (asg rfl) rfl <| Lx.nil <| Xx.bn <| ?_
      exact Xx.againK ⟨a + 1, ⟨by omega, fun y hy => by rw [List.take_succ_eq_append_getElem halt] at hy; rcases List.mem_append.1 hy with h9 | h9; exact hall y h9; rw [List.mem_singleton.1 h9]; exact hbl⟩, rfl, rfl, rfl, rfl⟩ (by omega) (Sc 10 rfl (Sc 0 rfl (Sc 1 rfl (Sc 2 rfl (Sc 5 rfl (Sc 6 rfl (Sc 7 rfl (Sc 8 rfl (Sc 9 rfl (Sc 11 rfl (Sc 12 rfl (Sc 13 rfl (Sc 14 rfl (Sc 15 rfl (Sc 18 rfl (Sc 19 rfl (Sc 20 rfl (Sc 21 rfl (Sc 22 rfl (Sc 23 rfl (Sub.nil _)))))))))))))))))))))
     ·
      have hbf := h18
      refine Cx.exit <| Xx.te <| Xx.te <| Xx.bh <| ?_
      exact Xx.mkK (⟨_, rfl, rfl, rfl, ha, hall, fun h9 => by first | exact hbf | exact absurd h9 (Nat.lt_irrefl _)⟩) (Sc 10 rfl (Sc 0 rfl (Sc 1 rfl (Sc 2 rfl (Sc 5 rfl (Sc 6 rfl (Sc 7 rfl (Sc 8 rfl (Sc 9 rfl (Sc 11 rfl (Sc 12 rfl (Sc 13 rfl (Sc 14 rfl (Sc 15 rfl (Sc 18 rfl (Sc 19 rfl (Sc 20 rfl (Sc 21 rfl (Sc 22 rfl (Sc 23 rfl (Sub.nil _)))))))))))))))))))))
    ·
     have hage := h17
     obtain rfl : a = q.length := by omega
     refine Lx.gF rfl rfl rfl rfl <| Lx.gF rfl rfl rfl rfl <| Lx.gF rfl rfl rfl rfl <| Lx.gF rfl rfl rfl rfl <| Lx.gF rfl rfl rfl rfl <| Lx.gF rfl rfl rfl rfl <| Lx.gF rfl rfl rfl rfl <| Lx.gF rfl rfl rfl rfl <| Lx.y (pickF rfl rfl) rfl <| Lx.nil <| ?_
     refine Xx.tn (k16 _ _ _ _ ?_)
     refine Cx.condF rfl <| Cx.exit <| Xx.te <| Xx.te <| Xx.bh <| ?_
     exact Xx.mkK (⟨_, rfl, rfl, rfl, ha, hall, fun h9 => by first | exact hbf | exact absurd h9 (Nat.lt_irrefl _)⟩) (Sc 10 rfl (Sc 0 rfl (Sc 1 rfl (Sc 2 rfl (Sc 5 rfl (Sc 6 rfl (Sc 7 rfl (Sc 8 rfl (Sc 9 rfl (Sc 11 rfl (Sc 12 rfl (Sc 13 rfl (Sc 14 rfl (Sc 15 rfl (Sc 18 rfl (Sc 19 rfl (Sc 20 rfl (Sc 21 rfl (Sc 22 rfl (Sc 23 rfl (Sub.nil _)))))))))))))))))))))
   ·rintro ρ' B' H' ⟨a, rfl, rfl, rfl, ha, hall, hbf⟩
    have hins : insK f ds[i] q = q.take a ++ ds[i] :: q.drop a := insK_at ha hall hbf
    have h8 : ∀ y ∈ q, y.cells.length = 8 := fun y hy => cells_len (hmq.2 y hy)
    have hr1 : RoS B2 8 Ao a ((q.take a).flatMap Dc.cells) := by rw [← flat_takeD h8]; exact RoS.take hmq.1 ha
    have hr2 : RoS B2 8 (subA Ao co a 8) (q.length - a) ((q.drop a).flatMap Dc.cells) := by rw [← flat_dropD h8]; exact RoS.sub hmq.1 ha hco
    have hal1 := flat_all (q := q.take a) fun y hy => hmq.2 y (List.mem_of_mem_take hy)
    have hal2 := flat_all (q := q.drop a) fun y hy => hmq.2 y (List.mem_of_mem_drop hy)
    refine Cx.drawn (by kernel_rfl) ?_
    refine Dx.p (i := 1) rfl (by kernel_rfl) (mv rfl) rfl ?_
    refine Dx.p (i := 2) rfl (by kernel_rfl) (mv rfl) rfl ?_
    refine Dx.p (i := 3) rfl (by kernel_rfl) (sl2V U62 sz70 rfl rfl (Int.toNat_natCast _) (by omega) (by omega)) rfl ?_
    refine Dx.p (i := 5) rfl (by kernel_rfl) (mv rfl) rfl ?_
    refine Dx.p (i := 6) rfl (by kernel_rfl) (mv rfl) rfl ?_
    refine Dx.p (i := 7) rfl (by kernel_rfl) (ia U62 sz70 rfl rfl (Int.toNat_natCast _) (by omega) (by omega)) rfl ?_
    refine Dx.r (i := 8) rfl (by kernel_rfl) (ldA U70 rfl sz70 rfl (Cells.base (n := 8) (by first | exact hBq | exact hB _ _ hBq) (hxq.trans hsh)) rfl) rfl ?_
    refine Dx.p (i := 11) rfl (by kernel_rfl) (mv rfl) rfl ?_
    refine Dx.p (i := 12) rfl (by kernel_rfl) (mv rfl) rfl ?_
    refine Dx.p (i := 13) rfl (by kernel_rfl) (sl1V U62 sz70 rfl rfl (Int.toNat_natCast _) (by omega) (by omega)) rfl ?_
    refine Dx.two (i := 0) (j := 9) (by kernel_rfl) ?_ ?_
    ·
     refine Dstep.o (i := 0) rfl (bslZ U62 ti70) rfl (fun v B' H' hΦ hB => ?_)
     obtain ⟨b0, rfl, hBB, rfl⟩ := hΦ
     have hBB2 := hBB.symm
     subst hBB2
     clear hB
     refine ⟨JOk.yes (JOk.top) (ldA U70 rfl sz70 rfl (Cells.base (n := 8) (by first | exact hBq | exact hB _ _ hBq) (hxq.trans hsh)) rfl), ?_⟩
     refine Dx.two (i := 4) (j := 9) (by kernel_rfl) ?_ ?_
     ·
      refine Dstep.o (i := 4) rfl (appC U62 U62 ti70 rfl rfl (.inr hr1) hal1 (by omega) (by omega)) rfl (fun v B' H' hΦ hB => ?_)
      obtain ⟨A1, c1, rfl, hc1, hBB, rfl⟩ := hΦ
      have hBB2 := hBB.symm
      subst hBB2
      clear hB
      refine ⟨JOk.yes (JOk.top) (ldA U70 rfl sz70 rfl (Cells.base (n := 8) (by first | exact hBq | exact hB _ _ hBq) (hxq.trans hsh)) rfl), ?_⟩
      refine Dx.one (i := 9) (by kernel_rfl) ?_
      refine Dstep.o (i := 9) rfl (bslA U62 ti70 rfl rfl (by decide)) rfl (fun v B' H' hΦ hB => ?_)
      obtain ⟨bp, rfl, hBB, rfl⟩ := hΦ; have hBB2 := hBB.symm; subst hBB2; clear hB
      refine ⟨JOk.edge (JOk.top) (by kernel_rfl), ?_⟩
      refine Dx.one (i := 10) (by kernel_rfl) ?_
      refine Dstep.o (i := 10) rfl (appN (A := A1) (a + 1) (u64 ds[i].n :: u64 ds[i].ver :: vcs ds[i].v Ap cp An cn) ((q.take a).flatMap Dc.cells ++ (u64 ds[i].n :: u64 ds[i].ver :: vcs ds[i].v Ap cp An cn)) U62 U62 ti70 rfl rfl rfl rfl rfl (by omega) (by omega) rfl rfl) rfl (fun v B' H' hΦ hB => ?_)
      obtain ⟨A2, c2, rfl, hA2, hl2, hc2, hBB, rfl⟩ := hΦ
      have hBB2 := hBB.symm
      subst hBB2
      clear hB
      refine ⟨JOk.yes (JOk.top) (ldA U70 rfl sz70 rfl (Cells.base (n := 8) (by first | exact hBq | exact hB _ _ hBq) (hxq.trans hsh)) rfl), ?_⟩
      refine Dx.one (i := 14) (by kernel_rfl) ?_
      refine Dstep.o (i := 14) rfl (appB (A := A2) (insK f ds[i] q).length ((insK f ds[i] q).flatMap Dc.cells) U62 U62 ti70 rfl rfl hr2 hal2 (by omega) (by omega) (by rw [insK_len]; omega) (by rw [hins, List.flatMap_append, List.flatMap_cons, hsh, List.append_assoc])) rfl (fun v B' H' hΦ hB => ?_)
      obtain ⟨A3, c3, rfl, hA3, hc3, hBB, rfl⟩ := hΦ
      have hBB2 := hBB.symm
      subst hBB2
      clear hB
      refine ⟨JOk.yes (JOk.top) (ldA U70 rfl sz70 rfl (Cells.base (n := 8) (by first | exact hBq | exact hB _ _ hBq) (hxq.trans hsh)) rfl), ?_⟩
      refine Dx.p (i := 15) rfl (by kernel_rfl) (asg rfl) rfl ?_
      refine Dx.done (by kernel_rfl) ?_
      refine Xx.bn ?_
      refine Xx.tn (k8 _ _ _ _ ?_)
      refine Cx.region <| Lx.y (mv rfl) rfl <| Lx.y (Yx.val (add rfl rfl (by first | exact wrap64 (by omega) (by omega) | rfl)) (show _ = i64 ((i + 1 : Nat) : Int) from rfl)) rfl <| Lx.y (asg rfl) rfl <| Lx.nil <| ?_
      refine Xx.dropB bp ?_
      refine Xx.freezeT A3 fun B3 hB3 hRo3 hnc3 _ => ?_
      exact Xx.againK ⟨i + 1, insK f ds[i] q, A3, c3, B3, ⟨by omega, by rw [htk, sortK_snoc, if_pos hyes, ← hq], by rw [insK_len]; omega, hc3, ⟨hRo3, fun y hy => by rcases insK_mem.1 hy with h9 | h9; rw [h9]; exact hdi.mono hB3; exact (hmq.2 y h9).mono hB3⟩, Frag.le_trans hB2 hB3⟩, rfl, rfl, rfl, rfl⟩ (by omega) (Sc 7 rfl (Sc 8 rfl (Sc 0 rfl (Sc 1 rfl (Sc 2 rfl (Sc 5 rfl (Sc 6 rfl (Sc 11 rfl (Sub.nil _)))))))))
     refine Dstep.o (i := 9) rfl (bslA U62 ti70 rfl rfl (by decide)) rfl (fun v B' H' hΦ hB => ?_)
     obtain ⟨bp, rfl, hBB, rfl⟩ := hΦ; have hBB2 := hBB.symm; subst hBB2; clear hB
     refine ⟨JOk.edge (JOk.top) (by kernel_rfl), ?_⟩
     refine Dx.one (i := 4) (by kernel_rfl) ?_
     refine Dstep.o (i := 4) rfl (appC U62 U62 ti70 rfl rfl (.inr hr1) hal1 (by omega) (by omega)) rfl (fun v B' H' hΦ hB => ?_)
     obtain ⟨A1, c1, rfl, hc1, hBB, rfl⟩ := hΦ
     have hBB2 := hBB.symm
     subst hBB2
     clear hB
     refine ⟨JOk.yes (JOk.top) (ldA U70 rfl sz70 rfl (Cells.base (n := 8) (by first | exact hBq | exact hB _ _ hBq) (hxq.trans hsh)) rfl), ?_⟩
     refine Dx.one (i := 10) (by kernel_rfl) ?_
     refine Dstep.o (i := 10) rfl (appN (A := A1) (a + 1) (u64 ds[i].n :: u64 ds[i].ver :: vcs ds[i].v Ap cp An cn) ((q.take a).flatMap Dc.cells ++ (u64 ds[i].n :: u64 ds[i].ver :: vcs ds[i].v Ap cp An cn)) U62 U62 ti70 rfl rfl rfl rfl rfl (by omega) (by omega) rfl rfl) rfl (fun v B' H' hΦ hB => ?_)
     obtain ⟨A2, c2, rfl, hA2, hl2, hc2, hBB, rfl⟩ := hΦ
     have hBB2 := hBB.symm
     subst hBB2
     clear hB
     refine ⟨JOk.yes (JOk.top) (ldA U70 rfl sz70 rfl (Cells.base (n := 8) (by first | exact hBq | exact hB _ _ hBq) (hxq.trans hsh)) rfl), ?_⟩
     refine Dx.one (i := 14) (by kernel_rfl) ?_
     refine Dstep.o (i := 14) rfl (appB (A := A2) (insK f ds[i] q).length ((insK f ds[i] q).flatMap Dc.cells) U62 U62 ti70 rfl rfl hr2 hal2 (by omega) (by omega) (by rw [insK_len]; omega) (by rw [hins, List.flatMap_append, List.flatMap_cons, hsh, List.append_assoc])) rfl (fun v B' H' hΦ hB => ?_)
     obtain ⟨A3, c3, rfl, hA3, hc3, hBB, rfl⟩ := hΦ
     have hBB2 := hBB.symm
     subst hBB2
     clear hB
     refine ⟨JOk.yes (JOk.top) (ldA U70 rfl sz70 rfl (Cells.base (n := 8) (by first | exact hBq | exact hB _ _ hBq) (hxq.trans hsh)) rfl), ?_⟩
     refine Dx.p (i := 15) rfl (by kernel_rfl) (asg rfl) rfl ?_
     refine Dx.done (by kernel_rfl) ?_
     refine Xx.bn ?_
     refine Xx.tn (k8 _ _ _ _ ?_)
     refine Cx.region <| Lx.y (mv rfl) rfl <| Lx.y (Yx.val (add rfl rfl (by first | exact wrap64 (by omega) (by omega) | rfl)) (show _ = i64 ((i + 1 : Nat) : Int) from rfl)) rfl <| Lx.y (asg rfl) rfl <| Lx.nil <| ?_
     refine Xx.dropB bp ?_
     refine Xx.freezeT A3 fun B3 hB3 hRo3 hnc3 _ => ?_
     exact Xx.againK ⟨i + 1, insK f ds[i] q, A3, c3, B3, ⟨by omega, by rw [htk, sortK_snoc, if_pos hyes, ← hq], by rw [insK_len]; omega, hc3, ⟨hRo3, fun y hy => by rcases insK_mem.1 hy with h9 | h9; rw [h9]; exact hdi.mono hB3; exact (hmq.2 y h9).mono hB3⟩, Frag.le_trans hB2 hB3⟩, rfl, rfl, rfl, rfl⟩ (by omega) (Sc 7 rfl (Sc 8 rfl (Sc 0 rfl (Sc 1 rfl (Sc 2 rfl (Sc 5 rfl (Sc 6 rfl (Sc 11 rfl (Sub.nil _)))))))))
    refine Dstep.o (i := 9) rfl (bslA U62 ti70 rfl rfl (by decide)) rfl (fun v B' H' hΦ hB => ?_)
    obtain ⟨bp, rfl, hBB, rfl⟩ := hΦ; have hBB2 := hBB.symm; subst hBB2; clear hB
    refine ⟨JOk.edge (JOk.top) (by kernel_rfl), ?_⟩
    refine Dx.one (i := 0) (by kernel_rfl) ?_
    refine Dstep.o (i := 0) rfl (bslZ U62 ti70) rfl (fun v B' H' hΦ hB => ?_)
    obtain ⟨b0, rfl, hBB, rfl⟩ := hΦ
    have hBB2 := hBB.symm
    subst hBB2
    clear hB
    refine ⟨JOk.yes (JOk.top) (ldA U70 rfl sz70 rfl (Cells.base (n := 8) (by first | exact hBq | exact hB _ _ hBq) (hxq.trans hsh)) rfl), ?_⟩
    refine Dx.one (i := 4) (by kernel_rfl) ?_
    refine Dstep.o (i := 4) rfl (appC U62 U62 ti70 rfl rfl (.inr hr1) hal1 (by omega) (by omega)) rfl (fun v B' H' hΦ hB => ?_)
    obtain ⟨A1, c1, rfl, hc1, hBB, rfl⟩ := hΦ
    have hBB2 := hBB.symm
    subst hBB2
    clear hB
    refine ⟨JOk.yes (JOk.top) (ldA U70 rfl sz70 rfl (Cells.base (n := 8) (by first | exact hBq | exact hB _ _ hBq) (hxq.trans hsh)) rfl), ?_⟩
    refine Dx.one (i := 10) (by kernel_rfl) ?_
    refine Dstep.o (i := 10) rfl (appN (A := A1) (a + 1) (u64 ds[i].n :: u64 ds[i].ver :: vcs ds[i].v Ap cp An cn) ((q.take a).flatMap Dc.cells ++ (u64 ds[i].n :: u64 ds[i].ver :: vcs ds[i].v Ap cp An cn)) U62 U62 ti70 rfl rfl rfl rfl rfl (by omega) (by omega) rfl rfl) rfl (fun v B' H' hΦ hB => ?_)
    obtain ⟨A2, c2, rfl, hA2, hl2, hc2, hBB, rfl⟩ := hΦ
    have hBB2 := hBB.symm
    subst hBB2
    clear hB
    refine ⟨JOk.yes (JOk.top) (ldA U70 rfl sz70 rfl (Cells.base (n := 8) (by first | exact hBq | exact hB _ _ hBq) (hxq.trans hsh)) rfl), ?_⟩
    refine Dx.one (i := 14) (by kernel_rfl) ?_
    refine Dstep.o (i := 14) rfl (appB (A := A2) (insK f ds[i] q).length ((insK f ds[i] q).flatMap Dc.cells) U62 U62 ti70 rfl rfl hr2 hal2 (by omega) (by omega) (by rw [insK_len]; omega) (by rw [hins, List.flatMap_append, List.flatMap_cons, hsh, List.append_assoc])) rfl (fun v B' H' hΦ hB => ?_)
    obtain ⟨A3, c3, rfl, hA3, hc3, hBB, rfl⟩ := hΦ
    have hBB2 := hBB.symm
    subst hBB2
    clear hB
    refine ⟨JOk.yes (JOk.top) (ldA U70 rfl sz70 rfl (Cells.base (n := 8) (by first | exact hBq | exact hB _ _ hBq) (hxq.trans hsh)) rfl), ?_⟩
    refine Dx.p (i := 15) rfl (by kernel_rfl) (asg rfl) rfl ?_
    refine Dx.done (by kernel_rfl) ?_
    refine Xx.bn ?_
    refine Xx.tn (k8 _ _ _ _ ?_)
    refine Cx.region <| Lx.y (mv rfl) rfl <| Lx.y (Yx.val (add rfl rfl (by first | exact wrap64 (by omega) (by omega) | rfl)) (show _ = i64 ((i + 1 : Nat) : Int) from rfl)) rfl <| Lx.y (asg rfl) rfl <| Lx.nil <| ?_
    refine Xx.dropB bp ?_
    refine Xx.freezeT A3 fun B3 hB3 hRo3 hnc3 _ => ?_
    exact Xx.againK ⟨i + 1, insK f ds[i] q, A3, c3, B3, ⟨by omega, by rw [htk, sortK_snoc, if_pos hyes, ← hq], by rw [insK_len]; omega, hc3, ⟨hRo3, fun y hy => by rcases insK_mem.1 hy with h9 | h9; rw [h9]; exact hdi.mono hB3; exact (hmq.2 y h9).mono hB3⟩, Frag.le_trans hB2 hB3⟩, rfl, rfl, rfl, rfl⟩ (by omega) (Sc 7 rfl (Sc 8 rfl (Sc 0 rfl (Sc 1 rfl (Sc 2 rfl (Sc 5 rfl (Sc 6 rfl (Sc 11 rfl (Sub.nil _)))))))))
 ·
  have hge := h7
  obtain rfl : i = ds.length := by omega
  rw [List.take_length] at hq
  refine Cx.exit <| Xx.te <| Xx.te <| Xx.bh <| ?_
  refine Xx.tn (k3 _ _ _ _ ?_)
  refine Cx.seq (fun K19 k19 => ?_)
  refine Cx.region <| Lx.y (mv rfl) rfl <| Lx.y (asg rfl) rfl <| Lx.nil <| ?_
  refine Xx.tn (k19 _ _ _ _ ?_)
  refine Cx.ret ?_
  refine Xx.dropB b3 ?_
  exact Xx.rB1 rfl rfl ⟨Ao, co, by rw [hq], by rw [← hq]; exact hmq⟩ hB2 rfl
end RwQ
end Go.Proofs.YtdidpocakipinaaGreatDoor
namespace Go.SL
open Go.RowKit
open Go.Sort Go.Proofs
abbrev strs (zs : List (List UInt8)) : List Value := zs.map encStr
abbrev sortS (zs : List (List UInt8)) : List (List UInt8) := zs.mergeSort fun x y => decide (x ≤ y)
theorem Ct.of_sortS {P : Program} {f : FuncId} (he : ∀ args w, (callFunc f args).run P w = .ok (.enter f args) w)
    (h1 : ∀ (blk off cap : Nat) (zs : List (List UInt8)) (w : World), Holds encStr w blk off zs.toArray → blk < w.heap.size → zs.length < 4611686018427387904 →
      Calls P f #[.slice (some ⟨blk, off, none⟩) zs.length cap] w fun e w' => e = .returned (.tuple #[]) ∧ ∃ n os, w' = grow (putRow encStr (Sort.ahead w n) blk off (sortS zs).toArray) os)
    (h0 : ∀ (p : Option Addr) (cap : Nat) (w : World), Calls P f #[.slice p 0 cap] w fun e w' => e = .returned (.tuple #[]) ∧ w' = w)
    (zs : List (List UInt8)) (A : Option Addr) (c : Nat) (et : TypeId) (B : Frag) (hz : zs.length < 4611686018427387904) :
    Ct P f [.slice A zs.length c] B (sbuf et 1 A zs.length c (strs zs)) (fun v B' H' => B' = B ∧ v = .tuple #[] ∧ H' = sbuf et 1 A zs.length c (strs (sortS zs))) :=
  ⟨he, fun N0 w R s => by
    have hln : (sortS zs).length = zs.length := List.length_mergeSort _
    rcases s.cases_sbuf with ⟨e1, e2, e3, e4, s'⟩ | ⟨b, sp, e1, e2, e3, e4, s'⟩
    · have e5 : zs = [] := by simpa using e4
      subst e5 e1 e3
      refine (h0 none 0 w).mono ?_
      rintro x w' ⟨rfl, rfl⟩
      refine ⟨_, B, _, rfl, ⟨rfl, rfl, rfl⟩, Frag.le_refl _, Below.refl _ _, ?_⟩
      have : sortS [] = [] := by simp [sortS]
      rw [this]; exact s
    · subst e1
      have hb := s'.blk.1
      have hlt : b < w.heap.size := (Array.getElem?_eq_some_iff.1 hb).1
      have hH : Holds encStr w b 0 zs.toArray := holds_of_block hb (by simp [strs])
      refine (h1 b 0 c zs w hH hlt hz).mono ?_
      rintro x w' ⟨rfl, n, os, rfl⟩
      have hg := grownBy_sorted (w := w) (g := b) (n := n) (os := os) (sortS zs).toArray
      have hp := heap_sorted (n := n) (os := os) (sortS zs).toArray hb
      have s2 := s'.putG hp (fun k hk hne => hg.block k hk (fun e => hne (Option.some.inj e))) hg.size
      have hcells : putCells encStr 0 (sortS zs).toArray (strs zs ++ sp).toArray = (strs (sortS zs) ++ sp).toArray := by
        have t1 := take_putCells (strs zs ++ sp).toArray (sortS zs) (by simp [strs, hln])
        apply Array.toList_inj.1
        apply List.ext_getElem?
        intro j
        by_cases hj : j < (sortS zs).length
        · rw [← List.getElem?_take_of_lt hj, t1, List.getElem?_append_left (by simpa [strs] using hj)]
        · rw [List.getElem?_append_right (by simp [strs]; omega)]
          simp only [Array.getElem?_toList, putCells, Array.getElem?_mapIdx, List.getElem?_toArray]
          rw [List.getElem?_append_right (by simp [strs]; omega)]
          simp only [strs, List.length_map, hln]
          have : ¬ (0 ≤ j ∧ j < 0 + (sortS zs).toArray.size) := by simp; omega
          cases sp[j - zs.length]? <;> simp [this]
          intro h; omega
      rw [hcells] at s2
      refine ⟨_, B, _, rfl, ⟨rfl, rfl, rfl⟩, Frag.le_refl _, ⟨hg.os, hg.tape, hg.output, hg.size, fun k hk => hg.block k (by have := s'.blk.2.2; have := s.sz; omega) (fun e => ?_)⟩, St.of_sbuf (by simp [strs, hln]) e3 (by simpa [strs, hln] using e4) s2⟩
      have h9 := s'.blk.2.2
      have := Option.some.inj e
      omega⟩
section
variable {κ : Type} [DecidableEq κ] [MKey κ] {e : Env} {ds : List Deferred} {ρ : Sl} {B : Frag} {H R R2 : HP} {t kt et ty : TypeId} {x : Operand} {b i c : Nat} {α : Type} {kv : α → κ × Value} {Z dz : List (α × Nat)}
theorem nxRF (hB : B b = some (gObj (Z.map (gz kv)) c)) (hs : GStp (Z.map (gz kv)) c) (hv : GVisF Z dz) (hx : ev ρ x = some (.pointer (some ⟨i, 0, none⟩))) [h1 : PickB H i (gitObj b c (dz.map (gz kv))) R] :
    Ox e ds (.next x false) ty ρ B H (fun v B' H' => ∃ o dz', v = .tuple (gnx (o.map (gz kv))) ∧ GAfterF Z dz dz' o ∧ B' = B ∧ H' = blk i (gitObj b c (dz'.map (gz kv))) * R) := by
  have h := nxR (e := e) (ds := ds) (B := B) (ty := ty) hB hs (hv.vis (kv := kv)) hx (H := H) (R := R)
  refine ⟨h.1, fun a w dst pos after guard K Q f b s k => h.2 a w dst pos after guard K Q f b s fun v B' H' w' ⟨o, done', e1, e2, e3, e4⟩ hB hb hs => k v B' H' w' ?_ hB hb hs⟩
  cases o with
  | none =>
    obtain ⟨rfl, hall⟩ := e2
    refine ⟨none, dz, e1, ⟨rfl, fun z hz => ?_⟩, e3, e4⟩
    have := hall (gz kv z) (List.mem_map.2 ⟨z, hz, rfl⟩)
    rw [gz_stamps] at this
    exact this
  | some t =>
    obtain ⟨rfl, ht, hn⟩ := e2
    obtain ⟨z, hz, rfl⟩ := List.mem_map.1 ht
    rw [gz_stamps] at hn
    exact ⟨some z, dz ++ [z], e1, ⟨rfl, hz, hn⟩, e3, by rw [e4, List.map_append]; rfl⟩
theorem entRF {P : Program} {N0 : Nat} {z : α × Nat} (hB : B b = some (gObj (Z.map (gz kv)) c)) (hs : GStp (Z.map (gz kv)) c) (hz : z ∈ Z) (hx : ev ρ x = some (.pointer (some ⟨i, 0, none⟩))) [h1 : PickB H i (gitObj b c ((dz ++ [z]).map (gz kv))) R] :
    Yx P (.entry x) ty ρ (St N0 B H) (.tuple #[MKey.enc (kv z.1).1, (kv z.1).2]) := .of (fun _ h => by cases h) fun f w _ _ _ _ he s => by
  have s1 : St N0 B (blk i (gitObj b c ((dz ++ [z]).map (gz kv))) * R) w := h1.eq ▸ s
  have hi := s1.blk.1
  have hb := s1.ro _ _ hB
  have hbk : (((dz ++ [z]).map (gz kv)).map fun t => t.2.2).toArray.back? = some z.2 := by
    rw [gz_stamps]; simp
  have hf : ((Z.map (gz kv)).map ge).toArray.find? (fun e => e.born == z.2) = some (ge (gz kv z)) := by
    have := find_born (ge (gz kv z)) ((Z.map (gz kv)).map ge) (by
      rw [List.map_map]
      exact hs.1) (List.mem_map.2 ⟨_, List.mem_map.2 ⟨z, hz, rfl⟩, rfl⟩)
    rw [List.find?_toArray]
    exact this
  have hr : (Instr.entry (.pointer (some ⟨i, 0, none⟩))).run P w = .ok (.tuple #[MKey.enc (kv z.1).1, (kv z.1).2]) w := by
    simp only [Instr.entry, getObj, Sem.run_bind, Sem.run, hi, hb, Result.andThen, hbk, bne_self_eq_false, Bool.false_eq_true, if_false, hf]
    rfl
  simp [execOp, he _ _ hx, hr, Result.andThen]
end
end Go.SL
namespace Go.Proofs.YtdidpocakipinaaGreatDoor
open Go.SL Go.RowKit
set_option maxRecDepth 100000
open Ke1 Ke3 Ke4 Ke5 Ke6 Ke7 Ke8 Ke9 KeA KeB KeC KeD KeE KeF KeG KeI RgA RgB BtB BtC BtD BtE BtG BtX BtH BtI BtF BtJ BtK BtL BtM BtN BtO BtR BtY BtZ DrA DrB DrC DrD DrE DrF RwA RwB BtQ BtS RwC RwD RwE RwF RwG RwH RwI RwK RwO RwP RwQ
namespace RwR
theorem sz9 : (Tryz.prog.info? 9).map (·.size) = some 1 := by kernel_rfl
theorem sz23 : (Tryz.prog.info? 23).map (·.size) = some 1 := by kernel_rfl
theorem ti9 : TI Tryz.prog 9 [str []] 1 16 := TI.of (by kernel_rfl) rfl rfl
def kstr (s : List UInt8) : List Value := [str s]
theorem map_Z {B : Frag} {mb : Nat} {fs : List Ix} (h : ∃ (M : List (Ge (List UInt8))) (c : Nat), GStp M c ∧ gkvs M = fs.map ikv ∧ B mb = some (gObj M c)) : ∃ (Z : List (Ix × Nat)) (c : Nat), GStp (Z.map (gz ikv)) c ∧ Z.map (·.1) = fs ∧ B mb = some (gObj (Z.map (gz ikv)) c) := by
  obtain ⟨M, c, h1, h2, h3⟩ := h
  obtain ⟨Z, rfl, hZ⟩ := gzip_of h2
  exact ⟨Z, c, h1, hZ, h3⟩
set_option maxHeartbeats 2000000 in
theorem Keys_it (fs : List Ix) (mb b1 : Nat) (B : Frag) (hm : ∃ (Z : List (Ix × Nat)) (c : Nat), GStp (Z.map (gz ikv)) c ∧ Z.map (·.1) = fs ∧ B mb = some (gObj (Z.map (gz ikv)) c)) : ItA Tryz.prog 73 [.pointer (some ⟨b1, 0, none⟩)] kstr (fun xs : List (List UInt8) => xs.length ≤ fs.length) (fun xs : List (List UInt8) => xs.Perm (fs.map (·.f))) B (row b1 85 [.map (some mb)]) := by
 obtain ⟨Z, c, hs, hZ, hBx⟩ := hm
 refine ⟨Go.SL.enters_of Tryz.func73 rfl (by kernel_rfl), fun lp J Jx hy B1 H1 hB1 hJ0 => ?_⟩
 have hBx1 := hB1 _ _ hBx
 refine Ct.of_bodyM Tryz.func73 rfl (nt := 14) rfl (by kernel_rfl) rfl ?_
 intro N0 w0 R
 simp only [star_assoc]
 refine Cx.seq (fun K1 k1 => ?_)
 refine Cx.region <| Lx.y (ld U85 rfl rfl rfl) rfl <| ?_
 refine Lx.o (rgR (κ := List UInt8) hBx1 U85 rfl) rfl (fun v B' H' hΦ hB => ?_)
 obtain ⟨it, rfl, hBB, rfl⟩ := hΦ
 have hBB2 := hBB.symm
 subst hBB2
 clear hB
 refine Lx.nil ?_
 refine Xx.tn (k1 _ _ _ _ ?_)
 refine Cx.block ?_
 refine Cx.loopK (Sc 0 rfl (Sc 1 rfl (Sc 4 rfl (Sc 5 rfl (Sub.nil _))))) (fun m ρ' B' H' => ∃ (dz : List (Ix × Nat)) (B2 : Frag) (H2 : HP), (GVisF Z dz ∧ J (dz.map (·.1.f)) B2 H2 ∧ B1.le B2) ∧ m = Z.length - dz.length ∧ ρ' = [] ∧ B2 = B' ∧ blk it (gitObj mb c (dz.map (gz ikv))) * (row b1 85 [.map (some mb)] * (H2 * R)) = H') ⟨[], _, _, ⟨GVisF.nil Z, hJ0, Frag.le_refl _⟩, rfl, rfl, rfl, by ac_rfl⟩ (Sc 0 rfl (Sc 1 rfl (Sc 4 rfl (Sc 5 rfl (Sub.nil _))))) ?_
 rintro m ρ' B' H' ⟨dz, B2, H2, ⟨hv, hJ, hB2⟩, rfl, rfl, rfl, rfl⟩
 have hBx2 := hB2 _ _ hBx1
 refine Cx.seq (fun K2 k2 => ?_)
 refine Cx.region ?_
 refine Lx.o (nxRF hBx2 hs hv rfl) rfl (fun v B' H' hΦ hB => ?_)
 obtain ⟨o, dz2, rfl, ha, hBB, rfl⟩ := hΦ
 have hBB2 := hBB.symm
 subst hBB2
 clear hB
 refine Lx.y (ext rfl (gnx0 _)) rfl <| Lx.nil <| ?_
 refine Xx.tn (k2 _ _ _ _ ?_)
 refine Cx.seq (fun K3 k3 => ?_)
 refine Cx.condB rfl (fun h4 => ?_) (fun h4 => ?_)
 ·
  obtain ⟨z, rfl⟩ : ∃ z, o = some z := by
   cases o with
   | none => exact absurd h4 (by simp)
   | some z => exact ⟨z, rfl⟩
  obtain ⟨rfl, hzZ, hzn⟩ := ha
  have hv2 := hv.step hzZ hzn
  have hvl := hv2.len
  rw [List.length_append, List.length_singleton] at hvl
  have hZl : Z.length = fs.length := by rw [← hZ, List.length_map]
  refine Cx.skip ?_
  refine Xx.tn (k3 _ _ _ _ ?_)
  refine Cx.block ?_
  refine Cx.seq (fun K5 k5 => ?_)
  refine Cx.region <| Lx.y (entRF hBx2 hs hzZ rfl) rfl <| Lx.y (ext rfl rfl) rfl <| Lx.y (asg rfl) rfl <| Lx.nil <| ?_
  refine Xx.tn (k5 _ _ _ _ ?_)
  refine Cx.seq (fun K6 k6 => ?_)
  refine Cx.region <| Lx.y (mv rfl) rfl <| Lx.y (mv rfl) rfl <| ?_
  refine Lx.yield rfl rfl (hy (dz.map (·.1.f)) z.1.f B2 H2 (by show (dz.map (·.1.f) ++ [z.1.f]).length ≤ fs.length; rw [List.length_append, List.length_map, List.length_singleton]; omega) (Frag.le_trans hB1 hB2) hJ) (show _ = H2 * (blk it (gitObj mb c ((dz ++ [z]).map (gz ikv))) * (row b1 85 [.map (some mb)] * R)) by ac_rfl) rfl ?_
  rintro t B7 H7 hΦ hB7
  refine Lx.y (not' rfl) rfl <| Lx.nil <| ?_
  refine Xx.tn (k6 _ _ _ _ ?_)
  refine Cx.condB rfl (fun h7 => ?_) (fun h7 => ?_)
  ·
   obtain ⟨_, hΦ⟩ : t = false ∧ Jx (dz.map (·.1.f) ++ [z.1.f]) B7 H7 := by simpa [show t = false by simpa using h7] using hΦ
   refine Cx.ret ?_
   refine Xx.br ?_
   refine Xx.tr ?_
   refine Xx.br ?_
   refine Xx.dropB it ?_
   exact Xx.rM (Ds := []) (fun a w f _ => results_none rfl _ _ _) ⟨H7, rfl, .inr ⟨_, hΦ⟩⟩ (Frag.le_trans hB2 hB7) (by rw [marks_nil, one_star]; ac_rfl)
  ·
   obtain ⟨_, hΦ⟩ : t = true ∧ J (dz.map (·.1.f) ++ [z.1.f]) B7 H7 := by simpa [show t = true by simpa using h7] using hΦ
   refine Cx.skip <| Xx.bn <| ?_
   exact Xx.againK ⟨dz ++ [z], _, _, ⟨hv2, by rw [List.map_append]; exact hΦ, Frag.le_trans hB2 hB7⟩, rfl, rfl, rfl, (by ac_rfl)⟩ (by rw [List.length_append, List.length_singleton]; omega) (Sc 0 rfl (Sc 1 rfl (Sc 4 rfl (Sc 5 rfl (Sub.nil _)))))
 ·
  obtain rfl : o = none := by
   cases o with
   | none => rfl
   | some z => exact absurd h4 (by simp)
  obtain ⟨rfl, hall⟩ := ha
  have hp := hv.all hs hall
  rw [hZ] at hp
  refine Cx.exit <| Xx.te <| Xx.te <| Xx.bh <| ?_
  refine Xx.dropB it ?_
  exact Xx.eM [] rfl (fun a w f _ => results_none rfl _ _ _) ⟨H2, rfl, .inl ⟨_, by have := hp.map (·.f); rw [List.map_map] at this; exact this, hJ⟩⟩ hB2 (by rw [marks_nil, one_star]; ac_rfl)
set_option maxHeartbeats 1000000 in
theorem Keys_ct (mb : Nat) (B : Frag) : Ct Tryz.prog 47 [.map (some mb)] B 1 (fun v B' H' => B' = B ∧ ∃ b1, v = .func (.func 73) #[] #[.pointer (some ⟨b1, 0, none⟩)] ∧ H' = row b1 85 [.map (some mb)]) := by
 refine Ct.of_body Tryz.func47 rfl (nt := 4) rfl (by kernel_rfl) rfl ?_
 intro N0 w0 R
 rw [one_star]
 refine Cx.seq (fun K1 k1 => ?_)
 refine Cx.region ?_
 refine Lx.new (boxO rfl rfl) rfl (fun b1 => ?_)
 refine Lx.y (asg rfl) rfl <| Lx.nil <| ?_
 refine Xx.tn (k1 _ _ _ _ ?_)
 refine Cx.seq (fun K2 k2 => ?_)
 refine Cx.region <| Lx.y (mkf rfl rfl) rfl <| Lx.y (asg rfl) rfl <| Lx.nil <| ?_
 refine Xx.tn (k2 _ _ _ _ ?_)
 refine Cx.ret ?_
 exact Xx.ret1 rfl rfl ⟨rfl, b1, rfl, rfl⟩ (Frag.le_refl _) rfl
set_option maxHeartbeats 2000000 in
theorem AppSeq_ct (fs : List Ix) (mb b1 : Nat) (B : Frag) (hm : ∃ (Z : List (Ix × Nat)) (c : Nat), GStp (Z.map (gz ikv)) c ∧ Z.map (·.1) = fs ∧ B mb = some (gObj (Z.map (gz ikv)) c)) (hn : fs.length ≤ 1000000) : Ct Tryz.prog 90 [.slice none 0 0, .func (.func 73) #[] #[.pointer (some ⟨b1, 0, none⟩)]] B (row b1 85 [.map (some mb)]) (fun v B' H' => B' = B ∧ ∃ xs A c, v = .slice A xs.length c ∧ xs.Perm (fs.map (·.f)) ∧ H' = (row b1 85 [.map (some mb)]) * sbuf 9 1 A xs.length c (strs xs)) := by
 refine Ct.of_bodyM Tryz.func90 rfl (nt := 13) rfl (by kernel_rfl) rfl ?_
 intro N0 w0 R
 refine Cx.seq (fun K1 k1 => ?_)
 refine Cx.region ?_
 refine Lx.new (boxO rfl rfl) rfl (fun b2 => ?_)
 refine Lx.y (asg rfl) rfl <| Lx.nil <| ?_
 refine Xx.tn (k1 _ _ _ _ ?_)
 refine Cx.seq (fun K2 k2 => ?_)
 refine Cx.seq (fun K3 k3 => ?_)
 refine Cx.region <| Lx.y (mv rfl) rfl <| Lx.nil <| ?_
 refine Xx.tn (k3 _ _ _ _ ?_)
 refine Cx.block ?_
 refine Cx.rangeA (σ := _) (Sc 2 rfl (Sub.nil _)) rfl rfl (Keys_it fs mb b1 B hm) (show _ = (row b1 85 [.map (some mb)]) * ((row b2 23 [.slice none 0 0] * sbuf 9 1 none 0 0 (strs [])) * R) by rw [show strs [] = [] from rfl, sbuf_nil, star_one]; ac_rfl) rfl (fun _ => rfl) (fun pre B' H' => B' = B ∧ ∃ A c, H' = row b2 23 [.slice A pre.length c] * sbuf 9 1 A pre.length c (strs pre)) (fun _ _ _ _ => False) (fun pre x B1 ρ' B' H' => ρ' = [(5, str x)] ∧ pre.length + 1 ≤ fs.length ∧ B' = B1 ∧ B1 = B ∧ ∃ A c, H' = row b2 23 [.slice A pre.length c] * sbuf 9 1 A pre.length c (strs pre)) (⟨rfl, none, 0, rfl⟩) ?_ ?_ ?_ ?_
 ·rintro lz Nz wz pre x B1 H1 F K hxs hB1 hJ hK
  rw [List.length_append, List.length_singleton] at hxs
  obtain ⟨hJB, hJ⟩ := hJ
  subst hJB
  refine Cx.region <| Lx.y (asg rfl) rfl <| Lx.nil <| ?_
  refine Xx.tn ?_
  exact Xx.sub (hK _ _ _ ⟨rfl, hxs, rfl, rfl, hJ⟩ (Frag.le_refl _)) (Sc 5 rfl (Sc 2 rfl (Sub.nil _)))
 ·rintro lz Nz wz pre x B1 F ρ' B' H' hxs hB1 hBx hAS
  obtain ⟨rfl, hpl, hBB, hB5, A, c, rfl⟩ := hAS
  subst hBB
  subst hB5
  simp only [star_assoc]
  refine Cx.block <| Cx.region <| Lx.y (ld U23 rfl rfl rfl) rfl <| Lx.y (mv rfl) rfl <| ?_
  refine Lx.bsl (bsl1 U23 ti9 rfl rfl rfl (by decide)) rfl (fun bv => ?_)
  refine Lx.o (appN (A := A) (pre.length + 1) [str x] (strs (pre ++ [x])) U23 U23 ti9 rfl rfl rfl rfl rfl (by omega) (by omega) rfl (by simp [strs])) rfl (fun v B' H' hΦ hB => ?_)
  obtain ⟨A2, c2, rfl, hA2, hl2, hc2, hBB, rfl⟩ := hΦ
  subst hBB
  refine Lx.st (stO U23 sz23 rfl rfl rfl (by simp) rfl) ?_
  refine Lx.nil <| Xx.bn <| ?_
  refine Xx.dropB bv ?_
  exact Xx.rqn ⟨rfl, A2, c2, by rw [List.length_append]⟩ (Frag.le_refl _) (by ac_rfl)
 ·rintro D xs B' H' hxs hBx hJ
  obtain ⟨hJB, A, c, rfl⟩ := hJ
  subst hJB
  simp only [star_assoc]
  refine Xx.bn ?_
  refine Xx.tn (k2 _ _ _ _ ?_)
  refine Cx.seq (fun K4 k4 => ?_)
  refine Cx.region <| Lx.y (ld U23 rfl rfl rfl) rfl <| Lx.y (asg rfl) rfl <| Lx.nil <| ?_
  refine Xx.tn (k4 _ _ _ _ ?_)
  refine Cx.ret ?_
  refine Xx.dropB b2 ?_
  exact Xx.rM (Ds := [D]) (res1 rfl rfl) ⟨rfl, xs, A, c, rfl, hxs, rfl⟩ (Frag.le_refl _) (by rw [marks_cons, marks_nil, star_one]; ac_rfl)
 ·rintro D c pre B' H' hBx hJx
  exact hJx.elim
set_option maxHeartbeats 1000000 in
theorem Collect_ct (fs : List Ix) (mb b1 : Nat) (B : Frag) (hm : ∃ (Z : List (Ix × Nat)) (c : Nat), GStp (Z.map (gz ikv)) c ∧ Z.map (·.1) = fs ∧ B mb = some (gObj (Z.map (gz ikv)) c)) (hn : fs.length ≤ 1000000) : Ct Tryz.prog 71 [.func (.func 73) #[] #[.pointer (some ⟨b1, 0, none⟩)]] B (row b1 85 [.map (some mb)]) (fun v B' H' => B' = B ∧ ∃ xs A c, v = .slice A xs.length c ∧ xs.Perm (fs.map (·.f)) ∧ H' = (row b1 85 [.map (some mb)]) * sbuf 9 1 A xs.length c (strs xs)) := by
 refine Ct.of_body Tryz.func71 rfl (nt := 5) rfl (by kernel_rfl) rfl ?_
 intro N0 w0 R
 refine Cx.seq (fun K1 k1 => ?_)
 refine Cx.region <| Lx.y (asg rfl) rfl <| Lx.nil <| ?_
 refine Xx.tn (k1 _ _ _ _ ?_)
 refine Cx.seq (fun K2 k2 => ?_)
 refine Cx.region <| Lx.y (mv rfl) rfl <| ?_
 refine Lx.c rfl rfl rfl (AppSeq_ct fs mb b1 _ hm hn) (rfl) rfl ?_
 rintro v1 B1 H1 ⟨hBB, xs, A, c, rfl, hp, rfl⟩ hB1
 have hBB2 := hBB.symm
 subst hBB2
 clear hB1
 refine Lx.y (asg rfl) rfl <| Lx.nil <| ?_
 refine Xx.tn (k2 _ _ _ _ ?_)
 refine Cx.ret ?_
 exact Xx.ret1 rfl rfl ⟨rfl, xs, A, c, rfl, hp, rfl⟩ (Frag.le_refl _) rfl
end RwR
end Go.Proofs.YtdidpocakipinaaGreatDoor
namespace Go.Proofs.YtdidpocakipinaaGreatDoor
open Go.SL Go.RowKit
set_option maxRecDepth 100000
open Ke1 Ke3 Ke4 Ke5 Ke6 Ke7 Ke8 Ke9 KeA KeB KeC KeD KeE KeF KeG KeI RgA RgB BtB BtC BtD BtE BtG BtX BtH BtI BtF BtJ BtK BtL BtM BtN BtO BtR BtY BtZ DrA DrB DrC DrD DrE DrF RwA RwB BtQ BtS RwC RwD RwE RwF RwG RwH RwI RwK RwO RwP RwQ
namespace RwT
def SrtD (ms : List Dc) : Prop := ms.Pairwise (fun a b => a.n.toNat < b.n.toNat)
theorem insD_perm (d : Dc) (l : List Dc) : (insD d l).Perm (d :: l) := by
  induction l with
  | nil => exact List.Perm.refl _
  | cons x l ih =>
    unfold insD
    split
    · exact List.Perm.refl _
    · exact (ih.cons x).trans (List.Perm.swap d x l)
theorem insD_srt {d : Dc} {l : List Dc} (h : SrtD l) (hn : ∀ x ∈ l, x.n ≠ d.n) : SrtD (insD d l) := by
  induction l with
  | nil => exact List.pairwise_singleton _ _
  | cons x l ih =>
    obtain ⟨h1, h2⟩ := List.pairwise_cons.1 h
    unfold insD
    split
    · rename_i hlt
      exact List.pairwise_cons.2 ⟨fun y hy => by rcases List.mem_cons.1 hy with rfl | hy; exact hlt; exact Nat.lt_trans hlt (h1 y hy), h⟩
    · rename_i hge
      refine List.pairwise_cons.2 ⟨fun y hy => ?_, ih h2 (fun y hy => hn y (by simp [hy]))⟩
      rcases insD_mem.1 hy with rfl | hy
      · have h9 : x.n.toNat ≠ y.n.toNat := fun e => hn x (by simp) (BitVec.eq_of_toNat_eq e)
        omega
      · exact h1 y hy
theorem SrtD.drop {n : BitVec 64} {ms : List Dc} (h : SrtD ms) : SrtD (dropD n ms) := List.Pairwise.filter _ h
theorem withD_srt {d : Dc} {ms : List Dc} (h : SrtD ms) : SrtD (withD d ms) := insD_srt h.drop (fun x hx => (dropD_mem.1 hx).2)
theorem SrtD.nd {ms : List Dc} (h : SrtD ms) : (ms.map (·.n)).Nodup := List.pairwise_map.2 (h.imp fun hab e => by rw [e] at hab; exact Nat.lt_irrefl _ hab)
theorem keys_ext {a b : List (List UInt8)} (p1 : a.Pairwise (fun x y => bless x y = true)) (p2 : b.Pairwise (fun x y => bless x y = true)) (h : ∀ k, k ∈ a ↔ k ∈ b) : a = b := by
  have nd : ∀ {l : List (List UInt8)}, l.Pairwise (fun x y => bless x y = true) → l.Nodup := fun h => h.imp fun hab e => by rw [e, bless_irrefl] at hab; cases hab
  have hp := (List.perm_ext_iff_of_nodup (nd p1) (nd p2)).2 h
  refine List.Perm.eq_of_pairwise ?_ p1 p2 hp
  intro x y _ _ h1 h2
  rw [bless_asymm h1] at h2; cases h2
theorem num_lt {a b : BitVec 64} (h : a.toNat < b.toNat) : bless (numL a) (numL b) = true := by
  have h9 := tri_lt (num_tri a b)
  rw [cmpN_lt h] at h9
  rw [h9]; rfl
def SameD (ts ms : List Dc) : Prop := (ts.map Dc.abs).Perm (ms.map Dc.abs)
theorem SameD.mem {ts ms : List Dc} (h : SameD ts ms) {x : Dc} (hx : x ∈ ts) : ∃ m ∈ ms, Dc.abs m = Dc.abs x := List.mem_map.1 (h.mem_iff.1 (List.mem_map.2 ⟨x, hx, rfl⟩))
theorem SameD.symm {ts ms : List Dc} (h : SameD ts ms) : SameD ms ts := List.Perm.symm h
theorem SameD.len {ts ms : List Dc} (h : SameD ts ms) : ts.length = ms.length := by have := List.Perm.length_eq h; simpa using this
theorem SameD.drop {ts ms : List Dc} (h : SameD ts ms) (n : BitVec 64) : SameD (dropD n ts) (dropD n ms) := by
  unfold SameD
  rw [abs_drop, abs_drop]
  exact List.Perm.filter _ h
theorem SameD.has {ts ms : List Dc} (h : SameD ts ms) (n : BitVec 64) : (∃ d ∈ ts, d.n = n) ↔ ∃ d ∈ ms, d.n = n := by
  constructor
  · rintro ⟨d, hd, e⟩
    obtain ⟨m, hm, ha⟩ := h.mem hd
    exact ⟨m, hm, (congrArg (fun t => t.1) ha).trans e⟩
  · rintro ⟨d, hd, e⟩
    obtain ⟨m, hm, ha⟩ := h.symm.mem hd
    exact ⟨m, hm, (congrArg (fun t => t.1) ha).trans e⟩
theorem SameD.put {ts ms ts' : List Dc} {d : Dc} (h : SameD ts ms) (e : ts'.map Dc.abs = (dropD d.n ts).map Dc.abs ++ [Dc.abs d]) : SameD ts' (withD d ms) := by
  unfold SameD withD
  rw [e]
  refine List.Perm.trans ?_ ((insD_perm d _).map Dc.abs).symm
  rw [List.map_cons]
  exact (List.perm_append_comm (l₁ := (dropD d.n ts).map Dc.abs) (l₂ := [Dc.abs d])).trans ((h.drop d.n).cons _)
theorem n_inj {ms : List Dc} (h : (ms.map (·.n)).Nodup) {a b : Dc} (ha : a ∈ ms) (hb : b ∈ ms) (e : a.n = b.n) : a = b := map_inj (·.n) h ha hb e
theorem pick_abs {ms : List Dc} (hn : (ms.map (·.n)).Nodup) : ∀ {l1 l2 : List Dc}, l1.map (·.n) = l2.map (·.n) → (∀ x ∈ l1, ∃ m ∈ ms, Dc.abs m = Dc.abs x) → (∀ x ∈ l2, x ∈ ms) → l1.map Dc.abs = l2.map Dc.abs := by
  intro l1
  induction l1 with
  | nil => intro l2 h _ _; cases l2 with
    | nil => rfl
    | cons y l2 => cases h
  | cons x l1 ih => intro l2 h h1 h2; cases l2 with
    | nil => cases h
    | cons y l2 =>
      rw [List.map_cons, List.map_cons] at h
      injection h with e1 e2
      obtain ⟨m, hm, ha⟩ := h1 x (by simp)
      have h9 : m = y := n_inj hn hm (h2 y (by simp)) ((congrArg (fun t => t.1) ha).trans e1)
      rw [List.map_cons, List.map_cons, ih e2 (fun z hz => h1 z (by simp [hz])) (fun z hz => h2 z (by simp [hz])), ← ha, h9]
theorem nums_n : ∀ {a b : List Dc}, a.map (fun d => numL d.n) = b.map (fun d => numL d.n) → a.map (·.n) = b.map (·.n) := by
  intro a
  induction a with
  | nil => intro b h; cases b with
    | nil => rfl
    | cons y b => cases h
  | cons x a ih => intro b h; cases b with
    | nil => cases h
    | cons y b =>
      rw [List.map_cons, List.map_cons] at h
      injection h with h1 h2
      rw [List.map_cons, List.map_cons, numC_inj h1, ih h2]
theorem ord_keys {l : List (List UInt8 × List UInt8)} (h : Ord l) : (l.map (·.1)).Pairwise (fun x y => bless x y = true) := List.pairwise_map.2 h
theorem all_same {ts ms : List Dc} {T : Tb} {d : Nat} {c : C} (hS : SameD T.ds ms) (hs : SrtD ms) (h : TK d c (fun k => ∃ x ∈ T.ds, k = numL x.n)) (hts : ∀ x ∈ ts, x ∈ T.ds) (hk : ts.map (fun d => numL d.n) = (inS [] [] (io (d + 1) c)).map (·.1)) : ts.map Dc.abs = ms.map Dc.abs := by
  rw [inS_whole] at hk
  have he : (io (d + 1) c).map (·.1) = ms.map (fun d => numL d.n) := by
    refine keys_ext (ord_keys h.1.2.2.1) (List.pairwise_map.2 (List.Pairwise.imp (fun hab => num_lt hab) hs)) fun k => ?_
    rw [h.2.2 k]
    constructor
    · rintro ⟨x, hx, rfl⟩
      obtain ⟨m, hm, ha⟩ := hS.mem hx
      have e9 : m.n = x.n := congrArg (fun t => t.1) ha
      exact List.mem_map.2 ⟨m, hm, by rw [e9]⟩
    · intro hm8
      obtain ⟨m, hm, rfl⟩ := List.mem_map.1 hm8
      obtain ⟨x, hx, ha⟩ := hS.symm.mem hm
      have e9 : x.n = m.n := congrArg (fun t => t.1) ha
      exact ⟨x, hx, by rw [e9]⟩
  exact pick_abs hs.nd (nums_n (hk.trans he)) (fun x hx => hS.mem (hts x hx)) (fun x hx => hx)
theorem keyD_abs {f : List UInt8} {a b : Dc} (h : Dc.abs a = Dc.abs b) : keyD f a = keyD f b := congrArg (fun p : BitVec 64 × BitVec 64 × V => keyF 3 (getV p.2.2 f) ++ numL p.1) h
theorem insK_srt {f : List UInt8} {d : Dc} : ∀ {q : List Dc}, (q.map (keyD f)).Pairwise (fun x y => bless x y = true) → (∀ x ∈ q, keyD f x ≠ keyD f d) → ((insK f d q).map (keyD f)).Pairwise (fun x y => bless x y = true) := by
  intro q
  induction q with
  | nil => intro _ _; exact List.pairwise_singleton _ _
  | cons x q ih =>
    intro h hn
    obtain ⟨h1, h2⟩ := List.pairwise_cons.1 h
    unfold insK
    split
    · rename_i hlt
      refine List.pairwise_cons.2 ⟨fun k hk => ?_, ih h2 (fun y hy => hn y (by simp [hy]))⟩
      obtain ⟨y, hy, rfl⟩ := List.mem_map.1 hk
      rcases insK_mem.1 hy with rfl | hy
      · exact hlt
      · exact h1 _ (List.mem_map.2 ⟨y, hy, rfl⟩)
    · rename_i hge
      have hb : bless (keyD f d) (keyD f x) = true := by
        cases hc : bless (keyD f d) (keyD f x) with
        | true => rfl
        | false => exact absurd (bless_total (by simpa using hge) hc) (hn x (by simp))
      refine List.pairwise_cons.2 ⟨fun k hk => ?_, h⟩
      rcases List.mem_cons.1 hk with rfl | hk
      · exact hb
      · exact bless_trans hb (h1 k hk)
theorem sortK_mem {f lo hi : List UInt8} {ms : List Dc} : ∀ {i : Nat}, i ≤ ms.length → ∀ x, x ∈ sortK f lo hi (ms.take i) ↔ x ∈ ms.take i ∧ BtS.hasB lo hi (keyD f x) = true := by
  intro i
  induction i with
  | zero => intro _ x; rw [List.take_zero]; simp [sortK]
  | succ i ih =>
    intro hi9 x
    have hlt : i < ms.length := by omega
    rw [List.take_succ_eq_append_getElem hlt, sortK_snoc]
    split
    · rename_i hy
      rw [insK_mem, ih (by omega), List.mem_append, List.mem_singleton]
      constructor
      · rintro (rfl | ⟨h1, h2⟩)
        · exact ⟨.inr rfl, hy⟩
        · exact ⟨.inl h1, h2⟩
      · rintro ⟨h1 | rfl, h2⟩
        · exact .inr ⟨h1, h2⟩
        · exact .inl rfl
    · rename_i hy
      rw [ih (by omega), List.mem_append, List.mem_singleton]
      constructor
      · rintro ⟨h1, h2⟩
        exact ⟨.inl h1, h2⟩
      · rintro ⟨h1 | rfl, h2⟩
        · exact ⟨h1, h2⟩
        · exact absurd h2 hy
theorem take_ne {ms : List Dc} (h : SrtD ms) {i : Nat} (hi : i < ms.length) {x : Dc} (hx : x ∈ ms.take i) : x.n ≠ ms[i].n := by
  obtain ⟨j, hj, rfl⟩ := List.getElem_of_mem hx
  rw [List.length_take] at hj
  rw [List.getElem_take]
  have h9 := (List.pairwise_iff_getElem.1 h) j i (by omega) hi (by omega)
  intro e
  rw [e] at h9
  exact Nat.lt_irrefl _ h9
theorem sortK_srt {f lo hi : List UInt8} {ms : List Dc} (h : SrtD ms) : ∀ {i : Nat}, i ≤ ms.length → ((sortK f lo hi (ms.take i)).map (keyD f)).Pairwise (fun x y => bless x y = true) := by
  intro i
  induction i with
  | zero => intro _; rw [List.take_zero]; exact List.Pairwise.nil
  | succ i ih =>
    intro hi9
    have hlt : i < ms.length := by omega
    rw [List.take_succ_eq_append_getElem hlt, sortK_snoc]
    split
    · exact insK_srt (ih (by omega)) fun x hx e => take_ne h hlt ((sortK_mem (by omega) x).1 hx).1 (keyD_n e)
    · exact ih (by omega)
theorem range_same {ts ms : List Dc} {T : Tb} {f lo hi : List UInt8} {d : Nat} {c : C} (hS : SameD T.ds ms) (hs : SrtD ms) (h : TK d c (fun k => ∃ x ∈ T.ds, k = keyD f x)) (hts : ∀ x ∈ ts, x ∈ T.ds) (hk : ts.map (keyD f) = (inS lo hi (io (d + 1) c)).map (·.1)) : ts.map Dc.abs = (sortK f lo hi ms).map Dc.abs := by
  have hm : ∀ x, x ∈ sortK f lo hi ms ↔ x ∈ ms ∧ BtS.hasB lo hi (keyD f x) = true := fun x => by
    have h9 := sortK_mem (f := f) (lo := lo) (hi := hi) (ms := ms) (Nat.le_refl _) x
    rwa [List.take_length] at h9
  have hsk : ((sortK f lo hi ms).map (keyD f)).Pairwise (fun x y => bless x y = true) := by
    have h9 := sortK_srt (f := f) (lo := lo) (hi := hi) hs (Nat.le_refl _)
    rwa [List.take_length] at h9
  have he : (inS lo hi (io (d + 1) c)).map (·.1) = (sortK f lo hi ms).map (keyD f) := by
    refine keys_ext ?_ hsk fun k => ?_
    · rw [inS_keys]; exact List.Pairwise.filter _ (ord_keys h.1.2.2.1)
    · rw [inS_keys, List.mem_filter, h.2.2 k]
      constructor
      · rintro ⟨⟨x, hx, rfl⟩, hb⟩
        obtain ⟨m, hm9, ha⟩ := hS.mem hx
        exact List.mem_map.2 ⟨m, (hm m).2 ⟨hm9, by rw [keyD_abs ha]; exact hb⟩, keyD_abs ha⟩
      · intro h9
        obtain ⟨m, hm9, rfl⟩ := List.mem_map.1 h9
        obtain ⟨h1, h2⟩ := (hm m).1 hm9
        obtain ⟨x, hx, ha⟩ := hS.symm.mem h1
        exact ⟨⟨x, hx, (keyD_abs ha).symm⟩, h2⟩
  exact pick_abs hs.nd (keys_n (hk.trans he)) (fun x hx => hS.mem (hts x hx)) (fun x hx => ((hm x).1 hx).1)
end RwT
end Go.Proofs.YtdidpocakipinaaGreatDoor
namespace Go.Proofs.YtdidpocakipinaaGreatDoor
open Go.Shelf
def Shelf.lays190_ren : Go.Shelf.Ren := ⟨fun | 190 => 72 | 125 => 92 | 258 => 91 | 128 => 114 | 129 => 115 | 302 => 106 | 303 => 107 | 304 => 108 | 305 => 109 | 306 => 110 | 307 => 111 | 308 => 82 | 309 => 112 | 310 => 113 | 333 => 122 | 329 => 123 | 330 => 124 | 334 => 125 | 335 => 126 | 336 => 101 | 344 => 135 | n => n, fun | 31 => 23 | 9 => 9 | 3 => 3 | 46 => 102 | 0 => 0 | 51 => 156 | 53 => 34 | 4 => 4 | 183 => 150 | 182 => 149 | 131 => 73 | 5 => 5 | 218 => 160 | 222 => 164 | 228 => 177 | 229 => 178 | n => n, fun | n => n⟩
theorem Shelf.lays190 : Go.Proofs.Lays.n190 Tryz.prog Shelf.lays190_ren := {
  mixed := by kernel_rfl
  f125 := Tryz.func92.trans (congrArg some (by kernel_rfl))
  f128 := Tryz.func114.trans (congrArg some (by kernel_rfl))
  f129 := Tryz.func115.trans (congrArg some (by kernel_rfl))
  f190 := Tryz.func72.trans (congrArg some (by kernel_rfl))
  f258 := Tryz.func91.trans (congrArg some (by kernel_rfl))
  f302 := Tryz.func106.trans (congrArg some (by kernel_rfl))
  f303 := Tryz.func107.trans (congrArg some (by kernel_rfl))
  f304 := Tryz.func108.trans (congrArg some (by kernel_rfl))
  f305 := Tryz.func109.trans (congrArg some (by kernel_rfl))
  f306 := Tryz.func110.trans (congrArg some (by kernel_rfl))
  f307 := Tryz.func111.trans (congrArg some (by kernel_rfl))
  f308 := Tryz.func82.trans (congrArg some (by kernel_rfl))
  f309 := Tryz.func112.trans (congrArg some (by kernel_rfl))
  f310 := Tryz.func113.trans (congrArg some (by kernel_rfl))
  f329 := Tryz.func123.trans (congrArg some (by kernel_rfl))
  f330 := Tryz.func124.trans (congrArg some (by kernel_rfl))
  f333 := Tryz.func122.trans (congrArg some (by kernel_rfl))
  f334 := Tryz.func125.trans (congrArg some (by kernel_rfl))
  f335 := Tryz.func126.trans (congrArg some (by kernel_rfl))
  f336 := Tryz.func101.trans (congrArg some (by kernel_rfl))
  f344 := Tryz.func135.trans (congrArg some (by kernel_rfl))
  t0 := U0
  a0 := Tryz.isAgg0
  z0 := Tryz.sizeOf0
  v0 := Tryz.zeroValue0
  t3 := U3
  a3 := Tryz.isAgg3
  z3 := Tryz.sizeOf3
  v3 := Tryz.zeroValue3
  t4 := U4
  a4 := Tryz.isAgg4
  z4 := Tryz.sizeOf4
  v4 := Tryz.zeroValue4
  t5 := U5
  a5 := Tryz.isAgg5
  z5 := Tryz.sizeOf5
  v5 := Tryz.zeroValue5
  t9 := U9
  a9 := Tryz.isAgg9
  z9 := Tryz.sizeOf9
  v9 := Tryz.zeroValue9
  t31 := U23
  a31 := Tryz.isAgg23
  z31 := Tryz.sizeOf23
  v31 := Tryz.zeroValue23
  t46 := U102
  a46 := Tryz.isAgg102
  z46 := Tryz.sizeOf102
  v46 := Tryz.zeroValue102
  t51 := U156
  a51 := Tryz.isAgg156
  z51 := Tryz.sizeOf156
  v51 := Tryz.zeroValue156
  t53 := U34
  a53 := Tryz.isAgg34
  z53 := Tryz.sizeOf34
  v53 := Tryz.zeroValue34
  t131 := U73
  a131 := Tryz.isAgg73
  z131 := Tryz.sizeOf73
  v131 := Tryz.zeroValue73
  t182 := U149
  a182 := Tryz.isAgg149
  z182 := Tryz.sizeOf149
  v182 := Tryz.zeroValue149
  t183 := U150
  a183 := Tryz.isAgg150
  z183 := Tryz.sizeOf150
  v183 := Tryz.zeroValue150
  t218 := U160
  a218 := Tryz.isAgg160
  z218 := Tryz.sizeOf160
  v218 := Tryz.zeroValue160
  t222 := U164
  a222 := Tryz.isAgg164
  z222 := Tryz.sizeOf164
  v222 := Tryz.zeroValue164
  t228 := U177
  a228 := Tryz.isAgg177
  z228 := Tryz.sizeOf177
  v228 := Tryz.zeroValue177
  t229 := U178
  a229 := Tryz.isAgg178
  z229 := Tryz.sizeOf178
  v229 := Tryz.zeroValue178 }
open Go.Sort Go.RowKit in
theorem Shelf.slices_Sort_string (blk off cap : Nat) (ss : List (List UInt8)) (w : World) (hH : Holds encStr w blk off ss.toArray) (hblk : blk < w.heap.size) (hsz : ss.length < 4611686018427387904) :
    Calls Tryz.prog 72 #[.slice (some ⟨blk, off, none⟩) ss.length cap] w fun e w' =>
      e = .returned (.tuple #[]) ∧ ∃ n os, w' = grow (putRow encStr (Sort.ahead w n) blk off (ss.mergeSort fun x y => decide (x ≤ y)).toArray) os := Any.slices_Sort_string Shelf.lays190 blk off cap ss w hH hblk hsz
open Go.RowKit Go.Sort in
theorem Shelf.slices_Sort_string_none (p : Option Addr) (cap : Nat) (w : World) :
    Calls Tryz.prog 72 #[.slice p 0 cap] w fun e w' => e = .returned (.tuple #[]) ∧ w' = w := Any.slices_Sort_string_none Shelf.lays190 p cap w
end Go.Proofs.YtdidpocakipinaaGreatDoor
namespace Go.Proofs.YtdidpocakipinaaGreatDoor
open Go.SL Go.RowKit
set_option maxRecDepth 100000
open Ke1 Ke3 Ke4 Ke5 Ke6 Ke7 Ke8 Ke9 KeA KeB KeC KeD KeE KeF KeG KeI RgA RgB BtB BtC BtD BtE BtG BtX BtH BtI BtF BtJ BtK BtL BtM BtN BtO BtR BtY BtZ DrA DrB DrC DrD DrE DrF RwA RwB BtQ BtS RwC RwD RwE RwF RwG RwH RwI RwK RwO RwP RwQ RwR RwT
namespace RwS
theorem sz9 : (Tryz.prog.info? 9).map (·.size) = some 1 := by kernel_rfl
theorem ti9 : TI Tryz.prog 9 [str []] 1 16 := TI.of (by kernel_rfl) rfl rfl
theorem fo87_2 : FO Tryz.prog 87 2 2 1 false := FO.of U87 rfl rfl (by kernel_rfl) U85 rfl rfl
theorem Sort_ct (zs : List (List UInt8)) (A : Option Addr) (c : Nat) (et : TypeId) (B : Frag) (hz : zs.length < 4611686018427387904) :
    Ct Tryz.prog 72 [.slice A zs.length c] B (sbuf et 1 A zs.length c (strs zs)) (fun v B' H' => B' = B ∧ v = .tuple #[] ∧ H' = sbuf et 1 A zs.length c (strs (sortS zs))) :=
  Ct.of_sortS (Go.SL.enters_of Tryz.func72 rfl (by kernel_rfl)) (fun blk off cap zs w h1 h2 h3 => Shelf.slices_Sort_string blk off cap zs w h1 h2 h3) (fun p cap w => Shelf.slices_Sort_string_none p cap w) zs A c et B hz
theorem sortS_len (xs : List (List UInt8)) : (sortS xs).length = xs.length := List.length_mergeSort _
set_option maxHeartbeats 1000000 in
theorem Sorted_ct (fs : List Ix) (mb b1 : Nat) (B : Frag) (hm : ∃ (Z : List (Ix × Nat)) (c : Nat), GStp (Z.map (gz ikv)) c ∧ Z.map (·.1) = fs ∧ B mb = some (gObj (Z.map (gz ikv)) c)) (hn : fs.length ≤ 1000000) : Ct Tryz.prog 46 [.func (.func 73) #[] #[.pointer (some ⟨b1, 0, none⟩)]] B (row b1 85 [.map (some mb)]) (fun v B' H' => B' = B ∧ ∃ xs A c, v = .slice A xs.length c ∧ xs.Perm (fs.map (·.f)) ∧ H' = (row b1 85 [.map (some mb)]) * sbuf 9 1 A xs.length c (strs xs)) := by
 refine Ct.of_body Tryz.func46 rfl (nt := 9) rfl (by kernel_rfl) rfl ?_
 intro N0 w0 R
 refine Cx.seq (fun K1 k1 => ?_)
 refine Cx.region <| Lx.y (asg rfl) rfl <| Lx.nil <| ?_
 refine Xx.tn (k1 _ _ _ _ ?_)
 refine Cx.seq (fun K2 k2 => ?_)
 refine Cx.region <| Lx.y (mv rfl) rfl <| ?_
 refine Lx.c rfl rfl rfl (Collect_ct fs mb b1 _ hm hn) (rfl) rfl ?_
 rintro v1 B1 H1 ⟨hBB, xs, A, c, rfl, hp, rfl⟩ hB1
 have hxl : xs.length = fs.length := by rw [hp.length_eq, List.length_map]
 simp only [star_assoc]
 have hBB2 := hBB.symm
 subst hBB2
 clear hB1
 refine Lx.y (asg rfl) rfl <| Lx.nil <| ?_
 refine Xx.tn (k2 _ _ _ _ ?_)
 refine Cx.seq (fun K3 k3 => ?_)
 refine Cx.region <| Lx.y (mv rfl) rfl <| ?_
 refine Lx.c rfl rfl rfl (Sort_ct xs A c _ _ (by omega)) (pickS _) rfl ?_
 rintro v2 B2 H2 ⟨hBB, rfl, rfl⟩ hB2
 have hBB2 := hBB.symm
 subst hBB2
 clear hB2
 refine Lx.nil ?_
 refine Xx.tn (k3 _ _ _ _ ?_)
 refine Cx.seq (fun K4 k4 => ?_)
 refine Cx.region <| Lx.y (mv rfl) rfl <| Lx.y (asg rfl) rfl <| Lx.nil <| ?_
 refine Xx.tn (k4 _ _ _ _ ?_)
 refine Cx.ret ?_
 exact Xx.ret1 rfl rfl ⟨rfl, sortS xs, A, c, by rw [sortS_len], (List.mergeSort_perm xs _).trans hp, by rw [sortS_len]⟩ (Frag.le_refl _) (by ac_rfl)
set_option maxHeartbeats 1000000 in
theorem RIdx_ro (T : Tb) (B : Frag) (hR : RtB B T) (hn : T.xs.length ≤ 1000000) : Ct Tryz.prog 22 [.pointer (some ⟨T.b, 0, none⟩)] B 1 (fun v B' H' => B' = B ∧ ∃ xs A c, v = .slice A xs.length c ∧ xs.Perm (T.xs.map (·.f)) ∧ H' = sbuf 9 1 A xs.length c (strs xs)) := by
 obtain ⟨⟨fz, hrow⟩, _, hix, _⟩ := hR
 have hm := map_Z hix
 refine Ct.of_body Tryz.func22 rfl (nt := 11) rfl (by kernel_rfl) rfl ?_
 intro N0 w0 R
 rw [one_star]
 refine Cx.seq (fun K1 k1 => ?_)
 refine Cx.region <| Lx.y (asg rfl) rfl <| Lx.nil <| ?_
 refine Xx.tn (k1 _ _ _ _ ?_)
 refine Cx.seq (fun K2 k2 => ?_)
 refine Cx.seq (fun K3 k3 => ?_)
 refine Cx.region <| Lx.y (mv rfl) rfl <| Lx.y (Yx.ff (eqNilP U31 rfl rfl) rfl) rfl <| Lx.nil <| ?_
 refine Xx.tn (k3 _ _ _ _ ?_)
 refine Cx.condF rfl <| Cx.skip <| ?_
 refine Xx.tn (k2 _ _ _ _ ?_)
 refine Cx.seq (fun K4 k4 => ?_)
 refine Cx.region <| Lx.y (mv rfl) rfl <| Lx.y (nilc rfl) rfl <| Lx.y (fa' fo87_2 rfl) rfl <| Lx.y (ldB U85 rfl rfl hrow rfl) rfl <| ?_
 refine Lx.c rfl rfl rfl (Keys_ct T.xb _) ((one_star _).symm) rfl ?_
 rintro v1 B1 H1 ⟨hBB, b1, rfl, rfl⟩ hB1
 have hBB2 := hBB.symm
 subst hBB2
 clear hB1
 refine Lx.c rfl rfl rfl (Sorted_ct T.xs T.xb b1 _ hm hn) (rfl) rfl ?_
 rintro v2 B2 H2 ⟨hBB, xs, A, c, rfl, hp, rfl⟩ hB2
 have hBB2 := hBB.symm
 subst hBB2
 clear hB2
 simp only [star_assoc]
 refine Lx.y (asg rfl) rfl <| Lx.nil <| ?_
 refine Xx.tn (k4 _ _ _ _ ?_)
 refine Cx.ret ?_
 refine Xx.dropB b1 ?_
 exact Xx.ret1 rfl rfl ⟨rfl, xs, A, c, rfl, hp, rfl⟩ (Frag.le_refl _) (by ac_rfl)
theorem RIdx_own (T : Tb) (B : Frag) (hT : TabOk B T) (hn : T.xs.length ≤ 1000000) : Ct Tryz.prog 22 [.pointer (some ⟨T.b, 0, none⟩)] B (tab T) (fun v B' H' => B' = B ∧ ∃ xs A c, v = .slice A xs.length c ∧ xs.Perm (T.xs.map (·.f)) ∧ H' = tab T * sbuf 9 1 A xs.length c (strs xs)) := by
  have h := Ct.lend (P := Tryz.prog) (f := 22) (args := [.pointer (some ⟨T.b, 0, none⟩)]) (B := B) (p := tab T) (q := 1) (Φ := fun v H' => ∃ xs A c, v = .slice A xs.length c ∧ xs.Perm (T.xs.map (·.f)) ∧ H' = sbuf 9 1 A xs.length c (strs xs)) (Go.SL.enters_of Tryz.func22 rfl (by kernel_rfl)) (fun k hk ha => RIdx_ro T _ (tab_ro hT hk ha) hn)
  refine ctTo h (star_one _).symm ?_
  rintro v B' H' ⟨rfl, H0, ⟨xs, A, c, rfl, hp, rfl⟩, rfl⟩
  exact ⟨rfl, xs, A, c, rfl, hp, rfl⟩
end RwS
end Go.Proofs.YtdidpocakipinaaGreatDoor
namespace Go.Proofs.YtdidpocakipinaaGreatDoor
open Go.SL Go.RowKit
set_option maxRecDepth 100000
open Ke1 Ke3 Ke4 Ke5 Ke6 Ke7 Ke8 Ke9 KeA KeB KeC KeD KeE KeF KeG KeI RgA RgB BtB BtC BtD BtE BtG BtX BtH BtI BtF BtJ BtK BtL BtM BtN BtO BtR BtY BtZ DrA DrB DrC DrD DrE DrF RwA RwB BtQ BtS RwC RwD RwE RwF RwG RwH RwI RwK RwO RwP RwQ RwR RwS RwT
namespace RwU
theorem sz9 : (Tryz.prog.info? 9).map (·.size) = some 1 := by kernel_rfl
theorem sz36 : (Tryz.prog.info? 36).map (·.size) = some 8 := by kernel_rfl
theorem ti9 : TI Tryz.prog 9 [str []] 1 16 := TI.of (by kernel_rfl) rfl rfl
theorem ti36 : TI Tryz.prog 36 [.int .u64 0, .int .u64 0, .int .i64 0, .bool false, .int .i64 0, str [], .slice none 0 0, .slice none 0 0] 8 104 := TI.of (by kernel_rfl) rfl rfl
theorem fo87_0 : FO Tryz.prog 87 0 0 1 false := FO.of U87 rfl rfl (by kernel_rfl) U82 rfl rfl
theorem z_ne {Z : List (Dc × Nat)} {T : Tb} {dz : List (Dc × Nat)} {z : Dc × Nat} (hZ : Z.map (·.1) = T.ds) (hn : (T.ds.map (·.n)).Nodup) (hv : GVisF Z dz) (hz : z ∈ Z) (hzn : z.2 ∉ dz.map fun z => z.2) : ∀ y ∈ dz.map (·.1), y.n ≠ z.1.n := by
  intro y hy e
  obtain ⟨u, hu, rfl⟩ := List.mem_map.1 hy
  have h1 : (Z.map (fun u => u.1.n)).Nodup := by rw [← hZ, List.map_map] at hn; exact hn
  have h2 : u = z := map_inj (fun u : Dc × Nat => u.1.n) h1 (hv.1 u hu) hz e
  subst h2
  exact hzn (List.mem_map.2 ⟨u, hu, rfl⟩)
theorem drop_abs {ds ys : List Dc} (h : ds.map Dc.abs = ys.map Dc.abs) {n : BitVec 64} (hn : ∀ y ∈ ys, y.n ≠ n) : (dropD n ds).map Dc.abs = ys.map Dc.abs := by
  have h1 : ∀ d ∈ ds, d.n ≠ n := fun d hd e => by
    have h2 : Dc.abs d ∈ ys.map Dc.abs := by rw [← h]; exact List.mem_map.2 ⟨d, hd, rfl⟩
    obtain ⟨y, hy, ha⟩ := List.mem_map.1 h2
    exact hn y hy ((congrArg (fun t => t.1) ha).trans e)
  rw [dropD_none h1]; exact h
theorem strs_at {xs : List (List UInt8)} {j : Nat} (h : j < xs.length) : ((strs xs).drop (0 + j * 1)).take 1 = [str xs[j]] := by
  rw [Nat.zero_add, Nat.mul_one, List.drop_eq_getElem_cons (by simpa using h)]
  simp
set_option maxHeartbeats 8000000 in
theorem RClone_ct (T : Tb) (B : Frag) (hT : TabOk B T) (hM : MaxLenIn B) (hlen : T.ds.length ≤ 60) (hxl : T.xs.length ≤ 1000000) : Ct Tryz.prog 23 [.pointer (some ⟨T.b, 0, none⟩)] B (tab T) (fun r B' H' => ∃ T', r = .pointer (some ⟨T'.b, 0, none⟩) ∧ H' = tab T * tab T' ∧ TabOk B' T' ∧ SameD T'.ds T.ds ∧ (T'.xs.map (·.f)).Perm (T.xs.map (·.f))) := by
 refine Ct.of_body Tryz.func23 rfl (nt := 35) rfl (by kernel_rfl) rfl ?_
 intro N0 w0 R
 refine Cx.seq (fun K1 k1 => ?_)
 refine Cx.region <| Lx.y (asg rfl) rfl <| Lx.nil <| ?_
 refine Xx.tn (k1 _ _ _ _ ?_)
 refine Cx.seq (fun K2 k2 => ?_)
 refine Cx.seq (fun K3 k3 => ?_)
 refine Cx.region <| Lx.y (mv rfl) rfl <| Lx.y (Yx.ff (eqNilP U31 rfl rfl) rfl) rfl <| Lx.nil <| ?_
 refine Xx.tn (k3 _ _ _ _ ?_)
 refine Cx.condF rfl <| Cx.skip <| ?_
 refine Xx.tn (k2 _ _ _ _ ?_)
 refine Cx.seq (fun K4 k4 => ?_)
 refine Cx.region ?_
 refine Lx.c rfl rfl rfl (RNew_ct _) ((one_star _).symm) rfl ?_
 rintro v1 B1 H1 ⟨hBB, C0, rfl, rfl, hd0, hx0, hC0⟩ hB1
 have hBB2 := hBB.symm
 subst hBB2
 clear hB1
 refine Lx.y (asg rfl) rfl <| Lx.nil <| ?_
 refine Xx.tn (k4 _ _ _ _ ?_)
 refine Cx.seq (fun K5 k5 => ?_)
 refine Cx.seq (fun K6 k6 => ?_)
 refine Cx.region <| Lx.y (mv rfl) rfl <| ?_
 refine Lx.c rfl rfl rfl (RIdx_own T _ hT hxl) (Pick.eq) rfl ?_
 rintro v2 B2 H2 ⟨hBB, xs, A, c, rfl, hp, rfl⟩ hB2
 have hBB2 := hBB.symm
 subst hBB2
 clear hB2
 simp only [star_assoc]
 have hxn : xs.Nodup := hp.nodup_iff.2 hT.nf
 have hxl9 : xs.length ≤ 1000000 := by rw [hp.length_eq, List.length_map]; exact hxl
 refine Lx.y (lenV (ty' := 0) U23 rfl) rfl <| Lx.y (mv rfl) rfl <| Lx.nil <| ?_
 refine Xx.tn (k6 _ _ _ _ ?_)
 refine Cx.block ?_
 refine Cx.loopK (Sc 0 rfl (Sc 2 rfl (Sc 3 rfl (Sc 8 rfl (Sc 9 rfl (Sc 10 rfl (Sc 11 rfl (Sc 12 rfl (Sc 13 rfl (Sub.nil _)))))))))) (fun m ρ' B' H' => ∃ (i : Nat) (C : Tb), (i ≤ xs.length ∧ TabOk B C ∧ C.b = C0.b ∧ C.ds = [] ∧ C.xs.map (·.f) = xs.take i) ∧ m = xs.length - i ∧ ρ' = [(14, i64 i)] ∧ B = B' ∧ tab C * (tab T * (sbuf 9 1 A xs.length c (strs xs) * R)) = H') ⟨0, C0, ⟨Nat.zero_le _, hC0, rfl, hd0, by rw [hx0]; rfl⟩, rfl, rfl, rfl, by ac_rfl⟩ (Sc 14 rfl (Sc 0 rfl (Sc 2 rfl (Sc 3 rfl (Sc 8 rfl (Sc 9 rfl (Sc 10 rfl (Sc 11 rfl (Sc 12 rfl (Sc 13 rfl (Sub.nil _))))))))))) ?_
 rintro m ρ' B' H' ⟨i, C, ⟨hi, hC, hcb, hcd, hcx⟩, rfl, rfl, rfl, rfl⟩
 rw [← hcb]
 refine Cx.seq (fun K7 k7 => ?_)
 refine Cx.region <| Lx.y (lss rfl rfl) rfl <| Lx.nil <| ?_
 refine Xx.tn (k7 _ _ _ _ ?_)
 refine Cx.seq (fun K8 k8 => ?_)
 refine Cx.condD rfl (fun h9 => ?_) (fun h9 => ?_)
 ·
  have hil := h9
  have hil : i < xs.length := by omega
  refine Xx.addrT A (by omega) (fun bp hAT _ _ => ?_)
  subst hAT
  have hnew : xs[i] ∉ C.xs.map (·.f) := by
   rw [hcx]
   intro h9
   obtain ⟨j, hj, e⟩ := List.getElem_of_mem h9
   rw [List.length_take] at hj
   rw [List.getElem_take] at e
   exact (List.pairwise_iff_getElem.1 hxn) j i (by omega) hil (by omega) e
  refine Cx.skip ?_
  refine Xx.tn (k8 _ _ _ _ ?_)
  refine Cx.seq (fun K10 k10 => ?_)
  refine Cx.block ?_
  refine Cx.seq (fun K11 k11 => ?_)
  refine Cx.region <| Lx.y (ia U23 sz9 rfl rfl (Int.toNat_natCast _) (by omega) (by omega)) rfl <| Lx.y (ldC U9 rfl rfl (Cells.buf (b := bp) (m := 1) (show _ = [str xs[i]] from strs_at hil) (by rw [List.length_map]; omega))) rfl <| Lx.y (asg rfl) rfl <| Lx.nil <| ?_
  refine Xx.tn (k11 _ _ _ _ ?_)
  refine Cx.region <| Lx.y (mv rfl) rfl <| Lx.y (mv rfl) rfl <| ?_
  refine Lx.c rfl rfl rfl (RAdd_ct C xs[i] _ hC hM (by rw [hcd]; decide)) (Pick.eq) rfl ?_
  rintro r5 B5 H5 ⟨hBB, C2, rfl, rfl, hC2, hc2b, hc2d, hc2x⟩ hB5
  have hBB2 := hBB.symm
  subst hBB2
  clear hB5
  refine Lx.nil <| Xx.bn <| ?_
  refine Xx.tn (k10 _ _ _ _ ?_)
  refine Cx.region <| Lx.y (Yx.val (add rfl rfl (by first | exact wrap64 (by omega) (by omega) | rfl)) (show _ = i64 ((i + 1 : Nat) : Int) from rfl)) rfl <| Lx.y (mv rfl) rfl <| Lx.nil <| ?_
  exact Xx.againK ⟨i + 1, C2, ⟨by omega, hC2, hc2b, hc2d.trans hcd, by rw [hc2x, if_neg hnew, hcx, List.take_succ_eq_append_getElem hil]⟩, rfl, rfl, rfl, (by ac_rfl)⟩ (by omega) (Sc 14 rfl (Sc 0 rfl (Sc 2 rfl (Sc 3 rfl (Sc 8 rfl (Sc 9 rfl (Sc 10 rfl (Sc 11 rfl (Sc 12 rfl (Sc 13 rfl (Sub.nil _)))))))))))
 ·
  have hil := h9
  obtain rfl : i = xs.length := by omega
  rw [List.take_length] at hcx
  refine Cx.exit <| Xx.te <| Xx.te <| Xx.bh <| ?_
  refine Xx.tn (k5 _ _ _ _ ?_)
  refine Cx.seq (fun K12 k12 => ?_)
  refine Cx.seq (fun K13 k13 => ?_)
  obtain ⟨C1, hC1e⟩ : ∃ C1, C1 = C := ⟨_, rfl⟩
  rw [← hC1e]
  rw [← hC1e] at hcd
  have hC1 : TabOk B C1 := by rw [hC1e]; exact hC
  have hc1d := hcd
  have hc1x : C1.xs.map (·.f) = xs := by rw [hC1e]; exact hcx
  refine Xx.perm (H' := rowT T * (gmap T.db (T.ds.map dkv) * (tab C1 * (tre T.ob T.od T.oc * (gmap T.xb (T.xs.map ikv) * (ixs T.xs * (sbuf 9 1 A xs.length c (strs xs) * R))))))) ?_ (by unfold tab; ac_rfl)
  refine Cx.region <| Lx.y (mv rfl) rfl <| Lx.y (nilc rfl) rfl <| Lx.y (fa' fo87_0 rfl) rfl <| Lx.y (ld U82 rfl rfl rfl) rfl <| ?_
  refine Xx.openGF (κ := BitVec 64) (kv := dkv) T.db fun Z c9 hs hZ => ?_
  have hZl : Z.length = T.ds.length := by rw [← hZ, List.length_map]
  refine Lx.o (rgG (κ := BitVec 64) U82 rfl) rfl (fun v B' H' hΦ hB => ?_)
  obtain ⟨it, rfl, hBB, rfl⟩ := hΦ
  have hBB2 := hBB.symm
  subst hBB2
  clear hB
  refine Lx.nil ?_
  refine Xx.tn (k13 _ _ _ _ ?_)
  refine Cx.block ?_
  refine Cx.loopK (Sc 0 rfl (Sc 2 rfl (Sc 3 rfl (Sc 8 rfl (Sc 9 rfl (Sc 10 rfl (Sc 11 rfl (Sc 12 rfl (Sc 13 rfl (Sc 14 rfl (Sc 15 rfl (Sc 22 rfl (Sc 23 rfl (Sc 24 rfl (Sc 25 rfl (Sc 26 rfl (Sub.nil _))))))))))))))))) (fun m ρ' B' H' => ∃ (dz : List (Dc × Nat)) (C : Tb) (B2 : Frag), (GVisF Z dz ∧ TabOk B2 C ∧ C.b = C1.b ∧ C.ds.map Dc.abs = (dz.map (·.1)).map Dc.abs ∧ C.xs.map (·.f) = xs ∧ B.le B2) ∧ m = Z.length - dz.length ∧ ρ' = [] ∧ B2 = B' ∧ blk it (gitObj T.db c9 (dz.map (gz dkv))) * (blk T.db (gObj (Z.map (gz dkv)) c9) * (tab C * (tre T.ob T.od T.oc * (gmap T.xb (T.xs.map ikv) * (ixs T.xs * (rowT T * (sbuf 9 1 A xs.length c (strs xs) * R))))))) = H') ⟨[], C1, _, ⟨GVisF.nil Z, hC1, rfl, by rw [hc1d]; rfl, hc1x, Frag.le_refl _⟩, rfl, rfl, rfl, by ac_rfl⟩ (Sc 0 rfl (Sc 2 rfl (Sc 3 rfl (Sc 8 rfl (Sc 9 rfl (Sc 10 rfl (Sc 11 rfl (Sc 12 rfl (Sc 13 rfl (Sc 14 rfl (Sc 15 rfl (Sc 22 rfl (Sc 23 rfl (Sc 24 rfl (Sc 25 rfl (Sc 26 rfl (Sub.nil _))))))))))))))))) ?_
  rintro m ρ' B' H' ⟨dz, C, B2, ⟨hv, hC, hcb, hcd, hcx, hB2⟩, rfl, rfl, rfl, rfl⟩
  rw [← hcb]
  refine Cx.seq (fun K14 k14 => ?_)
  refine Cx.region ?_
  refine Lx.o (nxGF hs hv rfl) rfl (fun v B' H' hΦ hB => ?_)
  obtain ⟨o, dz2, rfl, ha, hBB, rfl⟩ := hΦ
  have hBB2 := hBB.symm
  subst hBB2
  clear hB
  refine Lx.y (ext rfl (gnx0 _)) rfl <| Lx.nil <| ?_
  refine Xx.tn (k14 _ _ _ _ ?_)
  refine Cx.seq (fun K15 k15 => ?_)
  refine Cx.condB rfl (fun h16 => ?_) (fun h16 => ?_)
  ·
   obtain ⟨z, rfl⟩ : ∃ z, o = some z := by
    cases o with
    | none => exact absurd h16 (by simp)
    | some z => exact ⟨z, rfl⟩
   obtain ⟨rfl, hzZ, hzn⟩ := ha
   have hv2 := hv.step hzZ hzn
   have hvl := hv2.len
   rw [List.length_append, List.length_singleton] at hvl
   have hzx : z.1 ∈ T.ds := by rw [← hZ]; exact List.mem_map.2 ⟨z, hzZ, rfl⟩
   have hzd := (hT.docs _ hzx).mono hB2
   obtain ⟨Ap, cp, An, cn, hsh⟩ := cells_shape hzd
   have hcl : C.ds.length = dz.length := by have h9 := congrArg List.length hcd; simp only [List.length_map] at h9; exact h9
   refine Cx.skip ?_
   refine Xx.tn (k15 _ _ _ _ ?_)
   refine Cx.block ?_
   refine Cx.seq (fun K17 k17 => ?_)
   refine Cx.region <| Lx.y (entGF hs hzZ rfl) rfl <| Lx.y (ext rfl rfl) rfl <| ?_
   refine Lx.new (allocO ti36) rfl (fun b7 => ?_)
   refine Lx.st (stA (d := .bool) (cs' := z.1.cells) sz36 rfl rfl (by rw [hsh]; rfl) (by rw [hsh]; rfl) (by rw [hsh]; show 0 + 8 ≤ 8; omega) (st_all rfl (by rw [hsh]; rfl))) ?_
   refine Lx.nil ?_
   refine Xx.tn (k17 _ _ _ _ ?_)
   refine Cx.region <| Lx.y (mv rfl) rfl <| Lx.y (ldA U36 rfl sz36 rfl (Cells.own (n := 8) PickB.eq (show (z.1.cells.drop 0).take 8 = z.1.cells by rw [hsh]; rfl)) (by rw [hsh]; rfl)) rfl <| ?_
   refine Lx.c rfl rfl rfl (RPut_ct C z.1.n z.1.ver z.1.v z.1.cs _ hC (hM.mono hB2) (by omega) hzd.1 hzd.2.1 hzd.2.2) (Pick.eq) rfl ?_
   rintro r6 B7 H7 ⟨rfl, C2, rfl, hC2, hc2b, hc2d, hc2x⟩ hB7
   refine Lx.nil <| Xx.bn <| ?_
   refine Xx.dropB b7 ?_
   exact Xx.againK ⟨dz ++ [z], C2, _, ⟨hv2, hC2, hc2b, by rw [hc2d, drop_abs hcd (z_ne hZ hT.nd hv hzZ hzn), List.map_append, List.map_append]; rfl, hc2x.trans hcx, Frag.le_trans hB2 hB7⟩, rfl, rfl, rfl, (by ac_rfl)⟩ (by rw [List.length_append, List.length_singleton]; omega) (Sc 0 rfl (Sc 2 rfl (Sc 3 rfl (Sc 8 rfl (Sc 9 rfl (Sc 10 rfl (Sc 11 rfl (Sc 12 rfl (Sc 13 rfl (Sc 14 rfl (Sc 15 rfl (Sc 22 rfl (Sc 23 rfl (Sc 24 rfl (Sc 25 rfl (Sc 26 rfl (Sub.nil _)))))))))))))))))
  ·
   obtain rfl : o = none := by
    cases o with
    | none => rfl
    | some z => exact absurd h16 (by simp)
   obtain ⟨rfl, hall⟩ := ha
   have hp9 := hv.all hs hall
   rw [hZ] at hp9
   refine Cx.exit <| Xx.te <| Xx.te <| Xx.bh <| ?_
   refine Xx.tn (k12 _ _ _ _ ?_)
   refine Cx.seq (fun K18 k18 => ?_)
   refine Xx.dropB it (Xx.closeGF (κ := BitVec 64) T.db hs hZ ?_)
   refine Cx.region <| Lx.y (mv rfl) rfl <| Lx.y (asg rfl) rfl <| Lx.nil <| ?_
   refine Xx.tn (k18 _ _ _ _ ?_)
   refine Cx.ret ?_
   refine Xx.perm (H' := sbuf 9 1 A xs.length c (strs xs) * (tab T * tab C * R)) ?_ (by unfold tab; ac_rfl)
   refine Xx.drop ?_
   exact Xx.ret1 rfl rfl ⟨C, rfl, rfl, hC, by unfold SameD; rw [hcd]; exact hp9.map _, by rw [hcx]; exact hp⟩ hB2 (by ac_rfl)
end RwU
end Go.Proofs.YtdidpocakipinaaGreatDoor
namespace Go.Proofs.YtdidpocakipinaaGreatDoor
open Go.SL Go.RowKit
set_option maxRecDepth 100000
open Ke1 Ke3 Ke4 Ke5 Ke6 Ke7 Ke8 Ke9 KeA KeB KeC KeD KeE KeF KeG KeI RgA RgB BtB BtC BtD BtE BtG BtX BtH BtI BtF BtJ BtK BtL BtM BtN BtO BtR BtY BtZ DrA DrB DrC DrD DrE DrF RwA RwB BtQ BtS RwC RwD RwE RwF RwG RwH RwI RwK RwO RwP RwQ RwR RwS RwT RwU
namespace RwV
theorem sz3 : (Tryz.prog.info? 3).map (·.size) = some 1 := by kernel_rfl
theorem sz4 : (Tryz.prog.info? 4).map (·.size) = some 1 := by kernel_rfl
theorem sz9 : (Tryz.prog.info? 9).map (·.size) = some 1 := by kernel_rfl
theorem sz25 : (Tryz.prog.info? 25).map (·.size) = some 6 := by kernel_rfl
theorem sz36 : (Tryz.prog.info? 36).map (·.size) = some 8 := by kernel_rfl
theorem sz48 : (Tryz.prog.info? 48).map (·.size) = some 2 := by kernel_rfl
theorem sz62 : (Tryz.prog.info? 62).map (·.size) = some 1 := by kernel_rfl
theorem sz64 : (Tryz.prog.info? 64).map (·.size) = some 2 := by kernel_rfl
theorem sz70 : (Tryz.prog.info? 70).map (·.size) = some 8 := by kernel_rfl
theorem ti3 : TI Tryz.prog 3 [.int .i64 0] 1 8 := TI.of (by kernel_rfl) rfl rfl
theorem ti4 : TI Tryz.prog 4 [.bool false] 1 1 := TI.of (by kernel_rfl) rfl rfl
theorem ti9 : TI Tryz.prog 9 [str []] 1 16 := TI.of (by kernel_rfl) rfl rfl
theorem ti25 : TI Tryz.prog 25 [.int .i64 0, .bool false, .int .i64 0, str [], .slice none 0 0, .slice none 0 0] 6 88 := TI.of (by kernel_rfl) rfl rfl
theorem ti36 : TI Tryz.prog 36 [.int .u64 0, .int .u64 0, .int .i64 0, .bool false, .int .i64 0, str [], .slice none 0 0, .slice none 0 0] 8 104 := TI.of (by kernel_rfl) rfl rfl
theorem ti62 : TI Tryz.prog 62 [.slice none 0 0] 1 24 := TI.of (by kernel_rfl) rfl rfl
theorem ti70 : TI Tryz.prog 70 [.int .u64 0, .int .u64 0, .int .i64 0, .bool false, .int .i64 0, str [], .slice none 0 0, .slice none 0 0] 8 104 := TI.of (by kernel_rfl) rfl rfl
theorem fo64_0 : FO Tryz.prog 64 0 0 1 false := FO.of U64 rfl rfl (by kernel_rfl) U62 rfl rfl
theorem fo64_1 : FO Tryz.prog 64 1 1 1 false := FO.of U64 rfl rfl (by kernel_rfl) U23 rfl rfl
theorem pl25 : PL Tryz.prog 25 [(0, 1), (1, 1), (2, 1), (3, 1), (4, 1), (5, 1)] := PL.of U25 (by kernel_rfl)
theorem dadm_congr {ts ms : List Dc} (h : ts.map Dc.abs = ms.map Dc.abs) : DAdm ts = DAdm ms ∧ DFn ts = DFn ms := by
  constructor
  · funext l B
    unfold DAdm
    rw [h]
  · funext l
    unfold DFn
    rw [h]
theorem adm_at {ms pre : List Dc} {x : Dc} {post : List (BitVec 64 × BitVec 64 × V)} (h : ms.map Dc.abs = (pre ++ [x]).map Dc.abs ++ post) : ∃ h : pre.length < ms.length, Dc.abs x = Dc.abs ms[pre.length] := by
  have hl := congrArg List.length h
  simp only [List.length_map, List.length_append, List.length_singleton] at hl
  have hlt : pre.length < ms.length := by omega
  refine ⟨hlt, ?_⟩
  have h9 : (ms.map Dc.abs)[pre.length]? = some (Dc.abs x) := by rw [h]; simp
  rw [List.getElem?_map, List.getElem?_eq_getElem hlt] at h9
  simpa using h9.symm
noncomputable def wantL (f lo hi : List UInt8) (fs : List (List UInt8)) (ms : List Dc) : List Dc := if f ∈ fs then sortK f lo hi ms else []
theorem sortK_len (f lo hi : List UInt8) (ms : List Dc) : (sortK f lo hi ms).length ≤ ms.length := by
  have h : ∀ i, i ≤ ms.length → (sortK f lo hi (ms.take i)).length ≤ i := by
    intro i
    induction i with
    | zero => intro _; rw [List.take_zero]; exact Nat.le_refl _
    | succ i ih =>
      intro hi9
      have hlt : i < ms.length := by omega
      rw [List.take_succ_eq_append_getElem hlt, sortK_snoc]
      have := ih (by omega)
      split
      · rw [insK_len]; omega
      · omega
  have h9 := h ms.length (Nat.le_refl _)
  rwa [List.take_length] at h9
theorem wantL_len {f lo hi : List UInt8} {fs : List (List UInt8)} {ms : List Dc} : (wantL f lo hi fs ms).length ≤ ms.length := by
  unfold wantL
  split
  · exact sortK_len f lo hi ms
  · exact Nat.zero_le _
theorem All_it (T : Tb) (ms : List Dc) (B : Frag) (hT : TabOk B T) (hR : RtB B T) (hS : SameD T.ds ms) (hs : SrtD ms) (b1 b2 b3 : Nat) (h1 : B b1 = some (.cells [.pointer (some ⟨T.b, 0, none⟩)].toArray 31 (0, 0))) (h2 : B b2 = some (.cells [.pointer (some ⟨T.ob, 0, none⟩)].toArray 83 (0, 0))) (h3 : B b3 = some (.cells [str [], str []].toArray 48 (0, 0))) :
    ItG Tryz.prog 68 [.pointer (some ⟨b1, 0, none⟩), .pointer (some ⟨b2, 0, none⟩), .pointer (some ⟨b3, 0, none⟩)] rcv (DAdm ms) (DFn ms) B 1 := by
  obtain ⟨ts, hts, hk⟩ := tk_list hT.ord [] []
  obtain ⟨e1, e2⟩ := dadm_congr (all_same hS hs hT.ord hts hk)
  rw [← e1, ← e2]
  exact Docs_it T T.ob T.od T.oc (fun d => numL d.n) [] [] ts B hT hR hR.2.2.2.1 hT.ord.1 hts hk (fun x _ => ⟨[], rfl, by decide⟩) b1 b2 b3 h1 h2 h3
theorem Rng_it (T : Tb) (ms : List Dc) (fs : List (List UInt8)) (f lo hi : List UInt8) (B : Frag) (hT : TabOk B T) (hR : RtB B T) (hS : SameD T.ds ms) (hs : SrtD ms) (hf : (T.xs.map (·.f)).Perm fs) (b1 b2 b3 : Nat) (h1 : B b1 = some (.cells [.pointer (some ⟨T.b, 0, none⟩)].toArray 31 (0, 0))) (h2 : B b2 = some (.cells [.pointer (lookX f T.xs)].toArray 83 (0, 0))) (h3 : B b3 = some (.cells [str lo, str hi].toArray 48 (0, 0))) :
    ItG Tryz.prog 68 [.pointer (some ⟨b1, 0, none⟩), .pointer (some ⟨b2, 0, none⟩), .pointer (some ⟨b3, 0, none⟩)] rcv (DAdm (wantL f lo hi fs ms)) (DFn (wantL f lo hi fs ms)) B 1 := by
  by_cases hin : f ∈ fs
  · obtain ⟨x, hx, hxf, hlx⟩ := look_x (f := f) (xs := T.xs) (hf.mem_iff.2 hin)
    rw [hlx] at h2
    have htk := hT.idx x hx
    rw [hxf] at htk
    obtain ⟨ts, hts, hk⟩ := tk_list htk lo hi
    have he : ts.map Dc.abs = (wantL f lo hi fs ms).map Dc.abs := by
      unfold wantL; rw [if_pos hin]; exact range_same hS hs htk hts hk
    obtain ⟨e1, e2⟩ := dadm_congr he
    rw [← e1, ← e2]
    exact Docs_it T x.tb x.d x.c (keyD f) lo hi ts B hT hR (hR.2.2.2.2 x hx) htk.1 hts hk (fun y hy => keyD_tail (hT.docs y hy)) b1 b2 b3 h1 h2 h3
  · have hn : lookX f T.xs = none := by
      have h9 := lookX_none (f := f) (xs := T.xs)
      have h7 : f ∉ T.xs.map (·.f) := fun h8 => hin (hf.mem_iff.1 h8)
      rw [decide_eq_true h7] at h9
      simpa using h9
    rw [hn] at h2
    exact DocsNil_it T lo hi (wantL f lo hi fs ms) B b1 b2 b3 h1 h2 (by unfold wantL; rw [if_neg hin])
set_option maxHeartbeats 1000000 in
theorem Struct0_ct (B : Frag) : CtP Tryz.prog 7 [.slice none 0 0, .slice none 0 0] B (.agg [i64 6, .bool false, i64 0, str [], .slice none 0 0, .slice none 0 0].toArray) := by
 refine CtB.of_body Tryz.func7 rfl (nt := 75) rfl (by kernel_rfl) rfl ?_
 intro N0 w0 R
 refine Cx.seq (fun K1 k1 => ?_)
 refine Cx.region ?_
 refine Lx.new (allocO ti25) rfl (fun b4 => ?_)
 refine Lx.nil ?_
 refine Xx.tn (k1 _ _ _ _ ?_)
 refine Cx.seq (fun K2 k2 => ?_)
 refine Cx.region <| Lx.y (asg rfl) rfl <| Lx.nil <| ?_
 refine Xx.tn (k2 _ _ _ _ ?_)
 refine Cx.seq (fun K3 k3 => ?_)
 refine Cx.seq (fun K4 k4 => ?_)
 refine Cx.region <| Lx.y (mv rfl) rfl <| Lx.y (Yx.val (lenV (ty' := 0) U23 rfl) (show _ = i64 0 from rfl)) rfl <| Lx.y (mv rfl) rfl <| Lx.y (Yx.val (lenV (ty' := 0) U22 rfl) (show _ = i64 0 from rfl)) rfl <| Lx.y (Yx.val (minI rfl rfl) (show _ = i64 0 from rfl)) rfl <| Lx.y (mv rfl) rfl <| Lx.nil <| ?_
 refine Xx.tn (k4 _ _ _ _ ?_)
 refine Cx.block ?_
 refine Cx.unroll (1) ?_
 refine Xx.rn ?_
 refine Cx.seq (fun K5 k5 => ?_)
 refine Cx.region <| Lx.y (Yx.ff (lss rfl rfl) (by decide)) rfl <| Lx.nil <| ?_
 refine Xx.tn (k5 _ _ _ _ ?_)
 refine Cx.seq (fun K6 k6 => ?_)
 refine Cx.condF rfl <| Cx.exit <| Xx.te <| Xx.te <| Xx.bh <| ?_
 refine Xx.tn (k3 _ _ _ _ ?_)
 refine Cx.seq (fun K7 k7 => ?_)
 refine Cx.region <| Lx.y (bld ti25 pl25 rfl rfl) rfl <| ?_
 refine Lx.new (allocO ti25) rfl (fun b10 => ?_)
 refine Lx.st (stA (d := .bool) sz25 rfl rfl rfl rfl (by show 0 + 6 ≤ 6; omega) rfl) ?_
 refine Lx.nil ?_
 refine Xx.tn (k7 _ _ _ _ ?_)
 refine Cx.seq (fun K8 k8 => ?_)
 refine Cx.seq (fun K9 k9 => ?_)
 refine Cx.region <| Lx.y (mv rfl) rfl <| Lx.y (Yx.val (lenV (ty' := 0) U72 rfl) (show _ = i64 0 from rfl)) rfl <| Lx.y (mv rfl) rfl <| Lx.nil <| ?_
 refine Xx.tn (k9 _ _ _ _ ?_)
 refine Cx.block ?_
 refine Cx.unroll (1) ?_
 refine Xx.rn ?_
 refine Cx.seq (fun K10 k10 => ?_)
 refine Cx.region <| Lx.y (Yx.ff (lss rfl rfl) (by decide)) rfl <| Lx.nil <| ?_
 refine Xx.tn (k10 _ _ _ _ ?_)
 refine Cx.seq (fun K11 k11 => ?_)
 refine Cx.condF rfl <| Cx.exit <| Xx.te <| Xx.te <| Xx.bh <| ?_
 refine Xx.tn (k8 _ _ _ _ ?_)
 refine Cx.seq (fun K12 k12 => ?_)
 refine Cx.region <| Lx.y (ldA U25 rfl sz25 rfl (Cells.own (n := 6) PickB.eq rfl) rfl) rfl <| ?_
 refine Lx.st (stA (d := .bool) sz25 rfl rfl rfl rfl (by show 0 + 6 ≤ 6; omega) rfl) ?_
 refine Lx.nil ?_
 refine Xx.tn (k12 _ _ _ _ ?_)
 refine Cx.ret ?_
 refine Xx.dropB b10 ?_
 exact Xx.rBa rfl U25 rfl sz25 rfl rfl ⟨rfl, rfl⟩ (Frag.le_refl _)
set_option maxHeartbeats 8000000 in
theorem same_ro (T : Tb) (ms : List Dc) (fs : List (List UInt8)) (Am Af : Option Addr) (cm cf : Nat) (f lo hi : List UInt8) (B : Frag) (hT : TabOk B T) (hR : RtB B T) (hm : MdR B Am ms) (hfs : RoE B Af fs.length (fs.map str)) (hS : SameD T.ds ms) (hs : SrtD ms) (hf : (T.xs.map (·.f)).Perm fs) (hml : ms.length ≤ 1000) (hfl : fs.length ≤ 1000) : CtB Tryz.prog 27 [.pointer (some ⟨T.b, 0, none⟩), .agg [.slice Am ms.length cm, .slice Af fs.length cf].toArray, str f, .agg [str lo, str hi].toArray] B (fun v _ => v = .bool true) := by
 have hsl := hS.len
 have hxl : T.xs.length = fs.length := by have h9 := hf.length_eq; rwa [List.length_map] at h9
 refine CtB.of_bodyM Tryz.func27 rfl (nt := 90) rfl (by kernel_rfl) rfl ?_
 intro N0 w0 R
 refine Cx.seq (fun K1 k1 => ?_)
 refine Cx.region ?_
 refine Lx.new (boxA rfl) rfl (fun b5 => ?_)
 refine Lx.new (boxA rfl) rfl (fun b7 => ?_)
 refine Lx.new (allocO ti4) rfl (fun b8 => ?_)
 refine Lx.nil ?_
 refine Xx.tn (k1 _ _ _ _ ?_)
 refine Cx.seq (fun K2 k2 => ?_)
 refine Cx.seq (fun K3 k3 => ?_)
 refine Cx.drawn (by kernel_rfl) ?_
 refine Dx.p (i := 0) rfl (by kernel_rfl) (mv rfl) rfl ?_
 refine Dx.p (i := 2) rfl (by kernel_rfl) (fa' fo64_0 rfl) rfl ?_
 refine Dx.r (i := 3) rfl (by kernel_rfl) (ld U62 rfl rfl rfl) rfl ?_
 refine Dx.p (i := 4) rfl (by kernel_rfl) (lenV (ty' := 0) U62 rfl) rfl ?_
 refine Dx.one (i := 1) (by kernel_rfl) ?_
 refine Dstep.o (i := 1) rfl (Ox.cb rfl rfl rfl (RLen_ro T _ hR)) rfl (fun v B' H' hΦ hB => ?_)
 obtain ⟨rfl, rfl, hBB⟩ := hΦ; have hBB2 := hBB.symm; subst hBB2; clear hB
 refine ⟨JOk.yes (JOk.top) (ld U62 rfl rfl rfl), ?_⟩
 refine Dx.p (i := 5) rfl (by kernel_rfl) (Yx.ff (neI rfl rfl) (by rw [hsl]; simp)) rfl ?_
 refine Dx.p (i := 6) rfl (by kernel_rfl) (mv rfl) rfl ?_
 refine Dx.pT (i := 7) rfl rfl rfl rfl (by kernel_rfl) (mv rfl) rfl ?_
 refine Dx.pT (i := 10) rfl rfl rfl rfl (by kernel_rfl) (fa' fo64_1 rfl) rfl ?_
 refine Dx.rT (i := 11) rfl rfl rfl rfl (by kernel_rfl) (ld U23 rfl rfl rfl) rfl ?_
 refine Dx.pT (i := 12) rfl rfl rfl rfl (by kernel_rfl) (lenV (ty' := 0) U23 rfl) rfl ?_
 refine Dx.one (i := 8) (by kernel_rfl) ?_
 refine Dstep.oT (i := 8) rfl rfl rfl rfl (Ox.call rfl rfl rfl (RIdx_ro T _ hR (by omega)) ((one_star _).symm)) rfl (fun v B' H' hΦ hB => ?_)
 obtain ⟨_, rfl, hΦ⟩ := hΦ
 obtain ⟨hBB, xs9, A9, c9, rfl, hpx, rfl⟩ := hΦ
 have hBB2 := hBB.symm
 subst hBB2
 clear hB
 have hxx : xs9.length = fs.length := by rw [hpx.length_eq, List.length_map]; exact hxl
 refine ⟨JOk.yes (JOk.yes (JOk.top) (ld U62 rfl rfl rfl)) (ld U23 rfl rfl rfl), ?_⟩
 refine Dx.pT (i := 9) rfl rfl rfl rfl (by kernel_rfl) (lenV (ty' := 0) U23 rfl) rfl ?_
 refine Dx.pT (i := 13) rfl rfl rfl rfl (by kernel_rfl) (Yx.ff (neI rfl rfl) (by rw [hxx]; simp)) rfl ?_
 refine Dx.p (i := 14) rfl (by kernel_rfl) (pickF rfl rfl) rfl ?_
 refine Dx.done (by kernel_rfl) ?_
 refine Xx.tn (k3 _ _ _ _ ?_)
 refine Cx.condF rfl <| Cx.skip <| ?_
 refine Xx.tn (k2 _ _ _ _ ?_)
 refine Cx.seq (fun K4 k4 => ?_)
 refine Xx.dropT A9 ?_
 refine Cx.region ?_
 refine Lx.new (allocO ti3) rfl (fun b9 => ?_)
 refine Lx.st (stO U3 sz3 rfl rfl rfl (by simp) rfl) ?_
 refine Lx.nil ?_
 refine Xx.tn (k4 _ _ _ _ ?_)
 refine Cx.seq (fun K5 k5 => ?_)
 refine Cx.seq (fun K6 k6 => ?_)
 refine Cx.region <| Lx.y (mv rfl) rfl <| ?_
 refine Lx.cb rfl rfl rfl (RAll_ro T _ hR) rfl ?_
 rintro v2 B2 ⟨c1, c2, c3, rfl, hc1, hc2, hc3⟩ hB2
 have hT2 := hT.mono hB2
 have hR2 := hR.mono hB2
 have hm2 := hm.mono hB2
 refine Lx.nil ?_
 refine Xx.tn (k6 _ _ _ _ ?_)
 refine Cx.block ?_
 refine Cx.rangeG (σ := _) (Sc 5 rfl (Sc 8 rfl (Sc 9 rfl (Sub.nil _)))) rfl rfl (All_it T ms B2 hT2 hR2 hS hs c1 c2 c3 hc1 hc2 hc3) (show _ = 1 * ((row b9 3 [i64 0] * row b5 64 [.slice Am ms.length cm, .slice Af fs.length cf]) * (row b7 48 [str lo, str hi] * (row b8 4 [.bool false] * R))) by rw [one_star]; ac_rfl) rfl (fun _ => rfl) (fun pre B' H' => H' = row b9 3 [i64 ((pre.length : Nat) : Int)] * row b5 64 [.slice Am ms.length cm, .slice Af fs.length cf]) (fun _ _ _ _ => False) (fun pre x B1 ρ' B' H' => ∃ ba, ρ' = [(10, .pointer (some ⟨ba, 0, none⟩))] ∧ B' = B1 ∧ H' = row ba 36 x.cells * (row b9 3 [i64 ((pre.length : Nat) : Int)] * row b5 64 [.slice Am ms.length cm, .slice Af fs.length cf])) (rfl) ?_ ?_ ?_ ?_
 ·rintro lz Nz wz pre x B0 B1 H1 F K hxs hB0 hB01 hJ hK
  subst hJ
  obtain ⟨_, hlast⟩ := hxs
  obtain ⟨Ap9, cp9, An9, cn9, hsh⟩ := cells_shape (hlast x (by simp))
  simp only [star_assoc]
  refine Cx.region ?_
  refine Lx.new (allocO ti36) rfl (fun ba => ?_)
  refine Lx.st (stA (d := .bool) (cs' := x.cells) sz36 rfl rfl (by rw [hsh]; rfl) (by rw [hsh]; rfl) (by rw [hsh]; show 0 + 8 ≤ 8; omega) (st_all rfl (by rw [hsh]; rfl))) ?_
  refine Lx.nil ?_
  refine Xx.tn ?_
  exact Xx.perm (Xx.sub (hK _ _ (row ba 36 x.cells * (row b9 3 [i64 ((pre.length : Nat) : Int)] * row b5 64 [.slice Am ms.length cm, .slice Af fs.length cf])) ⟨ba, rfl, rfl, rfl⟩ (Frag.le_refl _)) (Sc 10 rfl (Sc 5 rfl (Sc 8 rfl (Sc 9 rfl (Sub.nil _)))))) (by ac_rfl)
 ·rintro lz Nz wz pre x B1 F ρ' B' H' hxs hB1 hBx hAS
  obtain ⟨⟨post, hpo⟩, hlast⟩ := hxs
  obtain ⟨hlt, hab⟩ := adm_at hpo
  have hdx := hlast x (by simp)
  obtain ⟨Ap9, cp9, An9, cn9, hsh⟩ := cells_shape hdx
  obtain ⟨ba, rfl, hBB, rfl⟩ := hAS
  have hBB2 := hBB.symm
  subst hBB2
  simp only [star_assoc]
  obtain ⟨bq, oq, lq, eq, fq, hAq, hBq, hxq⟩ := md_at (hm2.mono hB1) hlt
  have hdq := (hm2.mono hB1).2 _ (List.getElem_mem hlt)
  obtain ⟨Aq, cq, Nq, dq, hsq⟩ := cells_shape hdq
  subst hAq
  refine Cx.block ?_
  refine Cx.seq (fun K8 k8 => ?_)
  refine Cx.seq (fun K9 k9 => ?_)
  refine Cx.drawn (by kernel_rfl) ?_
  refine Dx.r (i := 0) rfl (by kernel_rfl) (ld U3 rfl rfl rfl) rfl ?_
  refine Dx.p (i := 1) rfl (by kernel_rfl) (fa' fo64_0 rfl) rfl ?_
  refine Dx.r (i := 2) rfl (by kernel_rfl) (ld U62 rfl rfl rfl) rfl ?_
  refine Dx.p (i := 3) rfl (by kernel_rfl) (lenV (ty' := 0) U62 rfl) rfl ?_
  refine Dx.p (i := 4) rfl (by kernel_rfl) (Yx.ff (geq rfl rfl) (decide_eq_false (by omega))) rfl ?_
  refine Dx.p (i := 5) rfl (by kernel_rfl) (mv rfl) rfl ?_
  refine Dx.rT (i := 6) rfl rfl rfl rfl (by kernel_rfl) (ldA U36 rfl sz36 rfl (Cells.own (n := 8) PickB.eq (show (x.cells.drop 0).take 8 = x.cells by rw [hsh]; rfl)) (by rw [hsh]; rfl)) rfl ?_
  refine Dx.pT (i := 7) rfl rfl rfl rfl (by kernel_rfl) (fa' fo64_0 rfl) rfl ?_
  refine Dx.rT (i := 8) rfl rfl rfl rfl (by kernel_rfl) (ld U62 rfl rfl rfl) rfl ?_
  refine Dx.rT (i := 9) rfl rfl rfl rfl (by kernel_rfl) (ld U3 rfl rfl rfl) rfl ?_
  refine Dx.pT (i := 10) rfl rfl rfl rfl (by kernel_rfl) (ia U62 sz70 rfl rfl (Int.toNat_natCast _) (by omega) (by omega)) rfl ?_
  refine Dx.rT (i := 11) rfl rfl rfl rfl (by kernel_rfl) (ldA U70 rfl sz70 rfl (Cells.base (n := 8) hBq hxq) (by rw [hsq]; rfl)) rfl ?_
  refine Dx.one (i := 12) (by kernel_rfl) ?_
  refine Dstep.oT (i := 12) rfl rfl rfl rfl (Ox.cb rfl rfl rfl (alike_ct x ms[pre.length] _ hdx hdq hab)) rfl (fun v B' H' hΦ hB => ?_)
  obtain ⟨rfl, hΦ⟩ := hΦ
  obtain rfl := hΦ
  obtain ⟨B8, h8e⟩ : ∃ B8, B8 = B' := ⟨_, rfl⟩
  subst h8e
  have hB8 := hB
  refine ⟨JOk.edge (JOk.yes (JOk.yes (JOk.edge (JOk.yes (JOk.yes (JOk.top) (ld U3 rfl rfl rfl)) (ld U62 rfl rfl rfl)) (by kernel_rfl)) (ld U62 rfl rfl rfl)) (ld U3 rfl rfl rfl)) (by kernel_rfl), ?_⟩
  refine Dx.pT (i := 13) rfl rfl rfl rfl (by kernel_rfl) (Yx.ff (not' rfl) (rfl)) rfl ?_
  refine Dx.p (i := 14) rfl (by kernel_rfl) (pickF rfl rfl) rfl ?_
  refine Dx.done (by kernel_rfl) ?_
  refine Xx.tn (k9 _ _ _ _ ?_)
  refine Cx.condF rfl <| Cx.skip <| ?_
  refine Xx.tn (k8 _ _ _ _ ?_)
  refine Cx.region <| Lx.y (ld U3 rfl rfl rfl) rfl <| Lx.y (Yx.val (add rfl rfl (by first | exact wrap64 (by omega) (by omega) | rfl)) (show _ = i64 ((pre.length + 1 : Nat) : Int) from rfl)) rfl <| ?_
  refine Lx.st (stO U3 sz3 rfl rfl rfl (by simp) rfl) ?_
  refine Lx.nil <| Xx.bn <| ?_
  refine Xx.dropB ba ?_
  exact Xx.rqn (by rw [List.length_append, List.length_singleton]) hB8 (by ac_rfl)
 ·rintro D xs B' H' hxs hBx hJ
  rename Nat => D1
  subst hJ
  simp only [star_assoc]
  have hBxA := hBx
  have hxsl : xs.length = ms.length := by have h9 := congrArg List.length hxs; simpa using h9
  rw [hxsl]
  obtain ⟨BA, hBAe⟩ : ∃ BA, BA = B' := ⟨_, rfl⟩
  rw [← hBAe] at hBxA ⊢
  have hT3 := hT2.mono hBxA
  have hR3 := hR2.mono hBxA
  have hm3 := hm2.mono hBxA
  have hfs3 := (hfs.mono hB2).mono hBxA
  rw [one_star]
  refine Xx.bn ?_
  refine Xx.tn (k5 _ _ _ _ ?_)
  refine Cx.seq (fun K10 k10 => ?_)
  refine Cx.region ?_
  refine Lx.o (bslZ U62 ti70) rfl (fun v B' H' hΦ hB => ?_)
  obtain ⟨b0, rfl, hBB, rfl⟩ := hΦ
  have hBB2 := hBB.symm
  subst hBB2
  clear hB
  refine Lx.new (allocO ti62) rfl (fun b11 => ?_)
  refine Lx.st (stO U62 sz62 rfl rfl rfl (by simp) rfl) ?_
  refine Lx.nil ?_
  refine Xx.tn (k10 _ _ _ _ ?_)
  refine Cx.cutK (ds' := [Go.SL.mark D1]) (Sc 0 rfl (Sc 1 rfl (Sc 2 rfl (Sc 3 rfl (Sc 5 rfl (Sc 7 rfl (Sc 8 rfl (Sc 9 rfl (Sc 11 rfl (Sc 14 rfl (Sc 15 rfl (Sc 16 rfl (Sc 17 rfl (Sc 18 rfl (Sc 19 rfl (Sc 20 rfl (Sc 21 rfl (Sc 22 rfl (Sc 23 rfl (Sc 24 rfl (Sc 25 rfl (Sc 26 rfl (Sc 27 rfl (Sc 28 rfl (Sc 29 rfl (Sc 30 rfl (Sc 49 rfl (Sub.nil _)))))))))))))))))))))))))))) (fun ρ' B' H' => ∃ A4 c4 B4, ρ' = [] ∧ B4 = B' ∧ row b11 62 [.slice A4 (wantL f lo hi fs ms).length c4] * (row b9 3 [i64 ((ms.length : Nat) : Int)] * (row b5 64 [.slice Am ms.length cm, .slice Af fs.length cf] * (blk D1 dfr * (row b7 48 [str lo, str hi] * (row b8 4 [.bool false] * R))))) = H' ∧ MdR B4 A4 (wantL f lo hi fs ms) ∧ BA.le B4) ?_ ?_
  ·
   refine Cx.seq (fun K11 k11 => ?_)
   refine Xx.freezeT (some ⟨b0, 0, none⟩) fun B3 hB3 hRo0 hnc0 _ => ?_
   refine Cx.region <| Lx.y (fa' fo64_1 rfl) rfl <| Lx.y (ld U23 rfl rfl rfl) rfl <| Lx.y (mv rfl) rfl <| ?_
   refine Lx.cp rfl rfl rfl (has_ct fs Af cf f _ (hfs3.mono hB3) hfl) rfl ?_
   refine Lx.nil ?_
   refine Xx.tn (k11 _ _ _ _ ?_)
   refine Cx.condB rfl (fun h12 => ?_) (fun h12 => ?_)
   ·
    have hin : f ∈ fs := of_decide_eq_true h12
    refine Cx.region <| Lx.y (fa' fo64_0 rfl) rfl <| Lx.y (ld U62 rfl rfl rfl) rfl <| Lx.y (mv rfl) rfl <| Lx.y (ldA U48 rfl sz48 rfl (Cells.own (n := 2) PickB.eq (show ([str lo, str hi].drop 0).take 2 = [str lo, str hi] from rfl)) rfl) rfl <| ?_
    refine Lx.cb rfl rfl rfl (sorted_ct ms Am cm f lo hi _ (hm3.mono hB3) hml) rfl ?_
    rintro v4 B4 ⟨A4, c4, rfl, hmq⟩ hB4
    have hQ : sortK f lo hi ms = (wantL f lo hi fs ms) := by unfold wantL; rw [if_pos hin]
    rw [hQ] at hmq ⊢
    refine Lx.st (stO U62 sz62 rfl rfl rfl (by simp) rfl) ?_
    refine Lx.nil ?_
    exact Xx.mkK (⟨A4, c4, B4, rfl, rfl, by ac_rfl, hmq, Frag.le_trans hB3 hB4⟩) (Sc 0 rfl (Sc 1 rfl (Sc 2 rfl (Sc 3 rfl (Sc 5 rfl (Sc 7 rfl (Sc 8 rfl (Sc 9 rfl (Sc 11 rfl (Sc 14 rfl (Sc 15 rfl (Sc 16 rfl (Sc 17 rfl (Sc 18 rfl (Sc 19 rfl (Sc 20 rfl (Sc 21 rfl (Sc 22 rfl (Sc 23 rfl (Sc 24 rfl (Sc 25 rfl (Sc 26 rfl (Sc 27 rfl (Sc 28 rfl (Sc 29 rfl (Sc 30 rfl (Sc 49 rfl (Sub.nil _))))))))))))))))))))))))))))
   ·
    have hin : f ∉ fs := of_decide_eq_false h12
    refine Cx.skip ?_
    have hQ : (wantL f lo hi fs ms) = [] := by unfold wantL; rw [if_neg hin]
    exact Xx.mkK (⟨some ⟨b0, 0, none⟩, 0, B3, rfl, rfl, by first | ac_rfl | (rw [hQ]; simp only [List.length_nil]; done) | (rw [hQ]; simp only [List.length_nil]; ac_rfl), by rw [hQ]; exact ⟨hRo0, fun d hd => by cases hd⟩, hB3⟩) (Sc 0 rfl (Sc 1 rfl (Sc 2 rfl (Sc 3 rfl (Sc 5 rfl (Sc 7 rfl (Sc 8 rfl (Sc 9 rfl (Sc 11 rfl (Sc 14 rfl (Sc 15 rfl (Sc 16 rfl (Sc 17 rfl (Sc 18 rfl (Sc 19 rfl (Sc 20 rfl (Sc 21 rfl (Sc 22 rfl (Sc 23 rfl (Sc 24 rfl (Sc 25 rfl (Sc 26 rfl (Sc 27 rfl (Sc 28 rfl (Sc 29 rfl (Sc 30 rfl (Sc 49 rfl (Sub.nil _))))))))))))))))))))))))))))
  ·rintro ρ' B' H' ⟨A4, c4, B4, rfl, rfl, rfl, hmq, hB4⟩
   obtain ⟨q, hqe⟩ : ∃ q, q = (wantL f lo hi fs ms) := ⟨_, rfl⟩
   rw [← hqe] at hmq ⊢
   have hT4 := hT3.mono hB4
   have hR4 := hR3.mono hB4
   have hql : q.length ≤ 1000 := by rw [hqe]; exact Nat.le_trans wantL_len hml
   refine Cx.seq (fun K14 k14 => ?_)
   refine Cx.region ?_
   refine Lx.new (allocO ti3) rfl (fun b12 => ?_)
   refine Lx.st (stO U3 sz3 rfl rfl rfl (by simp) rfl) ?_
   refine Lx.nil ?_
   refine Xx.tn (k14 _ _ _ _ ?_)
   refine Cx.seq (fun K15 k15 => ?_)
   refine Cx.seq (fun K16 k16 => ?_)
   refine Cx.region <| Lx.y (mv rfl) rfl <| Lx.y (mv rfl) rfl <| Lx.y (ldA U48 rfl sz48 rfl (Cells.own (n := 2) PickB.eq (show ([str lo, str hi].drop 0).take 2 = [str lo, str hi] from rfl)) rfl) rfl <| ?_
   refine Lx.cb rfl rfl rfl (RRange_ro T f lo hi _ hR4) rfl ?_
   rintro v5 B5 ⟨d4, d5, d6, rfl, hc4, hc5, hc6⟩ hB5
   have hT5 := hT4.mono hB5
   have hR5 := hR4.mono hB5
   have hm5 := hmq.mono hB5
   have hRg := Rng_it T ms fs f lo hi B5 hT5 hR5 hS hs hf d4 d5 d6 hc4 hc5 hc6
   rw [← hqe] at hRg
   refine Lx.nil ?_
   refine Xx.tn (k16 _ _ _ _ ?_)
   refine Cx.block ?_
   refine Cx.rangeG (σ := _) (Sc 8 rfl (Sc 11 rfl (Sc 12 rfl (Sub.nil _)))) rfl rfl (hRg) (show _ = 1 * ((row b12 3 [i64 0] * row b11 62 [.slice A4 q.length c4]) * (row b9 3 [i64 ((ms.length : Nat) : Int)] * (row b5 64 [.slice Am ms.length cm, .slice Af fs.length cf] * (blk D1 dfr * (row b7 48 [str lo, str hi] * (row b8 4 [.bool false] * R)))))) by rw [one_star]; ac_rfl) rfl (fun _ => rfl) (fun pre B' H' => H' = row b12 3 [i64 ((pre.length : Nat) : Int)] * row b11 62 [.slice A4 q.length c4]) (fun _ _ _ _ => False) (fun pre x B1 ρ' B' H' => ∃ ba, ρ' = [(13, .pointer (some ⟨ba, 0, none⟩))] ∧ B' = B1 ∧ H' = row ba 36 x.cells * (row b12 3 [i64 ((pre.length : Nat) : Int)] * row b11 62 [.slice A4 q.length c4])) (rfl) ?_ ?_ ?_ ?_
   ·rintro lz Nz wz pre x B0 B1 H1 F K hxs hB0 hB01 hJ hK
    subst hJ
    obtain ⟨_, hlast⟩ := hxs
    obtain ⟨Ap9, cp9, An9, cn9, hsh⟩ := cells_shape (hlast x (by simp))
    simp only [star_assoc]
    refine Cx.region ?_
    refine Lx.new (allocO ti36) rfl (fun ba => ?_)
    refine Lx.st (stA (d := .bool) (cs' := x.cells) sz36 rfl rfl (by rw [hsh]; rfl) (by rw [hsh]; rfl) (by rw [hsh]; show 0 + 8 ≤ 8; omega) (st_all rfl (by rw [hsh]; rfl))) ?_
    refine Lx.nil ?_
    refine Xx.tn ?_
    exact Xx.perm (Xx.sub (hK _ _ (row ba 36 x.cells * (row b12 3 [i64 ((pre.length : Nat) : Int)] * row b11 62 [.slice A4 q.length c4])) ⟨ba, rfl, rfl, rfl⟩ (Frag.le_refl _)) (Sc 13 rfl (Sc 8 rfl (Sc 11 rfl (Sc 12 rfl (Sub.nil _)))))) (by ac_rfl)
   ·rintro lz Nz wz pre x B1 F ρ' B' H' hxs hB1 hBx hAS
    obtain ⟨⟨post, hpo⟩, hlast⟩ := hxs
    obtain ⟨hlt, hab⟩ := adm_at hpo
    have hdx := hlast x (by simp)
    obtain ⟨Ap9, cp9, An9, cn9, hsh⟩ := cells_shape hdx
    obtain ⟨ba, rfl, hBB, rfl⟩ := hAS
    have hBB2 := hBB.symm
    subst hBB2
    simp only [star_assoc]
    obtain ⟨bq, oq, lq, eq, fq, hAq, hBq, hxq⟩ := md_at (hm5.mono hB1) hlt
    have hdq := (hm5.mono hB1).2 _ (List.getElem_mem hlt)
    obtain ⟨Aq, cq, Nq, dq, hsq⟩ := cells_shape hdq
    subst hAq
    refine Cx.block ?_
    refine Cx.seq (fun K18 k18 => ?_)
    refine Cx.seq (fun K19 k19 => ?_)
    refine Cx.drawn (by kernel_rfl) ?_
    refine Dx.r (i := 0) rfl (by kernel_rfl) (ld U3 rfl rfl rfl) rfl ?_
    refine Dx.r (i := 1) rfl (by kernel_rfl) (ld U62 rfl rfl rfl) rfl ?_
    refine Dx.p (i := 2) rfl (by kernel_rfl) (lenV (ty' := 0) U62 rfl) rfl ?_
    refine Dx.p (i := 3) rfl (by kernel_rfl) (Yx.ff (geq rfl rfl) (decide_eq_false (by omega))) rfl ?_
    refine Dx.p (i := 4) rfl (by kernel_rfl) (mv rfl) rfl ?_
    refine Dx.rT (i := 5) rfl rfl rfl rfl (by kernel_rfl) (ldA U36 rfl sz36 rfl (Cells.own (n := 8) PickB.eq (show (x.cells.drop 0).take 8 = x.cells by rw [hsh]; rfl)) (by rw [hsh]; rfl)) rfl ?_
    refine Dx.rT (i := 6) rfl rfl rfl rfl (by kernel_rfl) (ld U62 rfl rfl rfl) rfl ?_
    refine Dx.rT (i := 7) rfl rfl rfl rfl (by kernel_rfl) (ld U3 rfl rfl rfl) rfl ?_
    refine Dx.pT (i := 8) rfl rfl rfl rfl (by kernel_rfl) (ia U62 sz70 rfl rfl (Int.toNat_natCast _) (by omega) (by omega)) rfl ?_
    refine Dx.rT (i := 9) rfl rfl rfl rfl (by kernel_rfl) (ldA U70 rfl sz70 rfl (Cells.base (n := 8) hBq hxq) (by rw [hsq]; rfl)) rfl ?_
    refine Dx.one (i := 10) (by kernel_rfl) ?_
    refine Dstep.oT (i := 10) rfl rfl rfl rfl (Ox.cb rfl rfl rfl (alike_ct x q[pre.length] _ hdx hdq hab)) rfl (fun v B' H' hΦ hB => ?_)
    obtain ⟨rfl, hΦ⟩ := hΦ
    obtain rfl := hΦ
    obtain ⟨B8, h8e⟩ : ∃ B8, B8 = B' := ⟨_, rfl⟩
    subst h8e
    have hB8 := hB
    refine ⟨JOk.edge (JOk.yes (JOk.yes (JOk.edge (JOk.yes (JOk.yes (JOk.top) (ld U3 rfl rfl rfl)) (ld U62 rfl rfl rfl)) (by kernel_rfl)) (ld U62 rfl rfl rfl)) (ld U3 rfl rfl rfl)) (by kernel_rfl), ?_⟩
    refine Dx.pT (i := 11) rfl rfl rfl rfl (by kernel_rfl) (Yx.ff (not' rfl) (rfl)) rfl ?_
    refine Dx.p (i := 12) rfl (by kernel_rfl) (pickF rfl rfl) rfl ?_
    refine Dx.done (by kernel_rfl) ?_
    refine Xx.tn (k19 _ _ _ _ ?_)
    refine Cx.condF rfl <| Cx.skip <| ?_
    refine Xx.tn (k18 _ _ _ _ ?_)
    refine Cx.region <| Lx.y (ld U3 rfl rfl rfl) rfl <| Lx.y (Yx.val (add rfl rfl (by first | exact wrap64 (by omega) (by omega) | rfl)) (show _ = i64 ((pre.length + 1 : Nat) : Int) from rfl)) rfl <| ?_
    refine Lx.st (stO U3 sz3 rfl rfl rfl (by simp) rfl) ?_
    refine Lx.nil <| Xx.bn <| ?_
    refine Xx.dropB ba ?_
    exact Xx.rqn (by rw [List.length_append, List.length_singleton]) hB8 (by ac_rfl)
   ·rintro D xs B' H' hxs hBx hJ
    rename Nat => D2
    subst hJ
    simp only [star_assoc]
    have hxsq : xs.length = q.length := by have h9 := congrArg List.length hxs; simpa using h9
    rw [hxsq]
    rw [one_star]
    refine Xx.bn ?_
    refine Xx.tn (k15 _ _ _ _ ?_)
    refine Cx.seq (fun K20 k20 => ?_)
    refine Cx.region <| Lx.y (ld U3 rfl rfl rfl) rfl <| Lx.y (fa' fo64_0 rfl) rfl <| Lx.y (ld U62 rfl rfl rfl) rfl <| Lx.y (lenV (ty' := 0) U62 rfl) rfl <| Lx.y (Yx.tt (eqI rfl rfl) (decide_eq_true rfl)) rfl <| Lx.y (mv rfl) rfl <| Lx.gT rfl rfl rfl <| Lx.y (ld U3 rfl rfl rfl) rfl <| Lx.gT rfl rfl rfl <| Lx.y (ld U62 rfl rfl rfl) rfl <| Lx.gT rfl rfl rfl <| ?_
    refine Lx.y (lenV (ty' := 0) U62 rfl) rfl <| Lx.gT rfl rfl rfl <| Lx.y (Yx.tt (eqI rfl rfl) (decide_eq_true rfl)) rfl <| Lx.y (pickT rfl rfl) rfl <| ?_
    refine Lx.st (stO U4 sz4 rfl rfl rfl (by simp) rfl) ?_
    refine Lx.nil ?_
    refine Xx.tn (k20 _ _ _ _ ?_)
    refine Cx.ret ?_
    refine Xx.perm (H' := (row b12 3 [i64 ((q.length : Nat) : Int)] * (row b11 62 [.slice A4 q.length c4] * (row b9 3 [i64 ((ms.length : Nat) : Int)] * (row b5 64 [.slice Am ms.length cm, .slice Af fs.length cf] * row b7 48 [str lo, str hi])))) * (blk D2 dfr * (blk D1 dfr * (row b8 4 [.bool true] * R)))) ?_ (by ac_rfl)
    refine Xx.drop ?_
    exact Xx.rBMc (Ds := [D2, D1]) (G := row b8 4 [.bool true]) (resC1 rfl U4 rfl rfl) rfl (Frag.le_trans hB2 (Frag.le_trans hBxA (Frag.le_trans hB4 (Frag.le_trans hB5 hBx)))) (by simp only [marks_cons, marks_nil, star_one, one_star]; ac_rfl)
   ·rintro D c pre B' H' hBx hJx
    exact hJx.elim
 ·rintro D c pre B' H' hBx hJx
  exact hJx.elim
end RwV
end Go.Proofs.YtdidpocakipinaaGreatDoor
namespace Go.Proofs.YtdidpocakipinaaGreatDoor
open Go.SL Go.RowKit
set_option maxRecDepth 100000
open Ke1 Ke3 Ke4 Ke5 Ke6 Ke7 Ke8 Ke9 KeA KeB KeC KeD KeE KeF KeG KeI RgA RgB BtB BtC BtD BtE BtG BtX BtH BtI BtF BtJ BtK BtL BtM BtN BtO BtR BtY BtZ DrA DrB DrC DrD DrE DrF RwA RwB BtQ BtS RwC RwD RwE RwF RwG RwH RwI RwK RwO RwP RwQ RwR RwS RwT RwU RwV
namespace RwX
theorem sz3 : (Tryz.prog.info? 3).map (·.size) = some 1 := by kernel_rfl
theorem sz4 : (Tryz.prog.info? 4).map (·.size) = some 1 := by kernel_rfl
theorem sz9 : (Tryz.prog.info? 9).map (·.size) = some 1 := by kernel_rfl
theorem sz23 : (Tryz.prog.info? 23).map (·.size) = some 1 := by kernel_rfl
theorem sz25 : (Tryz.prog.info? 25).map (·.size) = some 6 := by kernel_rfl
theorem sz36 : (Tryz.prog.info? 36).map (·.size) = some 8 := by kernel_rfl
theorem sz39 : (Tryz.prog.info? 39).map (·.size) = some 6 := by kernel_rfl
theorem sz48 : (Tryz.prog.info? 48).map (·.size) = some 2 := by kernel_rfl
theorem sz51 : (Tryz.prog.info? 51).map (·.size) = some 9 := by kernel_rfl
theorem sz62 : (Tryz.prog.info? 62).map (·.size) = some 1 := by kernel_rfl
theorem sz64 : (Tryz.prog.info? 64).map (·.size) = some 2 := by kernel_rfl
theorem sz70 : (Tryz.prog.info? 70).map (·.size) = some 8 := by kernel_rfl
theorem ti9 : TI Tryz.prog 9 [str []] 1 16 := TI.of (by kernel_rfl) rfl rfl
theorem ti25 : TI Tryz.prog 25 [.int .i64 0, .bool false, .int .i64 0, str [], .slice none 0 0, .slice none 0 0] 6 88 := TI.of (by kernel_rfl) rfl rfl
theorem ti36 : TI Tryz.prog 36 [.int .u64 0, .int .u64 0, .int .i64 0, .bool false, .int .i64 0, str [], .slice none 0 0, .slice none 0 0] 8 104 := TI.of (by kernel_rfl) rfl rfl
theorem ti48 : TI Tryz.prog 48 [str [], str []] 2 32 := TI.of (by kernel_rfl) rfl rfl
theorem ti51 : TI Tryz.prog 51 [.int .i64 0, .int .u64 0, .int .i64 0, .bool false, .int .i64 0, str [], .slice none 0 0, .slice none 0 0, str []] 9 120 := TI.of (by kernel_rfl) rfl rfl
theorem ti64 : TI Tryz.prog 64 [.slice none 0 0, .slice none 0 0] 2 48 := TI.of (by kernel_rfl) rfl rfl
theorem ti70 : TI Tryz.prog 70 [.int .u64 0, .int .u64 0, .int .i64 0, .bool false, .int .i64 0, str [], .slice none 0 0, .slice none 0 0] 8 104 := TI.of (by kernel_rfl) rfl rfl
theorem fo36_0 : FO Tryz.prog 36 0 0 1 false := FO.of U36 rfl rfl (by kernel_rfl) U34 rfl rfl
theorem fo51_0 : FO Tryz.prog 51 0 0 1 false := FO.of U51 rfl rfl (by kernel_rfl) U3 rfl rfl
theorem fo51_1 : FO Tryz.prog 51 1 1 1 false := FO.of U51 rfl rfl (by kernel_rfl) U34 rfl rfl
theorem fo51_2 : FO Tryz.prog 51 2 2 6 true := FO.of U51 rfl rfl (by kernel_rfl) U25 rfl rfl
theorem fo51_3 : FO Tryz.prog 51 3 8 1 false := FO.of U51 rfl rfl (by kernel_rfl) U9 rfl rfl
theorem fo64_0 : FO Tryz.prog 64 0 0 1 false := FO.of U64 rfl rfl (by kernel_rfl) U62 rfl rfl
theorem fo64_1 : FO Tryz.prog 64 1 1 1 false := FO.of U64 rfl rfl (by kernel_rfl) U23 rfl rfl
theorem pl36 : PL Tryz.prog 36 [(0, 1), (1, 1), (2, 6)] := PL.of U36 (by kernel_rfl)
theorem pl48 : PL Tryz.prog 48 [(0, 1), (1, 1)] := PL.of U48 (by kernel_rfl)
theorem pl64 : PL Tryz.prog 64 [(0, 1), (1, 1)] := PL.of U64 (by kernel_rfl)
theorem pl70 : PL Tryz.prog 70 [(0, 1), (1, 1), (2, 6)] := PL.of U70 (by kernel_rfl)
structure PlayI (B : Frag) (T : Tb) (ms : List Dc) (fs : List (List UInt8)) (Am Af : Option Addr) (n : Nat) : Prop where
  tab : TabOk B T
  md : MdR B Am ms
  fd : RoS B 1 Af fs.length (fs.map str)
  same : SameD T.ds ms
  srt : SrtD ms
  fx : (T.xs.map (·.f)).Perm fs
  ml : ms.length ≤ n
  fl : fs.length ≤ n
theorem PlayI.mono {B B' : Frag} {T : Tb} {ms : List Dc} {fs : List (List UInt8)} {Am Af : Option Addr} {n n' : Nat} (h : PlayI B T ms fs Am Af n) (hB : B.le B') (hn : n ≤ n') : PlayI B' T ms fs Am Af n' :=
  ⟨h.tab.mono hB, h.md.mono hB, h.fd.mono hB, h.same, h.srt, h.fx, Nat.le_trans h.ml hn, Nat.le_trans h.fl hn⟩
theorem same_ct (T : Tb) (ms : List Dc) (fs : List (List UInt8)) (Am Af : Option Addr) (cm cf : Nat) (f lo hi : List UInt8) (B : Frag) (hT : TabOk B T) (hm : MdR B Am ms) (hfs : RoE B Af fs.length (fs.map str)) (hS : SameD T.ds ms) (hs : SrtD ms) (hf : (T.xs.map (·.f)).Perm fs) (hml : ms.length ≤ 1000) (hfl : fs.length ≤ 1000) :
    CtC Tryz.prog 27 [.pointer (some ⟨T.b, 0, none⟩), .agg [.slice Am ms.length cm, .slice Af fs.length cf].toArray, str f, .agg [str lo, str hi].toArray] B (tab T) (.bool true) (tab T) :=
  CtC.lendB (Go.SL.enters_of Tryz.func27 rfl (by kernel_rfl)) fun k hk ha => same_ro T ms fs Am Af cm cf f lo hi _ (hT.mono (Frag.le_un B k)) (tab_ro hT hk ha) (hm.mono (Frag.le_un B k)) (hfs.mono (Frag.le_un B k)) hS hs hf hml hfl
theorem withD_len (d : Dc) (ms : List Dc) : (withD d ms).length ≤ ms.length + 1 := by
  unfold withD; rw [insD_len]; have := dropD_len (n := d.n) (ds := ms); omega
def V6 : V := .mk 6 false 0 [] [] []
theorem V6_val {B : Frag} : ValR B 4 V6 (vcs V6 none 0 none 0) := ValR.leaf (d := 3) ⟨by decide, by decide, by decide⟩
theorem V6_check : checkF 4 V6 1 = 0 := chk6 (by omega) (by decide) (by decide) (namesB_yes ⟨fun i hi => absurd hi (by show ¬ i < 0; omega), fun _ => rfl⟩) fun k hk => absurd hk (by show ¬ k < 0; omega)
theorem V6_byt : (bytesF 4 V6).length ≤ 1024 := by
  have e : bytesF 4 V6 = preB (bytesF 3) V6 0 := by unfold bytesF; rw [if_neg (by decide), if_neg (by decide), if_neg (by decide), if_pos (by decide)]; rfl
  rw [e]; unfold preB
  have h9 : (uvL (BitVec.ofInt 64 ((V6.parts.length : Nat) : Int))).length ≤ 11 := uvF_len 10 _
  simp only [List.length_append, List.length_singleton, List.range_zero, List.flatMap_nil, List.length_nil]
  omega
theorem ver_wrap {i : Nat} (h : i ≤ 40) : IntKind.u64.wrap ((i : Nat) : Int) = (((BitVec.ofNat 64 i).toNat : Nat) : Int) := by
  rw [wrapU64 (by omega) (by omega), BitVec.toNat_ofNat, Nat.mod_eq_of_lt (by omega)]
theorem strs_all (fs : List (List UInt8)) : (fs.map str).all (·.oneCell') = true := by
  induction fs with
  | nil => rfl
  | cons f fs ih => rw [List.map_cons, List.all_cons, ih]; rfl
set_option maxHeartbeats 16000000 in
theorem RowsPlay_ct (l : List Ac) (A : Option Addr) (c : Nat) (f lo hi : List UInt8) (B : Frag) (hM : MaxLenIn B) (hl : l.length ≤ 9223372036854775807) (hR : 0 < l.length → RoS B 9 A l.length (l.flatMap acv)) (hv : ∀ a ∈ l, AcOk B a) : CtB Tryz.prog 6 [.slice A l.length c, str f, .agg [str lo, str hi].toArray] B (fun v _ => v = .bool true) := by
 refine CtB.of_body Tryz.func6 rfl (nt := 158) rfl (by kernel_rfl) rfl ?_
 intro N0 w0 R
 refine Cx.seq (fun K1 k1 => ?_)
 refine Cx.region ?_
 refine Lx.new (boxA rfl) rfl (fun b5 => ?_)
 refine Lx.y (asg rfl) rfl <| Lx.nil <| ?_
 refine Xx.tn (k1 _ _ _ _ ?_)
 refine Cx.seq (fun K2 k2 => ?_)
 refine Cx.region ?_
 refine Lx.c rfl rfl rfl (RNew_ct _) ((one_star _).symm) rfl ?_
 rintro v B3 H3 ⟨hBB, T0, rfl, rfl, hdT, hxT, hT0⟩ hB3
 have hBB2 := hBB.symm
 subst hBB2
 clear hB3
 refine Lx.y (bld ti64 pl64 rfl rfl) rfl ?_
 refine Lx.new (allocO ti64) rfl (fun b8 => ?_)
 refine Lx.y (asg rfl) rfl ?_
 refine Lx.st (stA (d := .bool) sz64 rfl rfl rfl rfl (by show 0 + 2 ≤ 2; omega) rfl) ?_
 refine Lx.nil ?_
 refine Xx.tn (k2 _ _ _ _ ?_)
 refine Cx.seq (fun K3 k3 => ?_)
 refine Cx.seq (fun K4 k4 => ?_)
 refine Cx.region <| Lx.y (asg rfl) rfl <| Lx.nil <| ?_
 refine Xx.tn (k4 _ _ _ _ ?_)
 refine Cx.block ?_
 refine Cx.loopK (Sc 0 rfl (Sc 1 rfl (Sc 2 rfl (Sc 5 rfl (Sc 8 rfl (Sc 20 rfl (Sc 21 rfl (Sub.nil _)))))))) (fun m ρ' B' H' => ∃ (i : Nat) (T : Tb) (ms : List Dc) (fs : List (List UInt8)) (Am Af : Option Addr) (cm cf : Nat) (B2 : Frag), (i ≤ l.length ∧ i ≤ 40 ∧ PlayI B2 T ms fs Am Af i ∧ B.le B2) ∧ m = 40 - i ∧ ρ' = [(7, .pointer (some ⟨T.b, 0, none⟩)), (9, i64 i)] ∧ B2 = B' ∧ tab T * (row b8 64 [.slice Am ms.length cm, .slice Af fs.length cf] * (row b5 48 [str lo, str hi] * R)) = H') ⟨0, T0, [], [], none, none, _, _, _, ⟨Nat.zero_le _, Nat.zero_le _, ⟨hT0, ⟨RoS.nil _ 8, fun d hd => by cases hd⟩, RoS.nil _ 1, by rw [hdT]; exact List.Perm.refl _, List.Pairwise.nil, by rw [hxT]; exact List.Perm.refl _, Nat.le_refl _, Nat.le_refl _⟩, Frag.le_refl _⟩, rfl, rfl, rfl, by ac_rfl⟩ (Sc 7 rfl (Sc 9 rfl (Sc 0 rfl (Sc 1 rfl (Sc 2 rfl (Sc 5 rfl (Sc 8 rfl (Sc 20 rfl (Sc 21 rfl (Sub.nil _)))))))))) ?_
 rintro m ρ' B' H' ⟨i, T, ms, fs, Am, Af, cm, cf, B2, ⟨hi1, hi2, hP, hB2⟩, rfl, rfl, rfl, rfl⟩
 refine Cx.seq (fun K5 k5 => ?_)
 refine Cx.seq (fun K6 k6 => ?_)
 refine Cx.region <| Lx.y (mv rfl) rfl <| Lx.y (mv rfl) rfl <| Lx.y (lenV (ty' := 0) U46 rfl) rfl <| Lx.y (lss rfl rfl) rfl <| Lx.y (mv rfl) rfl <| ?_
 refine Xx.ifD (t := 26) rfl (fun h7 => ?_) (fun h7 => ?_)
 ·
  have hlt := h7
  have hlt : i < l.length := by omega
  refine Lx.gT rfl rfl rfl <| Lx.y (mv rfl) rfl <| Lx.gT rfl rfl rfl <| Lx.y (lss rfl rfl) rfl <| Lx.y (pickT rfl rfl) rfl <| Lx.nil <| ?_
  refine Xx.tn (k6 _ _ _ _ ?_)
  refine Cx.condD rfl (fun h8 => ?_) (fun h8 => ?_)
  ·
   have hlt3 := h8
   have hlt3 : i < 40 := by omega
   obtain ⟨ba, oa, csa, eta, fza, rfl, hBa, hca⟩ := ac_at (fun a ha => (hv a ha).1) hR hlt
   have hBa := hB2 _ _ hBa
   obtain ⟨h6, d9, hva⟩ := (hv _ (List.getElem_mem hlt)).mono hB2
   obtain ⟨Ap3, cp3, An3, cn3, hsh⟩ := ValR.shape hva
   rw [hsh] at hva
   have hca : (csa.drop (oa + i * 9)).take 9 = [i64 l[i].kind, u64 l[i].doc, i64 l[i].v.kind, .bool l[i].v.b, i64 l[i].v.n, str l[i].v.s, .slice Ap3 l[i].v.parts.length cp3, .slice An3 l[i].v.names.length cn3, str l[i].f] := by rw [hca]; unfold acv; rw [hsh]; rfl
   have hM2 := hM.mono hB2
   have hTl := hP.same.len
   have hml := hP.ml
   have hfl := hP.fl
   refine Cx.skip ?_
   refine Xx.tn (k5 _ _ _ _ ?_)
   refine Cx.seq (fun K9 k9 => ?_)
   refine Cx.block ?_
   refine Cx.seq (fun K10 k10 => ?_)
   refine Cx.region <| Lx.y (mv rfl) rfl <| Lx.y (mv rfl) rfl <| Lx.y (ia U46 sz51 rfl rfl (Int.toNat_natCast _) (by omega) (by omega)) rfl <| Lx.y (ldA U51 rfl sz51 rfl (Cells.base (n := 9) hBa hca) rfl) rfl <| ?_
   refine Lx.new (allocO ti51) rfl (fun b10 => ?_)
   refine Lx.st (stA (d := .bool) sz51 rfl rfl rfl rfl (by show 0 + 9 ≤ 9; omega) rfl) ?_
   refine Lx.nil ?_
   refine Xx.tn (k10 _ _ _ _ ?_)
   refine Cx.cutK (ds' := []) (Sc 0 rfl (Sc 1 rfl (Sc 2 rfl (Sc 5 rfl (Sc 8 rfl (Sc 9 rfl (Sc 10 rfl (Sc 20 rfl (Sc 21 rfl (Sc 22 rfl (Sc 23 rfl (Sc 24 rfl (Sc 25 rfl (Sc 26 rfl (Sc 27 rfl (Sc 28 rfl (Sc 29 rfl (Sc 32 rfl (Sc 33 rfl (Sc 34 rfl (Sc 35 rfl (Sub.nil _)))))))))))))))))))))) (fun ρ' B' H' => ∃ T9 ms9 fs9 Am9 Af9 cm9 cf9 B4, ρ' = [(7, .pointer (some ⟨Tb.b T9, 0, none⟩))] ∧ B4 = B' ∧ tab T9 * (row b8 64 [.slice Am9 (List.length ms9) cm9, .slice Af9 (List.length fs9) cf9] * (row b10 51 [i64 l[i].kind, u64 l[i].doc, i64 l[i].v.kind, .bool l[i].v.b, i64 l[i].v.n, str l[i].v.s, .slice Ap3 l[i].v.parts.length cp3, .slice An3 l[i].v.names.length cn3, str l[i].f] * (row b5 48 [str lo, str hi] * R))) = H' ∧ PlayI B4 T9 ms9 fs9 Am9 Af9 (i + 1) ∧ B2.le B4) ?_ ?_
   ·
    refine Cx.seq (fun K11 k11 => ?_)
    refine Cx.region <| Lx.y (fa' fo51_0 rfl) rfl <| Lx.y (ld U3 rfl rfl rfl) rfl <| Lx.nil <| ?_
    refine Xx.tn (k11 _ _ _ _ ?_)
    refine Cx.block ?_
    refine Cx.seq (fun K12 k12 => ?_)
    refine Cx.region <| Lx.y (eqI rfl rfl) rfl <| Lx.y (asg rfl) rfl <| Lx.nil <| ?_
    refine Xx.tn (k12 _ _ _ _ ?_)
    refine Cx.condD rfl (fun h13 => ?_) (fun h13 => ?_)
    ·
     have hk3 := h13
     refine Cx.seq (fun K14 k14 => ?_)
     refine Cx.region <| Lx.y (fa' fo64_0 rfl) rfl <| Lx.y (ld U62 rfl rfl rfl) rfl <| Lx.y (fa' fo51_1 rfl) rfl <| Lx.y (ld U34 rfl rfl rfl) rfl <| ?_
     refine Lx.cb rfl rfl rfl (without_ct ms Am cm l[i].doc _ hP.md (by omega)) rfl ?_
     rintro r1 B3 ⟨A7, c7, rfl, hmd7⟩ hB3
     refine Lx.y (mv rfl) rfl <| Lx.y (ext rfl rfl) rfl <| Lx.y (ext rfl rfl) rfl <| Lx.y (asg rfl) rfl <| Lx.y (asg rfl) rfl <| Lx.nil <| ?_
     refine Xx.tn (k14 _ _ _ _ ?_)
     refine Cx.seq (fun K16 k16 => ?_)
     refine Cx.region <| Lx.y (mv rfl) rfl <| Lx.y (fa' fo64_0 rfl) rfl <| ?_
     refine Lx.st (stO U62 sz62 rfl rfl rfl (by simp) rfl) ?_
     refine Lx.nil ?_
     refine Xx.tn (k16 _ _ _ _ ?_)
     refine Cx.seq (fun K17 k17 => ?_)
     refine Cx.region <| Lx.y (mv rfl) rfl <| Lx.y (fa' fo51_1 rfl) rfl <| Lx.y (ld U34 rfl rfl rfl) rfl <| ?_
     refine Lx.c rfl rfl rfl (RDrop_ct T l[i].doc _ (hP.tab.mono hB3) (hM2.mono hB3) (by omega)) (Pick.eq) rfl ?_
     rintro r6 B6 H6 ⟨hBB, T2, rfl, rfl, hT2, hb2, hd2, hx2⟩ hB6
     have hBB2 := hBB.symm
     subst hBB2
     clear hB6
     refine Lx.y (mv rfl) rfl <| Lx.y (Yx.ff (neB U4 rfl rfl) (by have h9 : decide (∃ d ∈ T.ds, d.n = l[i].doc) = decide (∃ d ∈ ms, d.n = l[i].doc) := decide_eq_decide.2 (hP.same.has l[i].doc); rw [h9]; simp)) rfl <| Lx.nil <| ?_
     refine Xx.tn (k17 _ _ _ _ ?_)
     refine Cx.condF rfl <| Cx.skip <| Xx.bn <| ?_
     exact Xx.mkK (⟨T2, dropD l[i].doc ms, fs, A7, Af, c7, cf, _, by rw [hb2], rfl, by ac_rfl, ⟨hT2, hmd7, hP.fd.mono hB3, by rw [hd2]; exact hP.same.drop _, hP.srt.drop, by rw [hx2]; exact hP.fx, Nat.le_trans dropD_len (by omega), by omega⟩, hB3⟩) (Sc 7 rfl (Sc 0 rfl (Sc 1 rfl (Sc 2 rfl (Sc 5 rfl (Sc 8 rfl (Sc 9 rfl (Sc 10 rfl (Sc 20 rfl (Sc 21 rfl (Sc 22 rfl (Sc 23 rfl (Sc 24 rfl (Sc 25 rfl (Sc 26 rfl (Sc 27 rfl (Sc 28 rfl (Sc 29 rfl (Sc 32 rfl (Sc 33 rfl (Sc 34 rfl (Sc 35 rfl (Sub.nil _)))))))))))))))))))))))
    ·
     have hk3 := h13
     refine Cx.seq (fun K18 k18 => ?_)
     refine Cx.region <| Lx.y (eqI rfl rfl) rfl <| Lx.y (asg rfl) rfl <| Lx.nil <| ?_
     refine Xx.tn (k18 _ _ _ _ ?_)
     refine Cx.condD rfl (fun h19 => ?_) (fun h19 => ?_)
     ·
      have hk4 := h19
      refine Cx.seq (fun K20 k20 => ?_)
      refine Cx.region <| Lx.y (fa' fo64_1 rfl) rfl <| Lx.y (ld U23 rfl rfl rfl) rfl <| Lx.y (fa' fo51_3 rfl) rfl <| Lx.y (ld U9 rfl rfl rfl) rfl <| ?_
      refine Lx.cp rfl rfl rfl (has_ct fs Af cf l[i].f _ (RoS.roe hP.fd) (by omega)) rfl ?_
      refine Lx.y (not' rfl) rfl <| Lx.y (asg rfl) rfl <| Lx.nil <| ?_
      refine Xx.tn (k20 _ _ _ _ ?_)
      refine Cx.cutK (ds' := []) (Sc 0 rfl (Sc 1 rfl (Sc 2 rfl (Sc 5 rfl (Sc 7 rfl (Sc 8 rfl (Sc 9 rfl (Sc 10 rfl (Sc 13 rfl (Sc 20 rfl (Sc 21 rfl (Sc 22 rfl (Sc 23 rfl (Sc 24 rfl (Sc 25 rfl (Sc 26 rfl (Sc 27 rfl (Sc 28 rfl (Sc 29 rfl (Sc 32 rfl (Sc 33 rfl (Sc 34 rfl (Sc 35 rfl (Sc 36 rfl (Sc 37 rfl (Sc 63 rfl (Sc 64 rfl (Sc 81 rfl (Sc 82 rfl (Sc 83 rfl (Sc 84 rfl (Sc 85 rfl (Sc 86 rfl (Sc 87 rfl (Sc 88 rfl (Sub.nil _)))))))))))))))))))))))))))))))))))) (fun ρ' B' H' => ∃ fs2 Af2 cf2 B3, ρ' = [] ∧ B3 = B' ∧ tab T * (row b8 64 [.slice Am ms.length cm, .slice Af2 fs2.length cf2] * (row b10 51 [i64 l[i].kind, u64 l[i].doc, i64 l[i].v.kind, .bool l[i].v.b, i64 l[i].v.n, str l[i].v.s, .slice Ap3 l[i].v.parts.length cp3, .slice An3 l[i].v.names.length cn3, str l[i].f] * (row b5 48 [str lo, str hi] * R))) = H' ∧ RoS B3 1 Af2 fs2.length (fs2.map str) ∧ fs2 = (if l[i].f ∈ fs then fs else fs ++ [l[i].f]) ∧ B2.le B3) ?_ ?_
      ·
       refine Cx.seq (fun K21 k21 => ?_)
       refine Cx.region <| Lx.y (mv rfl) rfl <| Lx.nil <| ?_
       refine Xx.tn (k21 _ _ _ _ ?_)
       refine Cx.condB rfl (fun h22 => ?_) (fun h22 => ?_)
       ·
        have hnf := h22
        have hnf : l[i].f ∉ fs := by simpa using hnf
        have hnT : l[i].f ∉ T.xs.map (·.f) := fun h9 => hnf (hP.fx.mem_iff.1 h9)
        refine Cx.drawn (by kernel_rfl) ?_
        refine Dx.p (i := 1) rfl (by kernel_rfl) (fa' fo64_1 rfl) rfl ?_
        refine Dx.r (i := 2) rfl (by kernel_rfl) (ld U23 rfl rfl rfl) rfl ?_
        refine Dx.p (i := 4) rfl (by kernel_rfl) (fa' fo51_3 rfl) rfl ?_
        refine Dx.r (i := 5) rfl (by kernel_rfl) (ld U9 rfl rfl rfl) rfl ?_
        refine Dx.two (i := 0) (j := 6) (by kernel_rfl) ?_ ?_
        ·
         refine Dstep.o (i := 0) rfl (bslZ U23 ti9) rfl (fun v B' H' hΦ hB => ?_)
         obtain ⟨bz, rfl, hBB, rfl⟩ := hΦ
         have hBB2 := hBB.symm
         subst hBB2
         clear hB
         refine ⟨JOk.yes (JOk.yes (JOk.top) (ld U23 rfl rfl rfl)) (ld U9 rfl rfl rfl), ?_⟩
         refine Dx.two (i := 3) (j := 6) (by kernel_rfl) ?_ ?_
         ·
          refine Dstep.o (i := 3) rfl (appC U23 U23 ti9 rfl rfl (.inr hP.fd) (strs_all fs) (by omega) (by omega)) rfl (fun v B' H' hΦ hB => ?_)
          obtain ⟨A1, c1, rfl, hc1, hBB, rfl⟩ := hΦ
          have hBB2 := hBB.symm
          subst hBB2
          clear hB
          refine ⟨JOk.yes (JOk.edge (JOk.top) (by kernel_rfl)) (ld U9 rfl rfl rfl), ?_⟩
          refine Dx.one (i := 6) (by kernel_rfl) ?_
          refine Dstep.o (i := 6) rfl (bsl1 U23 ti9 rfl rfl rfl (by decide)) rfl (fun v B' H' hΦ hB => ?_)
          obtain ⟨bp, rfl, hBB, rfl⟩ := hΦ; have hBB2 := hBB.symm; subst hBB2; clear hB
          refine ⟨JOk.edge (JOk.yes (JOk.top) (ld U23 rfl rfl rfl)) (by kernel_rfl), ?_⟩
          refine Dx.one (i := 7) (by kernel_rfl) ?_
          refine Dstep.o (i := 7) rfl (appN (A := A1) (fs.length + 1) [str l[i].f] ((fs ++ [l[i].f]).map str) U23 U23 ti9 rfl rfl rfl rfl rfl (by omega) (by omega) rfl (by simp)) rfl (fun v B' H' hΦ hB => ?_)
          obtain ⟨A2, c2, rfl, hA2, hl2, hc2, hBB, rfl⟩ := hΦ
          have hBB2 := hBB.symm
          subst hBB2
          clear hB
          refine ⟨JOk.yes (JOk.yes (JOk.top) (ld U23 rfl rfl rfl)) (ld U9 rfl rfl rfl), ?_⟩
          refine Dx.p (i := 8) rfl (by kernel_rfl) (fa' fo64_1 rfl) rfl ?_
          refine Dx.one (i := 9) (by kernel_rfl) ?_
          refine Dstep.o0 (i := 9) rfl (stO U23 sz23 rfl rfl rfl (by simp) rfl) (fun v B' H' hΦ hB => ?_)
          obtain ⟨hBB, rfl⟩ := hΦ; have hBB2 := hBB.symm; subst hBB2; clear hB v
          refine ⟨JOk.edge (JOk.edge (JOk.top) (by kernel_rfl)) (by kernel_rfl), ?_⟩
          refine Dx.done (by kernel_rfl) ?_
          refine Xx.dropB bp ?_
          refine Xx.freezeT A2 fun B3 hB3 hRo3 hnc3 _ => ?_
          exact Xx.mkK (⟨fs ++ [l[i].f], A2, c2, B3, rfl, rfl, by rw [List.length_append, List.length_singleton]; ac_rfl, by rw [List.length_append, List.length_singleton]; exact hRo3, by rw [if_neg hnf], hB3⟩) (Sc 0 rfl (Sc 1 rfl (Sc 2 rfl (Sc 5 rfl (Sc 7 rfl (Sc 8 rfl (Sc 9 rfl (Sc 10 rfl (Sc 13 rfl (Sc 20 rfl (Sc 21 rfl (Sc 22 rfl (Sc 23 rfl (Sc 24 rfl (Sc 25 rfl (Sc 26 rfl (Sc 27 rfl (Sc 28 rfl (Sc 29 rfl (Sc 32 rfl (Sc 33 rfl (Sc 34 rfl (Sc 35 rfl (Sc 36 rfl (Sc 37 rfl (Sc 63 rfl (Sc 64 rfl (Sc 81 rfl (Sc 82 rfl (Sc 83 rfl (Sc 84 rfl (Sc 85 rfl (Sc 86 rfl (Sc 87 rfl (Sc 88 rfl (Sub.nil _))))))))))))))))))))))))))))))))))))
         refine Dstep.o (i := 6) rfl (bsl1 U23 ti9 rfl rfl rfl (by decide)) rfl (fun v B' H' hΦ hB => ?_)
         obtain ⟨bp, rfl, hBB, rfl⟩ := hΦ; have hBB2 := hBB.symm; subst hBB2; clear hB
         refine ⟨JOk.edge (JOk.yes (JOk.top) (ld U23 rfl rfl rfl)) (by kernel_rfl), ?_⟩
         refine Dx.one (i := 3) (by kernel_rfl) ?_
         refine Dstep.o (i := 3) rfl (appC U23 U23 ti9 rfl rfl (.inr hP.fd) (strs_all fs) (by omega) (by omega)) rfl (fun v B' H' hΦ hB => ?_)
         obtain ⟨A1, c1, rfl, hc1, hBB, rfl⟩ := hΦ
         have hBB2 := hBB.symm
         subst hBB2
         clear hB
         refine ⟨JOk.yes (JOk.edge (JOk.top) (by kernel_rfl)) (ld U9 rfl rfl rfl), ?_⟩
         refine Dx.one (i := 7) (by kernel_rfl) ?_
         refine Dstep.o (i := 7) rfl (appN (A := A1) (fs.length + 1) [str l[i].f] ((fs ++ [l[i].f]).map str) U23 U23 ti9 rfl rfl rfl rfl rfl (by omega) (by omega) rfl (by simp)) rfl (fun v B' H' hΦ hB => ?_)
         obtain ⟨A2, c2, rfl, hA2, hl2, hc2, hBB, rfl⟩ := hΦ
         have hBB2 := hBB.symm
         subst hBB2
         clear hB
         refine ⟨JOk.yes (JOk.yes (JOk.top) (ld U23 rfl rfl rfl)) (ld U9 rfl rfl rfl), ?_⟩
         refine Dx.p (i := 8) rfl (by kernel_rfl) (fa' fo64_1 rfl) rfl ?_
         refine Dx.one (i := 9) (by kernel_rfl) ?_
         refine Dstep.o0 (i := 9) rfl (stO U23 sz23 rfl rfl rfl (by simp) rfl) (fun v B' H' hΦ hB => ?_)
         obtain ⟨hBB, rfl⟩ := hΦ; have hBB2 := hBB.symm; subst hBB2; clear hB v
         refine ⟨JOk.edge (JOk.edge (JOk.top) (by kernel_rfl)) (by kernel_rfl), ?_⟩
         refine Dx.done (by kernel_rfl) ?_
         refine Xx.dropB bp ?_
         refine Xx.freezeT A2 fun B3 hB3 hRo3 hnc3 _ => ?_
         exact Xx.mkK (⟨fs ++ [l[i].f], A2, c2, B3, rfl, rfl, by rw [List.length_append, List.length_singleton]; ac_rfl, by rw [List.length_append, List.length_singleton]; exact hRo3, by rw [if_neg hnf], hB3⟩) (Sc 0 rfl (Sc 1 rfl (Sc 2 rfl (Sc 5 rfl (Sc 7 rfl (Sc 8 rfl (Sc 9 rfl (Sc 10 rfl (Sc 13 rfl (Sc 20 rfl (Sc 21 rfl (Sc 22 rfl (Sc 23 rfl (Sc 24 rfl (Sc 25 rfl (Sc 26 rfl (Sc 27 rfl (Sc 28 rfl (Sc 29 rfl (Sc 32 rfl (Sc 33 rfl (Sc 34 rfl (Sc 35 rfl (Sc 36 rfl (Sc 37 rfl (Sc 63 rfl (Sc 64 rfl (Sc 81 rfl (Sc 82 rfl (Sc 83 rfl (Sc 84 rfl (Sc 85 rfl (Sc 86 rfl (Sc 87 rfl (Sc 88 rfl (Sub.nil _))))))))))))))))))))))))))))))))))))
        refine Dstep.o (i := 6) rfl (bsl1 U23 ti9 rfl rfl rfl (by decide)) rfl (fun v B' H' hΦ hB => ?_)
        obtain ⟨bp, rfl, hBB, rfl⟩ := hΦ; have hBB2 := hBB.symm; subst hBB2; clear hB
        refine ⟨JOk.edge (JOk.yes (JOk.top) (ld U23 rfl rfl rfl)) (by kernel_rfl), ?_⟩
        refine Dx.one (i := 0) (by kernel_rfl) ?_
        refine Dstep.o (i := 0) rfl (bslZ U23 ti9) rfl (fun v B' H' hΦ hB => ?_)
        obtain ⟨bz, rfl, hBB, rfl⟩ := hΦ
        have hBB2 := hBB.symm
        subst hBB2
        clear hB
        refine ⟨JOk.yes (JOk.yes (JOk.top) (ld U23 rfl rfl rfl)) (ld U9 rfl rfl rfl), ?_⟩
        refine Dx.one (i := 3) (by kernel_rfl) ?_
        refine Dstep.o (i := 3) rfl (appC U23 U23 ti9 rfl rfl (.inr hP.fd) (strs_all fs) (by omega) (by omega)) rfl (fun v B' H' hΦ hB => ?_)
        obtain ⟨A1, c1, rfl, hc1, hBB, rfl⟩ := hΦ
        have hBB2 := hBB.symm
        subst hBB2
        clear hB
        refine ⟨JOk.yes (JOk.edge (JOk.top) (by kernel_rfl)) (ld U9 rfl rfl rfl), ?_⟩
        refine Dx.one (i := 7) (by kernel_rfl) ?_
        refine Dstep.o (i := 7) rfl (appN (A := A1) (fs.length + 1) [str l[i].f] ((fs ++ [l[i].f]).map str) U23 U23 ti9 rfl rfl rfl rfl rfl (by omega) (by omega) rfl (by simp)) rfl (fun v B' H' hΦ hB => ?_)
        obtain ⟨A2, c2, rfl, hA2, hl2, hc2, hBB, rfl⟩ := hΦ
        have hBB2 := hBB.symm
        subst hBB2
        clear hB
        refine ⟨JOk.yes (JOk.yes (JOk.top) (ld U23 rfl rfl rfl)) (ld U9 rfl rfl rfl), ?_⟩
        refine Dx.p (i := 8) rfl (by kernel_rfl) (fa' fo64_1 rfl) rfl ?_
        refine Dx.one (i := 9) (by kernel_rfl) ?_
        refine Dstep.o0 (i := 9) rfl (stO U23 sz23 rfl rfl rfl (by simp) rfl) (fun v B' H' hΦ hB => ?_)
        obtain ⟨hBB, rfl⟩ := hΦ; have hBB2 := hBB.symm; subst hBB2; clear hB v
        refine ⟨JOk.edge (JOk.edge (JOk.top) (by kernel_rfl)) (by kernel_rfl), ?_⟩
        refine Dx.done (by kernel_rfl) ?_
        refine Xx.dropB bp ?_
        refine Xx.freezeT A2 fun B3 hB3 hRo3 hnc3 _ => ?_
        exact Xx.mkK (⟨fs ++ [l[i].f], A2, c2, B3, rfl, rfl, by rw [List.length_append, List.length_singleton]; ac_rfl, by rw [List.length_append, List.length_singleton]; exact hRo3, by rw [if_neg hnf], hB3⟩) (Sc 0 rfl (Sc 1 rfl (Sc 2 rfl (Sc 5 rfl (Sc 7 rfl (Sc 8 rfl (Sc 9 rfl (Sc 10 rfl (Sc 13 rfl (Sc 20 rfl (Sc 21 rfl (Sc 22 rfl (Sc 23 rfl (Sc 24 rfl (Sc 25 rfl (Sc 26 rfl (Sc 27 rfl (Sc 28 rfl (Sc 29 rfl (Sc 32 rfl (Sc 33 rfl (Sc 34 rfl (Sc 35 rfl (Sc 36 rfl (Sc 37 rfl (Sc 63 rfl (Sc 64 rfl (Sc 81 rfl (Sc 82 rfl (Sc 83 rfl (Sc 84 rfl (Sc 85 rfl (Sc 86 rfl (Sc 87 rfl (Sc 88 rfl (Sub.nil _))))))))))))))))))))))))))))))))))))
       ·
        have hnf := h22
        have hnf : l[i].f ∈ fs := by simpa using hnf
        have hnT : l[i].f ∈ T.xs.map (·.f) := hP.fx.mem_iff.2 hnf
        refine Cx.skip ?_
        exact Xx.mkK (⟨fs, Af, cf, B2, rfl, rfl, by ac_rfl, hP.fd, by rw [if_pos hnf], Frag.le_refl _⟩) (Sc 0 rfl (Sc 1 rfl (Sc 2 rfl (Sc 5 rfl (Sc 7 rfl (Sc 8 rfl (Sc 9 rfl (Sc 10 rfl (Sc 13 rfl (Sc 20 rfl (Sc 21 rfl (Sc 22 rfl (Sc 23 rfl (Sc 24 rfl (Sc 25 rfl (Sc 26 rfl (Sc 27 rfl (Sc 28 rfl (Sc 29 rfl (Sc 32 rfl (Sc 33 rfl (Sc 34 rfl (Sc 35 rfl (Sc 36 rfl (Sc 37 rfl (Sc 63 rfl (Sc 64 rfl (Sc 81 rfl (Sc 82 rfl (Sc 83 rfl (Sc 84 rfl (Sc 85 rfl (Sc 86 rfl (Sc 87 rfl (Sc 88 rfl (Sub.nil _))))))))))))))))))))))))))))))))))))
      ·rintro ρ' B' H' ⟨fs2, Af2, cf2, B3, rfl, rfl, rfl, hfd2, hfe2, hB3⟩
       refine Cx.seq (fun K23 k23 => ?_)
       refine Cx.region <| Lx.y (mv rfl) rfl <| Lx.y (fa' fo51_3 rfl) rfl <| Lx.y (ld U9 rfl rfl rfl) rfl <| ?_
       refine Lx.c rfl rfl rfl (RAdd_ct T l[i].f _ (hP.tab.mono hB3) (hM2.mono hB3) (by omega)) (Pick.eq) rfl ?_
       rintro r6 B6 H6 ⟨hBB, T2, rfl, rfl, hT2, hb2, hd2, hx2⟩ hB6
       have hBB2 := hBB.symm
       subst hBB2
       clear hB6
       have hff : decide (l[i].f ∉ T.xs.map (·.f)) = !decide (l[i].f ∈ fs) := by rw [← decide_not]; exact decide_eq_decide.2 (not_congr hP.fx.mem_iff)
       refine Lx.y (mv rfl) rfl <| Lx.y (Yx.ff (neB U4 rfl rfl) (by rw [hff]; simp)) rfl <| Lx.nil <| ?_
       refine Xx.tn (k23 _ _ _ _ ?_)
       refine Cx.condF rfl <| Cx.skip <| Xx.bn <| ?_
       exact Xx.mkK (⟨T2, ms, fs2, Am, Af2, cm, cf2, _, by rw [hb2], rfl, by ac_rfl, ⟨hT2, hP.md.mono hB3, hfd2, by rw [hd2]; exact hP.same, hP.srt, by rw [hx2, hfe2]; split <;> rename_i h9; rw [if_pos (hP.fx.mem_iff.1 h9)]; exact hP.fx; rw [if_neg (fun h8 => h9 (hP.fx.mem_iff.2 h8))]; exact hP.fx.append_right _, by omega, by rw [hfe2]; split; omega; rw [List.length_append, List.length_singleton]; omega⟩, hB3⟩) (Sc 7 rfl (Sc 0 rfl (Sc 1 rfl (Sc 2 rfl (Sc 5 rfl (Sc 8 rfl (Sc 9 rfl (Sc 10 rfl (Sc 20 rfl (Sc 21 rfl (Sc 22 rfl (Sc 23 rfl (Sc 24 rfl (Sc 25 rfl (Sc 26 rfl (Sc 27 rfl (Sc 28 rfl (Sc 29 rfl (Sc 32 rfl (Sc 33 rfl (Sc 34 rfl (Sc 35 rfl (Sub.nil _)))))))))))))))))))))))
     ·
      have hk4 := h19
      refine Cx.seq (fun K24 k24 => ?_)
      refine Cx.region <| Lx.y (eqI rfl rfl) rfl <| Lx.y (asg rfl) rfl <| Lx.nil <| ?_
      refine Xx.tn (k24 _ _ _ _ ?_)
      refine Cx.condD rfl (fun h25 => ?_) (fun h25 => ?_)
      ·
       have hk5 := h25
       refine Cx.seq (fun K26 k26 => ?_)
       refine Cx.region <| Lx.y (mv rfl) rfl <| ?_
       refine Lx.c rfl rfl rfl (RClone_ct T _ hP.tab hM2 (by omega) (by have h9 := hP.fx.length_eq; rw [List.length_map] at h9; omega)) (Pick.eq) rfl ?_
       rintro r1 B3 H3 ⟨T2, rfl, rfl, hT2, hS2, hx2⟩ hB3
       simp only [star_assoc]
       refine Lx.y (asg rfl) rfl <| Lx.nil <| ?_
       refine Xx.tn (k26 _ _ _ _ ?_)
       refine Cx.seq (fun K27 k27 => ?_)
       refine Cx.region <| Lx.y (mv rfl) rfl <| ?_
       refine Lx.cp rfl rfl rfl (Struct0_ct _) rfl ?_
       refine Lx.y (bld ti36 pl36 rfl rfl) rfl ?_
       refine Lx.c rfl rfl rfl (RPut_ct T 99#64 0#64 V6 (vcs V6 none 0 none 0) _ (hP.tab.mono hB3) (hM2.mono hB3) (by omega) V6_val V6_check V6_byt) (Pick.eq) rfl ?_
       rintro r6 B6 H6 ⟨rfl, T9, rfl, _⟩ hB6
       refine Lx.nil ?_
       refine Xx.tn (k27 _ _ _ _ ?_)
       refine Cx.region <| Lx.y (mv rfl) rfl <| Lx.y (asg rfl) rfl <| Lx.nil <| Xx.bn <| ?_
       refine Xx.perm (H' := tab T9 * (tab T2 * (row b8 64 [.slice Am ms.length cm, .slice Af fs.length cf] * (row b10 51 [i64 l[i].kind, u64 l[i].doc, i64 l[i].v.kind, .bool l[i].v.b, i64 l[i].v.n, str l[i].v.s, .slice Ap3 l[i].v.parts.length cp3, .slice An3 l[i].v.names.length cn3, str l[i].f] * (row b5 48 [str lo, str hi] * R))))) ?_ (by ac_rfl)
       refine Xx.drop ?_
       exact Xx.mkK (⟨T2, ms, fs, Am, Af, cm, cf, _, rfl, rfl, by ac_rfl, ⟨hT2.mono hB6, hP.md.mono (Frag.le_trans hB3 hB6), hP.fd.mono (Frag.le_trans hB3 hB6), List.Perm.trans hS2 hP.same, hP.srt, hx2.trans hP.fx, by omega, by omega⟩, Frag.le_trans hB3 hB6⟩) (Sc 7 rfl (Sc 0 rfl (Sc 1 rfl (Sc 2 rfl (Sc 5 rfl (Sc 8 rfl (Sc 9 rfl (Sc 10 rfl (Sc 20 rfl (Sc 21 rfl (Sc 22 rfl (Sc 23 rfl (Sc 24 rfl (Sc 25 rfl (Sc 26 rfl (Sc 27 rfl (Sc 28 rfl (Sc 29 rfl (Sc 32 rfl (Sc 33 rfl (Sc 34 rfl (Sc 35 rfl (Sub.nil _)))))))))))))))))))))))
      ·
       have hk5 := h25
       refine Cx.seq (fun K28 k28 => ?_)
       refine Cx.region <| Lx.y (fa' fo51_2 rfl) rfl <| Lx.y (ldA U25 rfl sz25 rfl (Cells.own (n := 6) PickB.eq (show ([i64 l[i].kind, u64 l[i].doc, i64 l[i].v.kind, .bool l[i].v.b, i64 l[i].v.n, str l[i].v.s, .slice Ap3 l[i].v.parts.length cp3, .slice An3 l[i].v.names.length cn3, str l[i].f].drop 2).take 6 = vcs l[i].v Ap3 cp3 An3 cn3 from rfl)) rfl) rfl <| ?_
       refine Lx.cb rfl rfl rfl (Cut_ct 3 4 l[i].v _ d9 _ (by decide) (by decide) hva) rfl ?_
       rintro v4 B4 ⟨cs4, rfl, hw4⟩ hB4
       obtain ⟨Ap4, cp4, An4, cn4, rfl⟩ := ValR.shape hw4
       refine Lx.new (allocO ti25) rfl (fun b15 => ?_)
       refine Lx.st (stA (d := .bool) sz25 rfl rfl rfl rfl (by show 0 + 6 ≤ 6; omega) rfl) ?_
       refine Lx.nil ?_
       refine Xx.tn (k28 _ _ _ _ ?_)
       refine Cx.seq (fun K30 k30 => ?_)
       refine Cx.seq (fun K31 k31 => ?_)
       refine Cx.region <| Lx.y (ldA U25 rfl sz25 rfl (Cells.own (n := 6) PickB.eq (show ((vcs (cutF 3 4 l[i].v) Ap4 cp4 An4 cn4).drop 0).take 6 = vcs (cutF 3 4 l[i].v) Ap4 cp4 An4 cn4 from rfl)) rfl) rfl <| ?_
       refine Lx.cp rfl rfl rfl (Check_ct 4 (cutF 3 4 l[i].v) _ _ hw4 (fun z => cut_bytes z)) rfl ?_
       refine Lx.y (neI rfl rfl) rfl <| Lx.nil <| ?_
       refine Xx.tn (k31 _ _ _ _ ?_)
       refine Cx.condN rfl (fun h32 => ?_) (fun h32 => ?_)
       ·
        have hz := h32
        refine Cx.exit <| Xx.te <| ?_
        refine Xx.bm rfl ?_
        refine Xx.te <| Xx.bh <| ?_
        refine Xx.tn (k9 _ _ _ _ ?_)
        refine Cx.region <| Lx.y (mv rfl) rfl <| Lx.y (Yx.val (add rfl rfl (by first | exact wrap64 (by omega) (by omega) | rfl)) (show _ = i64 ((i + 1 : Nat) : Int) from rfl)) rfl <| Lx.y (asg rfl) rfl <| Lx.nil <| ?_
        refine Xx.dropB b15 (Xx.dropB b10 ?_)
        exact Xx.againK ⟨i + 1, T, ms, fs, Am, Af, cm, cf, _, ⟨by omega, by omega, hP.mono hB4 (by omega), Frag.le_trans hB2 hB4⟩, rfl, rfl, rfl, (by ac_rfl)⟩ (by omega) (Sc 7 rfl (Sc 9 rfl (Sc 0 rfl (Sc 1 rfl (Sc 2 rfl (Sc 5 rfl (Sc 8 rfl (Sc 20 rfl (Sc 21 rfl (Sub.nil _))))))))))
       ·
        have hz := h32
        have hz : CheckF 4 (cutF 3 4 l[i].v) = 0 := by simpa using hz
        obtain ⟨hck4, hby4⟩ := CheckF_zero hz
        refine Cx.skip ?_
        refine Xx.tn (k30 _ _ _ _ ?_)
        refine Cx.seq (fun K33 k33 => ?_)
        refine Cx.region <| Lx.y (mv rfl) rfl <| Lx.y (fa' fo51_1 rfl) rfl <| Lx.y (ld U34 rfl rfl rfl) rfl <| Lx.y (mv rfl) rfl <| Lx.y (Yx.val (cvI rfl U3 U34 (ver_wrap hi2)) (show _ = u64 (BitVec.ofNat 64 i) from rfl)) rfl <| Lx.y (ldA U25 rfl sz25 rfl (Cells.own (n := 6) PickB.eq (show ((vcs (cutF 3 4 l[i].v) Ap4 cp4 An4 cn4).drop 0).take 6 = vcs (cutF 3 4 l[i].v) Ap4 cp4 An4 cn4 from rfl)) rfl) rfl <| Lx.y (bld ti36 pl36 rfl rfl) rfl <| ?_
        refine Lx.c rfl rfl rfl (RPut_ct T l[i].doc (BitVec.ofNat 64 i) (cutF 3 4 l[i].v) _ _ (hP.tab.mono hB4) (hM2.mono hB4) (by omega) hw4 hck4 hby4) (Pick.eq) rfl ?_
        rintro r6 B5 H6 ⟨rfl, T2, rfl, hT2, hb2, hd2, hx2⟩ hB5
        refine Lx.nil ?_
        refine Xx.tn (k33 _ _ _ _ ?_)
        refine Cx.drawn (by kernel_rfl) ?_
        refine Dx.p (i := 0) rfl (by kernel_rfl) (fa' fo64_0 rfl) rfl ?_
        refine Dx.r (i := 1) rfl (by kernel_rfl) (ld U62 rfl rfl rfl) rfl ?_
        refine Dx.p (i := 2) rfl (by kernel_rfl) (fa' fo51_1 rfl) rfl ?_
        refine Dx.r (i := 3) rfl (by kernel_rfl) (ld U34 rfl rfl rfl) rfl ?_
        refine Dx.p (i := 4) rfl (by kernel_rfl) (mv rfl) rfl ?_
        refine Dx.p (i := 5) rfl (by kernel_rfl) (Yx.val (cvI rfl U3 U34 (ver_wrap hi2)) (show _ = u64 (BitVec.ofNat 64 i) from rfl)) rfl ?_
        refine Dx.r (i := 6) rfl (by kernel_rfl) (ldA U25 rfl sz25 rfl (Cells.own (n := 6) PickB.eq (show ((vcs (cutF 3 4 l[i].v) Ap4 cp4 An4 cn4).drop 0).take 6 = vcs (cutF 3 4 l[i].v) Ap4 cp4 An4 cn4 from rfl)) rfl) rfl ?_
        refine Dx.one (i := 7) (by kernel_rfl) ?_
        refine Dstep.o (i := 7) rfl (Ox.cb rfl rfl rfl (Ref_ct 4 (cutF 3 4 l[i].v) _ _ (hw4.mono hB5) (few_of 4 _ _ hck4))) rfl (fun v B' H' hΦ hB => ?_)
        obtain ⟨rfl, hΦ⟩ := hΦ
        obtain ⟨ws7, rfl, hw7⟩ := hΦ
        obtain ⟨Aw, cw, Nw, dw, rfl⟩ := ValR.shape hw7
        obtain ⟨B6, h6e⟩ : ∃ B6, B6 = B' := ⟨_, rfl⟩
        subst h6e
        have hB6 := hB
        refine ⟨JOk.edge (JOk.yes (JOk.yes (JOk.top) (ld U62 rfl rfl rfl)) (ld U34 rfl rfl rfl)) (by kernel_rfl), ?_⟩
        refine Dx.p (i := 8) rfl (by kernel_rfl) (bld ti70 pl70 rfl rfl) rfl ?_
        refine Dx.one (i := 9) (by kernel_rfl) ?_
        refine Dstep.o (i := 9) rfl (Ox.cb rfl rfl rfl (with_ct ms Am cm (⟨l[i].doc, BitVec.ofNat 64 i, (cutF 3 4 l[i].v), vcs (cutF 3 4 l[i].v) Aw cw Nw dw⟩ : Dc) _ (hP.md.mono (Frag.le_trans hB4 (Frag.le_trans hB5 hB6))) ⟨hw7, hck4, hby4⟩ (by omega))) rfl (fun v B' H' hΦ hB => ?_)
        obtain ⟨rfl, hΦ⟩ := hΦ
        obtain ⟨A7, c7, rfl, hmd7⟩ := hΦ
        obtain ⟨B7, h7e⟩ : ∃ B7, B7 = B' := ⟨_, rfl⟩
        subst h7e
        have hB7 := hB
        refine ⟨JOk.yes (JOk.yes (JOk.edge (JOk.top) (by kernel_rfl)) (ld U34 rfl rfl rfl)) (ldA U25 rfl sz25 rfl (Cells.own (n := 6) PickB.eq (show ((vcs (cutF 3 4 l[i].v) Ap4 cp4 An4 cn4).drop 0).take 6 = vcs (cutF 3 4 l[i].v) Ap4 cp4 An4 cn4 from rfl)) rfl), ?_⟩
        refine Dx.p (i := 10) rfl (by kernel_rfl) (fa' fo64_0 rfl) rfl ?_
        refine Dx.one (i := 11) (by kernel_rfl) ?_
        refine Dstep.o0 (i := 11) rfl (stO U62 sz62 rfl rfl rfl (by simp) rfl) (fun v B' H' hΦ hB => ?_)
        obtain ⟨hBB, rfl⟩ := hΦ; have hBB2 := hBB.symm; subst hBB2; clear hB v
        refine ⟨JOk.edge (JOk.edge (JOk.edge (JOk.top) (by kernel_rfl)) (by kernel_rfl)) (by kernel_rfl), ?_⟩
        refine Dx.done (by kernel_rfl) ?_
        refine Xx.bn ?_
        refine Xx.dropB b15 ?_
        exact Xx.mkK (⟨T2, withD (⟨l[i].doc, BitVec.ofNat 64 i, (cutF 3 4 l[i].v), vcs (cutF 3 4 l[i].v) Aw cw Nw dw⟩ : Dc) ms, fs, A7, Af, c7, cf, _, by rw [hb2], rfl, by ac_rfl, ⟨hT2.mono (Frag.le_trans hB6 hB7), hmd7, hP.fd.mono (Frag.le_trans hB4 (Frag.le_trans hB5 (Frag.le_trans hB6 hB7))), hP.same.put (d := (⟨l[i].doc, BitVec.ofNat 64 i, (cutF 3 4 l[i].v), vcs (cutF 3 4 l[i].v) Aw cw Nw dw⟩ : Dc)) hd2, withD_srt hP.srt, by rw [hx2]; exact hP.fx, Nat.le_trans (withD_len _ _) (by omega), by omega⟩, Frag.le_trans hB4 (Frag.le_trans hB5 (Frag.le_trans hB6 hB7))⟩) (Sc 7 rfl (Sc 0 rfl (Sc 1 rfl (Sc 2 rfl (Sc 5 rfl (Sc 8 rfl (Sc 9 rfl (Sc 10 rfl (Sc 20 rfl (Sc 21 rfl (Sc 22 rfl (Sc 23 rfl (Sc 24 rfl (Sc 25 rfl (Sc 26 rfl (Sc 27 rfl (Sc 28 rfl (Sc 29 rfl (Sc 32 rfl (Sc 33 rfl (Sc 34 rfl (Sc 35 rfl (Sub.nil _)))))))))))))))))))))))
   ·rintro ρ' B' H' ⟨T, ms, fs, Am, Af, cm, cf, B4, rfl, rfl, rfl, hP, hB4⟩
    have hT := hP.tab
    have hmd := hP.md
    have hfs := hP.fd
    have hS := hP.same
    have hs := hP.srt
    have hf := hP.fx
    have hml := hP.ml
    have hfl := hP.fl
    refine Cx.seq (fun K34 k34 => ?_)
    refine Cx.seq (fun K35 k35 => ?_)
    refine Cx.region <| Lx.y (mv rfl) rfl <| Lx.y (ldA U64 rfl sz64 rfl (Cells.own (n := 2) PickB.eq (show ([Value.slice Am ms.length cm, Value.slice Af fs.length cf].drop 0).take 2 = [Value.slice Am ms.length cm, Value.slice Af fs.length cf] from rfl)) rfl) rfl <| Lx.y (mv rfl) rfl <| Lx.y (ldA U48 rfl sz48 rfl (Cells.own (n := 2) PickB.eq (show ([str lo, str hi].drop 0).take 2 = [str lo, str hi] from rfl)) rfl) rfl <| ?_
    refine Lx.co rfl rfl rfl (same_ct T ms fs Am Af cm cf f lo hi _ hT hmd (RoS.roe hfs) hS hs hf (by omega) (by omega)) (Pick.eq) rfl ?_
    skip
    refine Lx.y (Yx.ff (not' rfl) (rfl)) rfl <| Lx.y (mv rfl) rfl <| Lx.gT rfl rfl rfl <| Lx.y (mv rfl) rfl <| Lx.gT rfl rfl rfl <| Lx.y (ldA U64 rfl sz64 rfl (Cells.own (n := 2) PickB.eq (show ([Value.slice Am ms.length cm, Value.slice Af fs.length cf].drop 0).take 2 = [Value.slice Am ms.length cm, Value.slice Af fs.length cf] from rfl)) rfl) rfl <| Lx.gT rfl rfl rfl <| Lx.y (fa' fo51_3 rfl) rfl <| Lx.gT rfl rfl rfl <| Lx.y (ld U9 rfl rfl rfl) rfl <| Lx.gT rfl rfl rfl <| Lx.y (bld ti48 pl48 rfl rfl) rfl <| ?_
    refine Lx.gT rfl rfl rfl ?_
    refine Lx.co rfl rfl rfl (same_ct T ms fs Am Af cm cf l[i].f [] [] _ hT hmd (RoS.roe hfs) hS hs hf (by omega) (by omega)) (Pick.eq) rfl ?_
    skip
    refine Lx.gT rfl rfl rfl <| Lx.y (Yx.ff (not' rfl) (rfl)) rfl <| Lx.y (pickF rfl rfl) rfl <| Lx.nil <| ?_
    refine Xx.tn (k35 _ _ _ _ ?_)
    refine Cx.condF rfl <| Cx.skip <| ?_
    refine Xx.tn (k34 _ _ _ _ ?_)
    refine Cx.seq (fun K36 k36 => ?_)
    refine Cx.region <| Lx.y (mv rfl) rfl <| Lx.y (fa' fo51_1 rfl) rfl <| Lx.y (ld U34 rfl rfl rfl) rfl <| ?_
    refine Lx.c rfl rfl rfl (RGet_own T l[i].doc _ hT) (Pick.eq) rfl ?_
    rintro r7 B7 H7 ⟨d7, A7, c7, N7, e7, ys7, rfl, hs7, _, _, rfl⟩ hB7
    simp only [star_assoc]
    refine Lx.y (mv rfl) rfl <| Lx.y (ext rfl rfl) rfl <| Lx.y (ext rfl rfl) rfl <| ?_
    refine Lx.new (allocO ti36) rfl (fun b16 => ?_)
    refine Lx.st (stA (d := .bool) (cs' := u64 d7.n :: u64 d7.ver :: vcs d7.v A7 c7 N7 e7) sz36 rfl rfl rfl rfl (by show 0 + 8 ≤ 8; omega) rfl) ?_
    refine Lx.y (asg rfl) rfl <| Lx.nil <| ?_
    refine Xx.tn (k36 _ _ _ _ ?_)
    refine Cx.seq (fun K37 k37 => ?_)
    refine Cx.region <| Lx.y (fa' fo64_0 rfl) rfl <| Lx.y (ld U62 rfl rfl rfl) rfl <| Lx.y (fa' fo51_1 rfl) rfl <| Lx.y (ld U34 rfl rfl rfl) rfl <| ?_
    refine Lx.cb rfl rfl rfl (without_ct ms Am cm l[i].doc _ (hmd.mono hB7) (by omega)) rfl ?_
    rintro r8 B8 ⟨A8, c8, rfl, _⟩ hB8
    have hB8 : B4.le B8 := Frag.le_trans hB7 hB8
    refine Xx.dropT A7 ?_
    refine Lx.y (mv rfl) rfl <| Lx.y (ext rfl rfl) rfl <| Lx.y (ext rfl rfl) rfl <| Lx.y (asg rfl) rfl <| Lx.y (asg rfl) rfl <| Lx.nil <| ?_
    refine Xx.tn (k37 _ _ _ _ ?_)
    refine Cx.seq (fun K39 k39 => ?_)
    refine Cx.region <| Lx.y (mv rfl) rfl <| Lx.y (mv rfl) rfl <| Lx.y (Yx.ff (neB U4 rfl rfl) (by have h9 : decide (∃ d ∈ T.ds, d.n = l[i].doc) = decide (∃ d ∈ ms, d.n = l[i].doc) := decide_eq_decide.2 (hS.has l[i].doc); rw [h9]; simp)) rfl <| Lx.y (mv rfl) rfl <| Lx.gT rfl rfl rfl <| Lx.y (mv rfl) rfl <| Lx.gT rfl rfl rfl <| Lx.y (mv rfl) rfl <| ?_
    refine Xx.ifB (t := 149) rfl (fun h40 => ?_) (fun h40 => ?_)
    ·
     have hex := h40
     have hex : ∃ d ∈ T.ds, d.n = l[i].doc := by simpa using hex
     have hdn : d7.n = l[i].doc := by
      obtain ⟨d, hd, e⟩ := hex
      rw [hs7 d hd e]; exact e
     refine Lx.gT rfl rfl rfl <| Lx.y (fa' fo36_0 rfl) rfl <| Lx.gT rfl rfl rfl <| Lx.y (ld U34 rfl rfl rfl) rfl <| Lx.gT rfl rfl rfl <| Lx.y (fa' fo51_1 rfl) rfl <| Lx.gT rfl rfl rfl <| Lx.y (ld U34 rfl rfl rfl) rfl <| Lx.gT rfl rfl rfl <| Lx.y (Yx.ff (neW64 rfl rfl) (by rw [hdn]; simp)) rfl <| Lx.gT rfl rfl rfl <| Lx.y (pickT rfl rfl) rfl <| ?_
     refine Lx.y (pickF rfl rfl) rfl <| Lx.nil <| ?_
     refine Xx.tn (k39 _ _ _ _ ?_)
     refine Cx.condF rfl <| Cx.skip <| Xx.bn <| ?_
     refine Xx.tn (k9 _ _ _ _ ?_)
     refine Cx.region <| Lx.y (mv rfl) rfl <| Lx.y (Yx.val (add rfl rfl (by first | exact wrap64 (by omega) (by omega) | rfl)) (show _ = i64 ((i + 1 : Nat) : Int) from rfl)) rfl <| Lx.y (asg rfl) rfl <| Lx.nil <| ?_
     refine Xx.dropB b16 (Xx.dropB b10 ?_)
     exact Xx.againK ⟨i + 1, T, ms, fs, Am, Af, cm, cf, _, ⟨by omega, by omega, hP.mono hB8 (by omega), Frag.le_trans hB2 (Frag.le_trans hB4 hB8)⟩, rfl, rfl, rfl, (by ac_rfl)⟩ (by omega) (Sc 7 rfl (Sc 9 rfl (Sc 0 rfl (Sc 1 rfl (Sc 2 rfl (Sc 5 rfl (Sc 8 rfl (Sc 20 rfl (Sc 21 rfl (Sub.nil _))))))))))
    ·
     have hex := h40
     refine Lx.gF rfl rfl rfl rfl <| Lx.gF rfl rfl rfl rfl <| Lx.gF rfl rfl rfl rfl <| Lx.gF rfl rfl rfl rfl <| Lx.gF rfl rfl rfl rfl <| Lx.gT rfl rfl rfl <| Lx.y (pickF rfl rfl) rfl <| Lx.y (pickF rfl rfl) rfl <| Lx.nil <| ?_
     refine Xx.tn (k39 _ _ _ _ ?_)
     refine Cx.condF rfl <| Cx.skip <| Xx.bn <| ?_
     refine Xx.tn (k9 _ _ _ _ ?_)
     refine Cx.region <| Lx.y (mv rfl) rfl <| Lx.y (Yx.val (add rfl rfl (by first | exact wrap64 (by omega) (by omega) | rfl)) (show _ = i64 ((i + 1 : Nat) : Int) from rfl)) rfl <| Lx.y (asg rfl) rfl <| Lx.nil <| ?_
     refine Xx.dropB b16 (Xx.dropB b10 ?_)
     exact Xx.againK ⟨i + 1, T, ms, fs, Am, Af, cm, cf, _, ⟨by omega, by omega, hP.mono hB8 (by omega), Frag.le_trans hB2 (Frag.le_trans hB4 hB8)⟩, rfl, rfl, rfl, (by ac_rfl)⟩ (by omega) (Sc 7 rfl (Sc 9 rfl (Sc 0 rfl (Sc 1 rfl (Sc 2 rfl (Sc 5 rfl (Sc 8 rfl (Sc 20 rfl (Sc 21 rfl (Sub.nil _))))))))))
  ·
   have hlt3 := h8
   refine Cx.exit <| Xx.te <| Xx.te <| Xx.bh <| ?_
   refine Xx.tn (k3 _ _ _ _ ?_)
   refine Cx.seq (fun K41 k41 => ?_)
   refine Cx.region ?_
   refine Lx.cb rfl rfl rfl (awake_ct _ (hM.mono hB2)) rfl ?_
   rintro v9 B9 rfl hB9
   refine Lx.y (asg rfl) rfl <| Lx.nil <| ?_
   refine Xx.tn (k41 _ _ _ _ ?_)
   refine Cx.ret ?_
   refine Xx.perm (H' := (tab T * (row b8 64 [.slice Am ms.length cm, .slice Af fs.length cf] * row b5 48 [str lo, str hi])) * R) ?_ (by ac_rfl)
   refine Xx.drop ?_
   exact Xx.rB1 rfl rfl rfl (Frag.le_trans hB2 hB9) rfl
 ·
  have hlt := h7
  refine Lx.gF rfl rfl rfl rfl <| Lx.gF rfl rfl rfl rfl <| Lx.y (pickF rfl rfl) rfl <| Lx.nil <| ?_
  refine Xx.tn (k6 _ _ _ _ ?_)
  refine Cx.condF rfl <| Cx.exit <| Xx.te <| Xx.te <| Xx.bh <| ?_
  refine Xx.tn (k3 _ _ _ _ ?_)
  refine Cx.seq (fun K43 k43 => ?_)
  refine Cx.region ?_
  refine Lx.cb rfl rfl rfl (awake_ct _ (hM.mono hB2)) rfl ?_
  rintro v9 B9 rfl hB9
  refine Lx.y (asg rfl) rfl <| Lx.nil <| ?_
  refine Xx.tn (k43 _ _ _ _ ?_)
  refine Cx.ret ?_
  refine Xx.perm (H' := (tab T * (row b8 64 [.slice Am ms.length cm, .slice Af fs.length cf] * row b5 48 [str lo, str hi])) * R) ?_ (by ac_rfl)
  refine Xx.drop ?_
  exact Xx.rB1 rfl rfl rfl (Frag.le_trans hB2 hB9) rfl
end RwX
end Go.Proofs.YtdidpocakipinaaGreatDoor
