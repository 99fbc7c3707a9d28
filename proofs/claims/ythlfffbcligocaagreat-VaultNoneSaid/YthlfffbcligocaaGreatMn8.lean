/-
  Texts of this seat, one behind the other: ViI, ViD, ViJ, ViK, Sly, ViX.
-/
import Derived.Test.YthlfffbcligocaaGreatProg
import Derived.SizedLaws
import Derived.Deep.Strs
import Derived.Test.YthlfffbcligocaaGreatMn7
set_option linter.unusedSimpArgs false
set_option linter.unusedVariables false
namespace Go.Proofs.YthlfffbcligocaaGreat
open Go.SL Go.RowKit
set_option maxRecDepth 100000
open VhA VhB VhC VhD VhE VhF VhG VhH VhI VhJ VhK VhL VhM VhN VhO VhP VhQ VhR VhS VhT VhU VhV VhW VhX VhY VhZ ViA ViB ViC ViE ViF ViG ViH
namespace ViI
theorem sz3 : (Tryz.prog.info? 3).map (·.size) = some 1 := by kernel_rfl
theorem sz4 : (Tryz.prog.info? 4).map (·.size) = some 1 := by kernel_rfl
theorem sz5 : (Tryz.prog.info? 5).map (·.size) = some 1 := by kernel_rfl
theorem sz9 : (Tryz.prog.info? 9).map (·.size) = some 1 := by kernel_rfl
theorem sz22 : (Tryz.prog.info? 22).map (·.size) = some 1 := by kernel_rfl
theorem sz23 : (Tryz.prog.info? 23).map (·.size) = some 1 := by kernel_rfl
theorem sz25 : (Tryz.prog.info? 25).map (·.size) = some 4 := by kernel_rfl
theorem sz40 : (Tryz.prog.info? 40).map (·.size) = some 8 := by kernel_rfl
theorem sz51 : (Tryz.prog.info? 51).map (·.size) = some 1 := by kernel_rfl
theorem ti5 : TI Tryz.prog 5 [.int .u8 0] 1 1 := TI.of (by kernel_rfl) rfl rfl
theorem ti25 : TI Tryz.prog 25 [.int .u64 0, str [], .int .u64 0, .slice none 0 0] 4 56 := TI.of (by kernel_rfl) rfl rfl
theorem ti40 : TI Tryz.prog 40 [.int .i64 0, str [], str [], .int .u64 0, .int .u64 0, str [], str [], .bool false] 8 96 := TI.of (by kernel_rfl) rfl rfl
theorem fo25_3 : FO Tryz.prog 25 3 3 1 false := FO.of U25 rfl rfl (by kernel_rfl) U23 rfl rfl
theorem fo40_6 : FO Tryz.prog 40 6 6 1 false := FO.of U40 rfl rfl (by kernel_rfl) U9 rfl rfl
theorem pl25 : PL Tryz.prog 25 [(0, 1), (1, 1), (2, 1), (3, 1)] := PL.of U25 (by kernel_rfl)
theorem pl40 : PL Tryz.prog 40 [(0, 1), (1, 1), (2, 1), (3, 1), (4, 1), (5, 1), (6, 1), (7, 1)] := PL.of U40 (by kernel_rfl)
theorem tmod_b (s : Int) (k : Int) (hk : 0 < k) : -k < s.tmod k ∧ s.tmod k < k ∧ (0 ≤ s → 0 ≤ s.tmod k) := by
  rcases Int.le_total 0 s with h | h
  · rw [Int.tmod_eq_emod_of_nonneg h]
    have h1 := Int.emod_nonneg s (show k ≠ 0 by omega)
    have h2 := Int.emod_lt_of_pos s hk
    exact ⟨by omega, h2, fun _ => h1⟩
  · obtain ⟨t, rfl⟩ : ∃ t, s = -t := ⟨-s, by omega⟩
    rw [Int.neg_tmod, Int.tmod_eq_emod_of_nonneg (by omega : 0 ≤ t)]
    have h1 := Int.emod_nonneg t (show k ≠ 0 by omega)
    have h2 := Int.emod_lt_of_pos t hk
    refine ⟨by omega, by omega, fun h3 => ?_⟩
    obtain rfl : t = 0 := by omega
    simp
theorem long_eq (s : Int) : ((longOf s : Nat) : Int) = (s.tmod 1000 + 1000).tmod 1000 ∧ longOf s < 1000 := by
  obtain ⟨h1, h2, _⟩ := tmod_b s 1000 (by decide)
  obtain ⟨h3, h4, h5⟩ := tmod_b (s.tmod 1000 + 1000) 1000 (by decide)
  have h6 := h5 (by omega)
  unfold longOf
  exact ⟨by omega, by omega⟩
def rRv (n i : Nat) (s : Int) : Rv := if 0 < n ∧ s.tmod 2 = 1 then ⟨4, [116], [], BitVec.ofNat 64 (i + 1), BitVec.ofNat 64 n, [], textF (n * 5 + i) (longOf s), false⟩ else ⟨3, [116], [], BitVec.ofNat 64 (n * 5 + i + 1), 0#64, [], textF (n * 5 + i) (longOf s), false⟩
theorem rRv_le (n i : Nat) (s : Int) : (rRv n i s).body.length ≤ 331 := by
  have := textF_len (n * 5 + i) (longOf s)
  unfold rRv; split <;> exact this
theorem rRv_seal (n i : Nat) (s : Int) : sealF (rRv n i s) = mRv n i s := by unfold rRv mRv; split <;> rfl
theorem mRvs_at {n i : Nat} {sizes : List Int} (h : i < sizes.length) (h5 : i < 5) : (mRvs n sizes).take (i + 1) = (mRvs n sizes).take i ++ [mRv n i sizes[i]] := by
  rw [List.take_succ_eq_append_getElem (by rw [mRvs_len]; omega)]
  congr 2
  unfold mRvs
  rw [List.getElem_mapIdx, List.getElem_take]
set_option maxHeartbeats 2000000 in
theorem text_ct (n long : Nat) (B : Frag) (hn : n ≤ 1000000) (hl : long ≤ 1000000) : CtP Tryz.prog 51 [i64 (n : Int), i64 (long : Int)] B (str (textF n long)) := by
 refine CtB.of_body Tryz.func51 rfl (nt := 34) rfl (by kernel_rfl) rfl ?_
 intro N0 w0 R
 refine Cx.seq (fun K1 k1 => ?_)
 refine Cx.region <| Lx.y (asg rfl) rfl <| Lx.nil <| ?_
 refine Xx.tn (k1 _ _ _ _ ?_)
 refine Cx.seq (fun K2 k2 => ?_)
 refine Cx.region <| Lx.y (mv rfl) rfl <| Lx.y (quoN rfl rfl (by omega) (by omega) (show IntKind.i64.wrap _ = ((n / 26 : Nat) : Int) from (wrap64 (by omega) (by omega)).trans (by omega))) rfl <| Lx.y (Yx.val (remN rfl rfl (by omega) (by omega)) (show _ = i64 ((n / 26 % 26 : Nat) : Int) from congrArg (Value.int .i64) (by omega))) rfl <| Lx.y (add rfl rfl (show IntKind.i64.wrap _ = ((97 + n / 26 % 26 : Nat) : Int) from (wrap64 (by omega) (by omega)).trans (by omega))) rfl <| Lx.y (cvI rfl U3 U5 (wrap_u8 _)) rfl <| Lx.y (mv rfl) rfl <| Lx.y (Yx.val (remN rfl rfl (by omega) (by omega)) (show _ = i64 ((n % 26 : Nat) : Int) from congrArg (Value.int .i64) (by omega))) rfl <| Lx.y (add rfl rfl (show IntKind.i64.wrap _ = ((97 + n % 26 : Nat) : Int) from (wrap64 (by omega) (by omega)).trans (by omega))) rfl <| Lx.y (cvI rfl U3 U5 (wrap_u8 _)) rfl <| ?_
 refine Lx.bsl (bsl1 U107 ti5 rfl rfl rfl (by decide)) rfl (fun bs => ?_)
 refine Lx.y (b2sR U107 U5 U9 rfl (u8s_cons (u8s_cons u8s_nil)) rfl) rfl <| Lx.y (Yx.val (catS (l := [toB ((97 + n / 26 % 26 : Nat) : Int), toB ((97 + n % 26 : Nat) : Int)]) (l2 := litT) rfl rfl (by simp [litT])) (show _ = str ([toB ((97 + n / 26 % 26 : Nat) : Int), toB ((97 + n % 26 : Nat) : Int)] ++ litT) from rfl)) rfl <| Lx.y (asg rfl) rfl <| Lx.nil <| ?_
 refine Xx.tn (k2 _ _ _ _ ?_)
 refine Cx.seq (fun K3 k3 => ?_)
 refine Cx.seq (fun K4 k4 => ?_)
 refine Xx.dropB bs ?_
 refine Cx.region <| Lx.y (asg rfl) rfl <| Lx.nil <| ?_
 refine Xx.tn (k4 _ _ _ _ ?_)
 refine Cx.block ?_
 refine Cx.loopK (Sc 0 rfl (Sc 1 rfl (Sc 4 rfl (Sc 7 rfl (Sc 8 rfl (Sc 9 rfl (Sc 10 rfl (Sc 11 rfl (Sc 12 rfl (Sc 13 rfl (Sc 14 rfl (Sc 15 rfl (Sc 16 rfl (Sc 17 rfl (Sc 18 rfl (Sub.nil _)))))))))))))))) (fun m ρ' B' H' => ∃ (i : Nat), (i ≤ long % 300) ∧ m = long % 300 - i ∧ ρ' = [(5, str (([toB ((97 + n / 26 % 26 : Nat) : Int), toB ((97 + n % 26 : Nat) : Int)] ++ litT) ++ List.replicate i (toB ((65 + n % 26 : Nat) : Int)))), (6, i64 (i : Int))] ∧ B = B' ∧ R = H') ⟨0, Nat.zero_le _, rfl, rfl, rfl, rfl⟩ (Sub.consE (s := 5) rfl (by rw [List.replicate_zero, List.append_nil]) (Sc 6 rfl (Sc 0 rfl (Sc 1 rfl (Sc 4 rfl (Sc 7 rfl (Sc 8 rfl (Sc 9 rfl (Sc 10 rfl (Sc 11 rfl (Sc 12 rfl (Sc 13 rfl (Sc 14 rfl (Sc 15 rfl (Sc 16 rfl (Sc 17 rfl (Sc 18 rfl (Sub.nil _)))))))))))))))))) ?_
 rintro m ρ' B' H' ⟨i, hi, rfl, rfl, rfl, rfl⟩
 refine Cx.seq (fun K5 k5 => ?_)
 refine Cx.seq (fun K6 k6 => ?_)
 refine Cx.region <| Lx.y (mv rfl) rfl <| Lx.y (mv rfl) rfl <| Lx.y (Yx.val (remN rfl rfl (by omega) (by omega)) (show _ = i64 ((long % 300 : Nat) : Int) from congrArg (Value.int .i64) (by omega))) rfl <| Lx.y (lss rfl rfl) rfl <| Lx.nil <| ?_
 refine Xx.tn (k6 _ _ _ _ ?_)
 refine Cx.condD rfl (fun h7 => ?_) (fun h7 => ?_)
 ·
  have hlt := h7
  have hlt : i < long % 300 := by omega
  refine Cx.skip ?_
  refine Xx.tn (k5 _ _ _ _ ?_)
  refine Cx.seq (fun K8 k8 => ?_)
  refine Cx.block <| Cx.region <| Lx.y (mv rfl) rfl <| Lx.y (mv rfl) rfl <| Lx.y (Yx.val (remN rfl rfl (by omega) (by omega)) (show _ = i64 ((n % 26 : Nat) : Int) from congrArg (Value.int .i64) (by omega))) rfl <| Lx.y (add rfl rfl (show IntKind.i64.wrap _ = ((65 + n % 26 : Nat) : Int) from (wrap64 (by omega) (by omega)).trans (by omega))) rfl <| Lx.y (cvI rfl U3 U5 (wrap_u8 _)) rfl <| ?_
  refine Lx.bsl (bsl1 U107 ti5 rfl rfl rfl (by decide)) rfl (fun bt => ?_)
  refine Lx.y (b2sR U107 U5 U9 rfl (u8s_cons u8s_nil) rfl) rfl <| Lx.y (catS (l := ([toB ((97 + n / 26 % 26 : Nat) : Int), toB ((97 + n % 26 : Nat) : Int)] ++ litT) ++ List.replicate i (toB ((65 + n % 26 : Nat) : Int))) (l2 := [(toB ((65 + n % 26 : Nat) : Int))]) rfl rfl (by simp only [List.length_append, List.length_replicate, List.length_cons, List.length_nil, litT]; omega)) rfl <| Lx.y (asg rfl) rfl <| Lx.nil <| Xx.bn <| ?_
  refine Xx.tn (k8 _ _ _ _ ?_)
  refine Xx.dropB bt ?_
  refine Cx.region <| Lx.y (mv rfl) rfl <| Lx.y (Yx.val (add rfl rfl (by first | exact wrap64 (by omega) (by omega) | rfl)) (show _ = i64 ((i + 1 : Nat) : Int) from rfl)) rfl <| Lx.y (asg rfl) rfl <| Lx.nil <| ?_
  exact Xx.againK ⟨i + 1, hlt, rfl, rfl, rfl, rfl⟩ (by omega) (Sub.consE (s := 5) rfl (by rw [List.replicate_succ', ← List.append_assoc]) (Sc 6 rfl (Sc 0 rfl (Sc 1 rfl (Sc 4 rfl (Sc 7 rfl (Sc 8 rfl (Sc 9 rfl (Sc 10 rfl (Sc 11 rfl (Sc 12 rfl (Sc 13 rfl (Sc 14 rfl (Sc 15 rfl (Sc 16 rfl (Sc 17 rfl (Sc 18 rfl (Sub.nil _))))))))))))))))))
 ·
  have hge := h7
  obtain rfl : i = long % 300 := by omega
  refine Cx.exit <| Xx.te <| Xx.te <| Xx.bh <| ?_
  refine Xx.tn (k3 _ _ _ _ ?_)
  refine Cx.seq (fun K9 k9 => ?_)
  refine Cx.region <| Lx.y (mv rfl) rfl <| Lx.y (asg rfl) rfl <| Lx.nil <| ?_
  refine Xx.tn (k9 _ _ _ _ ?_)
  refine Cx.ret ?_
  exact Xx.rB1 rfl rfl ⟨rfl, rfl⟩ (Frag.le_refl _) rfl
set_option maxHeartbeats 3000000 in
theorem made_ct (vb : Nat) (x : Vm) (n : Nat) (sizes : List Int) (A : Option Addr) (c : Nat) (B : Frag) (hk : VmOk B x) (hRs : 0 < sizes.length → RoS B 1 A sizes.length (ints sizes)) (hn : n ≤ 100000) (hsl : sizes.length ≤ 9223372036854775807) : Ct Tryz.prog 14 [.pointer (some ⟨vb, 0, none⟩), i64 (n : Int), .slice A sizes.length c] B (vH vb x) (fun v B' H' => H' = vH vb x ∧ ∃ A' c', v = .agg (bmc ⟨madeF x.vs.l n sizes, A', c'⟩).toArray ∧ Bm.ro B' ⟨madeF x.vs.l n sizes, A', c'⟩) := by
 have hml := mRvs_len n sizes
 have hvl : x.vs.l.length = x.ms.length := List.length_map ..
 refine Ct.of_body Tryz.func14 rfl (nt := 79) rfl (by kernel_rfl) rfl ?_
 intro N0 w0 R
 refine Cx.seq (fun K1 k1 => ?_)
 refine Cx.region ?_
 refine Lx.new (allocO ti25) rfl (fun b6 => ?_)
 refine Lx.nil ?_
 refine Xx.tn (k1 _ _ _ _ ?_)
 refine Cx.seq (fun K2 k2 => ?_)
 refine Cx.region <| Lx.y (mv rfl) rfl <| ?_
 refine Lx.co rfl rfl rfl (VLen_ct vb x _) (Pick.eq) rfl ?_
 refine Lx.y (mv rfl) rfl ?_
 refine Lx.co rfl rfl rfl (Prev_ct vb x _ hk) (Pick.eq) rfl ?_
 refine Lx.y (mv rfl) rfl <| Lx.y (Yx.val (cvW64 rfl U3 U22) (show _ = u64 (BitVec.ofNat 64 (n)) from rfl)) rfl <| Lx.y (bld ti25 pl25 rfl rfl) rfl <| ?_
 refine Lx.new (allocO ti25) rfl (fun b7 => ?_)
 refine Lx.st (stA (d := .bool) sz25 rfl rfl rfl rfl (by show 0 + 4 ≤ 4; omega) rfl) ?_
 refine Lx.nil ?_
 refine Xx.tn (k2 _ _ _ _ ?_)
 refine Cx.cutK (ds' := []) (Sc 0 rfl (Sc 1 rfl (Sc 2 rfl (Sc 6 rfl (Sc 7 rfl (Sc 10 rfl (Sc 11 rfl (Sc 12 rfl (Sc 13 rfl (Sc 14 rfl (Sc 15 rfl (Sc 16 rfl (Sub.nil _))))))))))))) (fun ρ' B' H' => ∃ (A2 : Option Addr) (c2 : Nat), ρ' = [] ∧ B = B' ∧ row b7 25 [u64 (BitVec.ofInt 64 (x.ms.length : Nat)), str (prevF x.vs.l), u64 (BitVec.ofNat 64 n), .slice A2 (mRvs n sizes).length c2] * (sbuf 40 8 A2 (mRvs n sizes).length c2 ((mRvs n sizes).flatMap rvc) * (row b6 25 [.int .u64 0, str [], .int .u64 0, .slice none 0 0] * (vH vb x * R))) = H') ?_ ?_
 ·
  refine Cx.seq (fun K3 k3 => ?_)
  refine Cx.region <| Lx.y (asg rfl) rfl <| Lx.nil <| ?_
  refine Xx.tn (k3 _ _ _ _ ?_)
  refine Cx.block ?_
  refine Cx.loopK (Sc 0 rfl (Sc 1 rfl (Sc 2 rfl (Sc 6 rfl (Sc 7 rfl (Sc 10 rfl (Sc 11 rfl (Sc 12 rfl (Sc 13 rfl (Sc 14 rfl (Sc 15 rfl (Sc 16 rfl (Sub.nil _))))))))))))) (fun m ρ' B' H' => ∃ (i : Nat) (A2 : Option Addr) (c2 : Nat), (i ≤ sizes.length ∧ i ≤ 5) ∧ m = 5 - i ∧ ρ' = [(8, i64 (i : Int))] ∧ B = B' ∧ row b7 25 [u64 (BitVec.ofInt 64 (x.ms.length : Nat)), str (prevF x.vs.l), u64 (BitVec.ofNat 64 n), .slice A2 i c2] * (sbuf 40 8 A2 i c2 (((mRvs n sizes).take i).flatMap rvc) * (row b6 25 [.int .u64 0, str [], .int .u64 0, .slice none 0 0] * (vH vb x * R))) = H') ⟨0, none, 0, ⟨Nat.zero_le _, Nat.zero_le _⟩, rfl, rfl, rfl, by rw [List.take_zero, List.flatMap_nil, sbuf_nil, one_star]; ac_rfl⟩ (Sc 8 rfl (Sc 0 rfl (Sc 1 rfl (Sc 2 rfl (Sc 6 rfl (Sc 7 rfl (Sc 10 rfl (Sc 11 rfl (Sc 12 rfl (Sc 13 rfl (Sc 14 rfl (Sc 15 rfl (Sc 16 rfl (Sub.nil _)))))))))))))) ?_
  rintro m ρ' B' H' ⟨i, A2, c2, ⟨hi, hi5⟩, rfl, rfl, rfl, rfl⟩
  refine Cx.seq (fun K4 k4 => ?_)
  refine Cx.seq (fun K5 k5 => ?_)
  refine Cx.region <| Lx.y (mv rfl) rfl <| Lx.y (mv rfl) rfl <| Lx.y (lenV (ty' := 0) U26 rfl) rfl <| Lx.y (lss rfl rfl) rfl <| Lx.y (mv rfl) rfl <| ?_
  refine Xx.ifD (t := 21) rfl (fun h6 => ?_) (fun h6 => ?_)
  ·
   have hlt := h6
   have hlt : i < sizes.length := by omega
   refine Lx.gT rfl rfl rfl <| Lx.y (mv rfl) rfl <| Lx.gT rfl rfl rfl <| Lx.y (lss rfl rfl) rfl <| Lx.y (pickT rfl rfl) rfl <| Lx.nil <| ?_
   refine Xx.tn (k5 _ _ _ _ ?_)
   refine Cx.condD rfl (fun h7 => ?_) (fun h7 => ?_)
   ·
    have h5 := h7
    have h5 : i < 5 := by omega
    obtain ⟨b9, o9, cs9, et9, fz9, hA9, hB9, hv9⟩ := (hRs (by omega)).at1 hlt
    rw [ViE.ints_at hlt] at hv9
    obtain ⟨t1, t2, _⟩ := tmod_b (sizes[i]'hlt) 1000 (by decide)
    obtain ⟨t3, t4⟩ := long_eq (sizes[i]'hlt)
    have htx := textF_len (n * 5 + i) (longOf (sizes[i]'hlt))
    refine Cx.skip ?_
    refine Xx.tn (k4 _ _ _ _ ?_)
    refine Cx.seq (fun K8 k8 => ?_)
    refine Cx.block ?_
    refine Cx.seq (fun K9 k9 => ?_)
    refine Cx.region <| Lx.y (mv rfl) rfl <| Lx.y (mul rfl rfl (show IntKind.i64.wrap _ = ((n * 5 : Nat) : Int) from (wrap64 (by omega) (by omega)).trans (by omega))) rfl <| Lx.y (mv rfl) rfl <| Lx.y (add rfl rfl (show IntKind.i64.wrap _ = ((n * 5 + i : Nat) : Int) from (wrap64 (by omega) (by omega)).trans (by omega))) rfl <| Lx.y (add rfl rfl (show IntKind.i64.wrap _ = ((n * 5 + i + 1 : Nat) : Int) from (wrap64 (by omega) (by omega)).trans (by omega))) rfl <| Lx.y (Yx.val (cvW64 rfl U3 U22) (show _ = u64 (BitVec.ofNat 64 (n * 5 + i + 1)) from rfl)) rfl <| Lx.y (mv rfl) rfl <| Lx.y (mul rfl rfl (show IntKind.i64.wrap _ = ((n * 5 : Nat) : Int) from (wrap64 (by omega) (by omega)).trans (by omega))) rfl <| Lx.y (mv rfl) rfl <| Lx.y (add rfl rfl (show IntKind.i64.wrap _ = ((n * 5 + i : Nat) : Int) from (wrap64 (by omega) (by omega)).trans (by omega))) rfl <| Lx.y (mv rfl) rfl <| ?_
    refine Lx.y (mv rfl) rfl <| Lx.y (Yx.val (ia (b := b9) (o := o9) U26 sz3 (by rw [← hA9]; rfl) rfl (Int.toNat_natCast _) (by omega) (by omega)) rfl) rfl <| Lx.y (ldB U3 rfl rfl hB9 hv9) rfl <| Lx.y (rem rfl rfl (by decide) rfl) rfl <| Lx.y (add rfl rfl (show IntKind.i64.wrap _ = ((sizes[i]'hlt)).tmod 1000 + 1000 from wrap64 (by omega) (by omega))) rfl <| Lx.y (rem rfl rfl (by decide) (show _ = ((longOf (sizes[i]'hlt) : Nat) : Int) from t3.symm)) rfl <| ?_
    refine Lx.cp rfl rfl rfl (text_ct (n * 5 + i) (longOf (sizes[i]'hlt)) _ (by omega) (by omega)) rfl ?_
    refine Lx.y (bld ti40 pl40 rfl rfl) rfl ?_
    refine Lx.new (allocO ti40) rfl (fun b9x => ?_)
    refine Lx.st (stA (d := .bool) sz40 rfl rfl rfl rfl (by show 0 + 8 ≤ 8; omega) rfl) ?_
    refine Lx.nil ?_
    refine Xx.tn (k9 _ _ _ _ ?_)
    refine Cx.cutK (ds' := []) (Sc 0 rfl (Sc 1 rfl (Sc 2 rfl (Sc 6 rfl (Sc 7 rfl (Sc 8 rfl (Sc 9 rfl (Sc 10 rfl (Sc 11 rfl (Sc 12 rfl (Sc 13 rfl (Sc 14 rfl (Sc 15 rfl (Sc 16 rfl (Sc 17 rfl (Sc 18 rfl (Sc 19 rfl (Sc 20 rfl (Sc 21 rfl (Sc 22 rfl (Sc 23 rfl (Sc 24 rfl (Sc 27 rfl (Sc 28 rfl (Sc 29 rfl (Sc 30 rfl (Sc 31 rfl (Sc 32 rfl (Sc 33 rfl (Sc 34 rfl (Sc 35 rfl (Sc 36 rfl (Sc 37 rfl (Sc 38 rfl (Sc 39 rfl (Sc 40 rfl (Sc 41 rfl (Sc 42 rfl (Sc 43 rfl (Sc 44 rfl (Sc 45 rfl (Sub.nil _)))))))))))))))))))))))))))))))))))))))))) (fun ρ' B' H' => ρ' = [] ∧ B = B' ∧ row b9x 40 (rvc (rRv n i (sizes[i]'hlt))) * (row b7 25 [u64 (BitVec.ofInt 64 (x.ms.length : Nat)), str (prevF x.vs.l), u64 (BitVec.ofNat 64 n), .slice A2 i c2] * (sbuf 40 8 A2 i c2 (((mRvs n sizes).take i).flatMap rvc) * (row b6 25 [.int .u64 0, str [], .int .u64 0, .slice none 0 0] * (vH vb x * R)))) = H') ?_ ?_
    ·
     refine Cx.seq (fun K10 k10 => ?_)
     refine Cx.region <| Lx.y (mv rfl) rfl <| Lx.y (gtr rfl rfl) rfl <| Lx.y (mv rfl) rfl <| ?_
     refine Xx.ifD (t := 48) rfl (fun h11 => ?_) (fun h11 => ?_)
     ·
      have hn0 := h11
      refine Lx.gT rfl rfl rfl <| Lx.y (mv rfl) rfl <| Lx.gT rfl rfl rfl <| Lx.y (mv rfl) rfl <| Lx.gT rfl rfl rfl <| Lx.y (Yx.val (ia (b := b9) (o := o9) U26 sz3 (by rw [← hA9]; rfl) rfl (Int.toNat_natCast _) (by omega) (by omega)) rfl) rfl <| Lx.gT rfl rfl rfl <| Lx.y (ldB U3 rfl rfl hB9 hv9) rfl <| Lx.gT rfl rfl rfl <| Lx.y (rem rfl rfl (by decide) rfl) rfl <| Lx.gT rfl rfl rfl <| Lx.y (eqI rfl rfl) rfl <| ?_
      refine Lx.y (pickT rfl rfl) rfl <| Lx.nil <| ?_
      refine Xx.tn (k10 _ _ _ _ ?_)
      refine Cx.condD rfl (fun h12 => ?_) (fun h12 => ?_)
      ·
       have ho := h12
       refine Cx.region <| Lx.y (mv rfl) rfl <| Lx.y (add rfl rfl (show IntKind.i64.wrap _ = ((i + 1 : Nat) : Int) from (wrap64 (by omega) (by omega)).trans (by omega))) rfl <| Lx.y (Yx.val (cvW64 rfl U3 U22) (show _ = u64 (BitVec.ofNat 64 (i + 1)) from rfl)) rfl <| Lx.y (mv rfl) rfl <| Lx.y (Yx.val (cvW64 rfl U3 U22) (show _ = u64 (BitVec.ofNat 64 (n)) from rfl)) rfl <| Lx.y (fa' fo40_6 rfl) rfl <| Lx.y (ld U9 rfl rfl rfl) rfl <| Lx.y (bld ti40 pl40 rfl rfl) rfl <| ?_
       refine Lx.st (stA (d := .bool) sz40 rfl rfl rfl rfl (by show 0 + 8 ≤ 8; omega) rfl) ?_
       refine Lx.nil ?_
       exact Xx.mkK (⟨rfl, rfl, by unfold rRv; rw [if_pos ⟨by omega, ho⟩]; show row b9x _ _ * _ = row b9x _ _ * _; rfl⟩) (Sc 0 rfl (Sc 1 rfl (Sc 2 rfl (Sc 6 rfl (Sc 7 rfl (Sc 8 rfl (Sc 9 rfl (Sc 10 rfl (Sc 11 rfl (Sc 12 rfl (Sc 13 rfl (Sc 14 rfl (Sc 15 rfl (Sc 16 rfl (Sc 17 rfl (Sc 18 rfl (Sc 19 rfl (Sc 20 rfl (Sc 21 rfl (Sc 22 rfl (Sc 23 rfl (Sc 24 rfl (Sc 27 rfl (Sc 28 rfl (Sc 29 rfl (Sc 30 rfl (Sc 31 rfl (Sc 32 rfl (Sc 33 rfl (Sc 34 rfl (Sc 35 rfl (Sc 36 rfl (Sc 37 rfl (Sc 38 rfl (Sc 39 rfl (Sc 40 rfl (Sc 41 rfl (Sc 42 rfl (Sc 43 rfl (Sc 44 rfl (Sc 45 rfl (Sub.nil _))))))))))))))))))))))))))))))))))))))))))
      ·
       have ho := h12
       refine Cx.skip ?_
       exact Xx.mkK (⟨rfl, rfl, by unfold rRv; rw [if_neg (fun e => ho e.2)]; rfl⟩) (Sc 0 rfl (Sc 1 rfl (Sc 2 rfl (Sc 6 rfl (Sc 7 rfl (Sc 8 rfl (Sc 9 rfl (Sc 10 rfl (Sc 11 rfl (Sc 12 rfl (Sc 13 rfl (Sc 14 rfl (Sc 15 rfl (Sc 16 rfl (Sc 17 rfl (Sc 18 rfl (Sc 19 rfl (Sc 20 rfl (Sc 21 rfl (Sc 22 rfl (Sc 23 rfl (Sc 24 rfl (Sc 27 rfl (Sc 28 rfl (Sc 29 rfl (Sc 30 rfl (Sc 31 rfl (Sc 32 rfl (Sc 33 rfl (Sc 34 rfl (Sc 35 rfl (Sc 36 rfl (Sc 37 rfl (Sc 38 rfl (Sc 39 rfl (Sc 40 rfl (Sc 41 rfl (Sc 42 rfl (Sc 43 rfl (Sc 44 rfl (Sc 45 rfl (Sub.nil _))))))))))))))))))))))))))))))))))))))))))
     ·
      have hn0 := h11
      refine Lx.gF rfl rfl rfl rfl <| Lx.gF rfl rfl rfl rfl <| Lx.gF rfl rfl rfl rfl <| Lx.gF rfl rfl rfl rfl <| Lx.gF rfl rfl rfl rfl <| Lx.gF rfl rfl rfl rfl <| Lx.y (pickF rfl rfl) rfl <| Lx.nil <| ?_
      refine Xx.tn (k10 _ _ _ _ ?_)
      refine Cx.condF rfl <| Cx.skip <| ?_
      exact Xx.mkK (⟨rfl, rfl, by unfold rRv; rw [if_neg (fun e => hn0 (by omega))]; rfl⟩) (Sc 0 rfl (Sc 1 rfl (Sc 2 rfl (Sc 6 rfl (Sc 7 rfl (Sc 8 rfl (Sc 9 rfl (Sc 10 rfl (Sc 11 rfl (Sc 12 rfl (Sc 13 rfl (Sc 14 rfl (Sc 15 rfl (Sc 16 rfl (Sc 17 rfl (Sc 18 rfl (Sc 19 rfl (Sc 20 rfl (Sc 21 rfl (Sc 22 rfl (Sc 23 rfl (Sc 24 rfl (Sc 27 rfl (Sc 28 rfl (Sc 29 rfl (Sc 30 rfl (Sc 31 rfl (Sc 32 rfl (Sc 33 rfl (Sc 34 rfl (Sc 35 rfl (Sc 36 rfl (Sc 37 rfl (Sc 38 rfl (Sc 39 rfl (Sc 40 rfl (Sc 41 rfl (Sc 42 rfl (Sc 43 rfl (Sc 44 rfl (Sc 45 rfl (Sub.nil _))))))))))))))))))))))))))))))))))))))))))
    ·rintro ρ' B' H' ⟨rfl, rfl, rfl⟩
     refine Cx.drawn (by kernel_rfl) ?_
     refine Dx.p (i := 0) rfl (by kernel_rfl) (fa' fo25_3 rfl) rfl ?_
     refine Dx.r (i := 1) rfl (by kernel_rfl) (ld U23 rfl rfl rfl) rfl ?_
     refine Dx.r (i := 2) rfl (by kernel_rfl) (ldA U40 rfl sz40 rfl (Cells.own (n := 8) PickB.eq (show ((rvc (rRv n i (sizes[i]'hlt))).drop 0).take 8 = rvc (rRv n i (sizes[i]'hlt)) from rfl)) rfl) rfl ?_
     refine Dx.one (i := 3) (by kernel_rfl) ?_
     refine Dstep.o (i := 3) rfl (Ox.cb rfl rfl rfl (Sealed_ct (rRv n i (sizes[i]'hlt)) _ (by have := rRv_le n i (sizes[i]'hlt); omega))) rfl (fun v B' H' hΦ hB => ?_)
     obtain ⟨rfl, rfl, hBB⟩ := hΦ; have hBB2 := hBB.symm; subst hBB2; clear hB
     refine ⟨JOk.edge (JOk.yes (JOk.top) (ld U23 rfl rfl rfl)) (by kernel_rfl), ?_⟩
     refine Dx.one (i := 4) (by kernel_rfl) ?_
     refine Dstep.o (i := 4) rfl (bslA U23 ti40 rfl rfl (by decide)) rfl (fun v B' H' hΦ hB => ?_)
     obtain ⟨bv, rfl, hBB, rfl⟩ := hΦ; have hBB2 := hBB.symm; subst hBB2; clear hB
     refine ⟨JOk.yes (JOk.yes (JOk.top) (ld U23 rfl rfl rfl)) (ldA U40 rfl sz40 rfl (Cells.own (n := 8) PickB.eq (show ((rvc (rRv n i (sizes[i]'hlt))).drop 0).take 8 = rvc (rRv n i (sizes[i]'hlt)) from rfl)) rfl), ?_⟩
     refine Dx.one (i := 5) (by kernel_rfl) ?_
     refine Dstep.o (i := 5) rfl (appN (et := 40) (A := A2) (i + 1) (rvc (sealF (rRv n i (sizes[i]'hlt)))) ((((mRvs n sizes).take i) ++ [mRv n i (sizes[i]'hlt)]).flatMap rvc) U23 U23 ti40 rfl rfl rfl rfl rfl (by omega) (by omega) rfl (by rw [rRv_seal]; simp only [List.flatMap_append, List.flatMap_cons, List.flatMap_nil, List.append_nil])) rfl (fun v B' H' hΦ hB => ?_)
     obtain ⟨A3, c3, rfl, hA3, hl3, hc3, hBB, rfl⟩ := hΦ
     have hBB2 := hBB.symm
     subst hBB2
     refine ⟨JOk.yes (JOk.edge (JOk.top) (by kernel_rfl)) (ldA U40 rfl sz40 rfl (Cells.own (n := 8) PickB.eq (show ((rvc (rRv n i (sizes[i]'hlt))).drop 0).take 8 = rvc (rRv n i (sizes[i]'hlt)) from rfl)) rfl), ?_⟩
     refine Dx.p (i := 6) rfl (by kernel_rfl) (fa' fo25_3 rfl) rfl ?_
     refine Dx.one (i := 7) (by kernel_rfl) ?_
     refine Dstep.o0 (i := 7) rfl (stO U23 sz23 rfl rfl rfl (by show 3 < 4; omega) rfl) (fun v B' H' hΦ hB => ?_)
     obtain ⟨hBB, rfl⟩ := hΦ; have hBB2 := hBB.symm; subst hBB2; clear hB v
     refine ⟨JOk.edge (JOk.edge (JOk.top) (by kernel_rfl)) (by kernel_rfl), ?_⟩
     refine Dx.done (by kernel_rfl) ?_
     refine Xx.bn ?_
     refine Xx.tn (k8 _ _ _ _ ?_)
     refine Xx.dropB bv ?_
     refine Cx.region <| Lx.y (mv rfl) rfl <| Lx.y (Yx.val (add rfl rfl (by first | exact wrap64 (by omega) (by omega) | rfl)) (show _ = i64 ((i + 1 : Nat) : Int) from rfl)) rfl <| Lx.y (asg rfl) rfl <| Lx.nil <| ?_
     refine Xx.dropB b9x ?_
     exact Xx.againK ⟨i + 1, A3, c3, ⟨hlt, by omega⟩, rfl, rfl, rfl, (by rw [mRvs_at hlt h5])⟩ (by omega) (Sc 8 rfl (Sc 0 rfl (Sc 1 rfl (Sc 2 rfl (Sc 6 rfl (Sc 7 rfl (Sc 10 rfl (Sc 11 rfl (Sc 12 rfl (Sc 13 rfl (Sc 14 rfl (Sc 15 rfl (Sc 16 rfl (Sub.nil _))))))))))))))
   ·
    have h5 := h7
    have hall : ((mRvs n sizes).take i) = mRvs n sizes := List.take_of_length_le (by rw [hml]; omega)
    have hil : i = (mRvs n sizes).length := by rw [hml]; omega
    refine Cx.exit <| Xx.te <| Xx.te <| Xx.bh <| ?_
    exact Xx.mkK (⟨A2, c2, rfl, rfl, by rw [hall, ← hil]⟩) (Sc 0 rfl (Sc 1 rfl (Sc 2 rfl (Sc 6 rfl (Sc 7 rfl (Sc 10 rfl (Sc 11 rfl (Sc 12 rfl (Sc 13 rfl (Sc 14 rfl (Sc 15 rfl (Sc 16 rfl (Sub.nil _)))))))))))))
  ·
   have hge := h6
   have hall : ((mRvs n sizes).take i) = mRvs n sizes := List.take_of_length_le (by rw [hml]; omega)
   have hil : i = (mRvs n sizes).length := by rw [hml]; omega
   refine Lx.gF rfl rfl rfl rfl <| Lx.gF rfl rfl rfl rfl <| Lx.y (pickF rfl rfl) rfl <| Lx.nil <| ?_
   refine Xx.tn (k5 _ _ _ _ ?_)
   refine Cx.condF rfl <| Cx.exit <| Xx.te <| Xx.te <| Xx.bh <| ?_
   exact Xx.mkK (⟨A2, c2, rfl, rfl, by rw [hall, ← hil]⟩) (Sc 0 rfl (Sc 1 rfl (Sc 2 rfl (Sc 6 rfl (Sc 7 rfl (Sc 10 rfl (Sc 11 rfl (Sc 12 rfl (Sc 13 rfl (Sc 14 rfl (Sc 15 rfl (Sc 16 rfl (Sub.nil _)))))))))))))
 ·rintro ρ' B' H' ⟨A2, c2, rfl, rfl, rfl⟩
  refine Cx.cutK (ds' := []) (Sc 0 rfl (Sc 1 rfl (Sc 2 rfl (Sc 6 rfl (Sc 7 rfl (Sc 10 rfl (Sc 11 rfl (Sc 12 rfl (Sc 13 rfl (Sc 14 rfl (Sc 15 rfl (Sc 16 rfl (Sub.nil _))))))))))))) (fun ρ' B' H' => ∃ (A4 : Option Addr) (c4 : Nat), ρ' = [] ∧ row b7 25 [u64 (BitVec.ofInt 64 (x.ms.length : Nat)), str (prevF x.vs.l), u64 (BitVec.ofNat 64 n), .slice A4 (madeF x.vs.l n sizes).revs.length c4] * (row b6 25 [.int .u64 0, str [], .int .u64 0, .slice none 0 0] * (vH vb x * R)) = H' ∧ B.le B' ∧ Bm.ro B' ⟨madeF x.vs.l n sizes, A4, c4⟩) ?_ ?_
  ·
   refine Cx.seq (fun K13 k13 => ?_)
   refine Cx.region <| Lx.y (fa' fo25_3 rfl) rfl <| Lx.y (ld U23 rfl rfl rfl) rfl <| Lx.y (lenV (ty' := 0) U23 rfl) rfl <| Lx.y (eqI rfl rfl) rfl <| Lx.nil <| ?_
   refine Xx.tn (k13 _ _ _ _ ?_)
   refine Cx.condD rfl (fun h14 => ?_) (fun h14 => ?_)
   ·
    have hz := h14
    have hz : mRvs n sizes = [] := List.length_eq_zero_iff.1 (by omega)
    refine Cx.region <| Lx.y (bld ti40 pl40 rfl rfl) rfl <| ?_
    refine Lx.bsl (bslA U23 ti40 rfl rfl (by decide)) rfl (fun bq => ?_)
    refine Lx.y (fa' fo25_3 rfl) rfl ?_
    refine Lx.st (stO U23 sz23 rfl rfl rfl (by show 3 < 4; omega) rfl) ?_
    refine Lx.nil ?_
    refine Xx.closeT bq (rvc tabRv) [] 8 1 1 rfl rfl (Nat.le_refl _) rfl ?_
    refine Xx.freezeT (some ⟨bq, 0, none⟩) fun B3 hB3 hRo hnc _ => ?_
    refine Xx.dropT A2 ?_
    have hrv : (madeF x.vs.l n sizes).revs = [tabRv] := by unfold madeF; simp only; rw [if_pos hz]
    exact Xx.mkK (⟨some ⟨bq, 0, none⟩, 1, rfl, by rw [hrv]; rfl, hB3, fun _ => by show RoS B3 8 _ (madeF x.vs.l n sizes).revs.length ((madeF x.vs.l n sizes).revs.flatMap rvc); rw [hrv]; exact hRo⟩) (Sc 0 rfl (Sc 1 rfl (Sc 2 rfl (Sc 6 rfl (Sc 7 rfl (Sc 10 rfl (Sc 11 rfl (Sc 12 rfl (Sc 13 rfl (Sc 14 rfl (Sc 15 rfl (Sc 16 rfl (Sub.nil _)))))))))))))
   ·
    have hz := h14
    have hz : ¬ mRvs n sizes = [] := fun e => hz (by rw [e]; rfl)
    refine Cx.skip ?_
    refine Xx.freezeT A2 fun B3 hB3 hRo hnc _ => ?_
    have hrv : (madeF x.vs.l n sizes).revs = mRvs n sizes := by unfold madeF; simp only; rw [if_neg hz]
    exact Xx.mkK (⟨A2, c2, rfl, by rw [hrv], hB3, fun _ => by show RoS B3 8 _ (madeF x.vs.l n sizes).revs.length ((madeF x.vs.l n sizes).revs.flatMap rvc); rw [hrv]; exact hRo⟩) (Sc 0 rfl (Sc 1 rfl (Sc 2 rfl (Sc 6 rfl (Sc 7 rfl (Sc 10 rfl (Sc 11 rfl (Sc 12 rfl (Sc 13 rfl (Sc 14 rfl (Sc 15 rfl (Sc 16 rfl (Sub.nil _)))))))))))))
  ·rintro ρ' B' H' ⟨A4, c4, rfl, rfl, hB4, hro4⟩
   rename Frag => B4
   refine Cx.seq (fun K15 k15 => ?_)
   refine Cx.region <| Lx.y (ldA U25 rfl sz25 rfl (Cells.own (n := 4) (vs := bmc ⟨madeF x.vs.l n sizes, A4, c4⟩) PickB.eq (by unfold bmc madeF; rw [hvl]; rfl)) rfl) rfl <| ?_
   refine Lx.st (stA (d := .bool) sz25 rfl rfl rfl rfl (by show 0 + 4 ≤ 4; omega) rfl) ?_
   refine Lx.nil ?_
   refine Xx.tn (k15 _ _ _ _ ?_)
   refine Cx.ret ?_
   refine Xx.dropB b7 ?_
   exact Xx.retA rfl U25 rfl sz25 rfl rfl ⟨rfl, A4, c4, rfl, hro4⟩ hB4 (by ac_rfl)
end ViI
end Go.Proofs.YthlfffbcligocaaGreat
namespace Go.Proofs.YthlfffbcligocaaGreat
open Go.SL Go.RowKit
set_option maxRecDepth 100000
open VhA VhB VhC VhD VhE VhF VhG VhH VhI VhJ VhK VhL VhM VhN VhO VhP VhQ VhR VhS VhT VhU VhV VhW VhX VhY VhZ ViA ViB
open Jn1 (Rc rcc Jn jnH atV)
open Jn3 (addD allF recsAt fileOf)
open DkB (Dk dkH)
open DkH (fileM)
namespace ViD
theorem sz3 : (Tryz.prog.info? 3).map (·.size) = some 1 := by kernel_rfl
theorem sz4 : (Tryz.prog.info? 4).map (·.size) = some 1 := by kernel_rfl
theorem sz9 : (Tryz.prog.info? 9).map (·.size) = some 1 := by kernel_rfl
theorem sz22 : (Tryz.prog.info? 22).map (·.size) = some 1 := by kernel_rfl
theorem sz23 : (Tryz.prog.info? 23).map (·.size) = some 1 := by kernel_rfl
theorem sz25 : (Tryz.prog.info? 25).map (·.size) = some 4 := by kernel_rfl
theorem sz40 : (Tryz.prog.info? 40).map (·.size) = some 8 := by kernel_rfl
theorem sz43 : (Tryz.prog.info? 43).map (·.size) = some 1 := by kernel_rfl
theorem sz51 : (Tryz.prog.info? 51).map (·.size) = some 1 := by kernel_rfl
theorem sz123 : (Tryz.prog.info? 123).map (·.size) = some 2 := by kernel_rfl
theorem sz149 : (Tryz.prog.info? 149).map (·.size) = some 4 := by kernel_rfl
theorem ti9 : TI Tryz.prog 9 [str []] 1 16 := TI.of (by kernel_rfl) rfl rfl
theorem ti25 : TI Tryz.prog 25 [.int .u64 0, str [], .int .u64 0, .slice none 0 0] 4 56 := TI.of (by kernel_rfl) rfl rfl
theorem ti40 : TI Tryz.prog 40 [.int .i64 0, str [], str [], .int .u64 0, .int .u64 0, str [], str [], .bool false] 8 96 := TI.of (by kernel_rfl) rfl rfl
theorem fo25_3 : FO Tryz.prog 25 3 3 1 false := FO.of U25 rfl rfl (by kernel_rfl) U23 rfl rfl
theorem fo40_6 : FO Tryz.prog 40 6 6 1 false := FO.of U40 rfl rfl (by kernel_rfl) U9 rfl rfl
theorem fo40_7 : FO Tryz.prog 40 7 7 1 false := FO.of U40 rfl rfl (by kernel_rfl) U4 rfl rfl
theorem fo94_1 : FO Tryz.prog 94 1 1 1 false := FO.of U94 rfl rfl (by kernel_rfl) U91 rfl rfl
theorem fo94_2 : FO Tryz.prog 94 2 2 1 false := FO.of U94 rfl rfl (by kernel_rfl) U51 rfl rfl
set_option maxHeartbeats 1000000 in
theorem CR_ro (A : Option Addr) (n c : Nat) (xs : List Value) (B : Frag) (hR : RoS B 8 A n xs) (h1 : xs.all (·.oneCell') = true) (hb : n * 96 ≤ 140737488355328) (hn : n ≤ 4611686018427387904) : Ct Tryz.prog 49 [.slice A n c] B 1 (fun v B' H' => B' = B ∧ ∃ A' c', v = .slice A' n c' ∧ H' = sbuf 40 8 A' n c' xs) := by
 refine Ct.of_body Tryz.func49 rfl (nt := 8) rfl (by kernel_rfl) rfl ?_
 intro N0 w0 R
 rw [one_star]
 refine Cx.seq (fun K1 k1 => ?_)
 refine Cx.region <| Lx.y (asg rfl) rfl <| Lx.nil <| ?_
 refine Xx.tn (k1 _ _ _ _ ?_)
 refine Cx.seq (fun K2 k2 => ?_)
 refine Cx.seq (fun K3 k3 => ?_)
 refine Cx.region <| Lx.y (mv rfl) rfl <| Lx.y (eqNilV U23 rfl rfl) rfl <| Lx.nil <| ?_
 refine Xx.tn (k3 _ _ _ _ ?_)
 refine Cx.condB rfl (fun h4 => ?_) (fun h4 => ?_)
 ·
  have hA0 : A = none := by cases A with | none => rfl | some a => exact absurd h4 (by simp)
  have hm0 : n = 0 ∧ xs = [] := by
   obtain ⟨hl, h | ⟨b, o, cs, et, fz, h, _⟩⟩ := hR
   ·exact ⟨h.2, List.length_eq_zero_iff.1 (by rw [hl, h.2, Nat.zero_mul])⟩
   ·rw [hA0] at h; cases h
  obtain ⟨rfl, rfl⟩ := hm0
  refine Cx.seq (fun K5 k5 => ?_)
  refine Cx.region <| Lx.y (asg rfl) rfl <| Lx.nil <| ?_
  refine Xx.tn (k5 _ _ _ _ ?_)
  refine Cx.ret <| Xx.tr <| ?_
  exact Xx.ret1 rfl rfl ⟨rfl, none, 0, rfl, rfl⟩ (Frag.le_refl _) (by rw [sbuf_nil, one_star])
 ·
  refine Cx.skip ?_
  refine Xx.tn (k2 _ _ _ _ ?_)
  refine Cx.seq (fun K6 k6 => ?_)
  refine Cx.region ?_
  refine Lx.o (bslZ U23 ti40) rfl (fun v B' H' hΦ hB => ?_)
  obtain ⟨b0, rfl, hBB, rfl⟩ := hΦ
  have hBB2 := hBB.symm
  subst hBB2
  clear hB
  refine Lx.y (mv rfl) rfl ?_
  refine Lx.o (appB (A := some ⟨b0, 0, none⟩) n xs U23 U23 ti40 rfl rfl hR h1 (by omega) (by omega) (by omega) (List.nil_append _)) rfl (fun v B' H' hΦ hB => ?_)
  obtain ⟨A1, c1, rfl, hA1, hc1, hBB, rfl⟩ := hΦ
  have hBB2 := hBB.symm
  subst hBB2
  clear hB
  refine Lx.y (asg rfl) rfl <| Lx.nil <| ?_
  refine Xx.tn (k6 _ _ _ _ ?_)
  refine Cx.ret ?_
  exact Xx.ret1 rfl rfl ⟨rfl, A1, c1, rfl, rfl⟩ (Frag.le_refl _) rfl
theorem JAddU_ct (jb : Nat) (j : Jn) (d : Dk) (bodies : List (List UInt8)) (Ab : Option Addr) (cb K L C : Nat) (B : Frag) (hRb : RoS B 1 Ab bodies.length (bodies.map str)) (hc : DkN.Calm K L C d.abs) (hK : K ≤ 900000) (hL : L ≤ 10000000000) (hC : C ≤ 1000000000) (hbs : ∀ s ∈ bodies, s.length ≤ 65536) (hall : (allF bodies).length ≤ 10000000000) (hbl : bodies.length ≤ 1000000) (hjl : j.l.length ≤ 1000000000) (hjf : j.last ≤ 1000000000) :
    Ct Tryz.prog 48 [.pointer (some ⟨jb, 0, none⟩), .slice Ab bodies.length cb] B (jnH jb j * dkH j.db d) (fun v B' H' => ∃ (n e : Int) (j' : Jn) (d' : Dk), v = .tuple #[i64 n, i64 e] ∧ H' = jnH jb j' * dkH j.db d' ∧
      ((e = 50 ∧ (addD d.abs (fileOf j) (allF bodies)).2 ≠ 0 ∧ j' = j ∧ d'.abs = d.abs) ∨ (e = 0 ∧ (addD d.abs (fileOf j) (allF bodies)).2 = 0 ∧ n = (j.l.length : Int) ∧ d'.abs = (addD d.abs (fileOf j) (allF bodies)).1 ∧ ∃ Al5 cl5, j' = { j with last := fileOf j, long := (fileM ((fileOf j : Nat) : Int) d.abs.fs).now.length + (allF bodies).length, l := j.l ++ recsAt (fileOf j) (fileM ((fileOf j : Nat) : Int) d.abs.fs).now.length bodies, Al := Al5, cl := cl5 }))) := by
  refine Ct.mono (Jn3.JAdd_ct jb j d bodies Ab cb K L C B hRb hc hK hL hC hbs hall hbl hjl hjf) ?_
  rintro v B' H' ⟨d', hd', ⟨h1, rfl, rfl⟩ | ⟨h1, rfl, Al, cl, rfl⟩⟩
  · have h2 := Jn4.addD_fail hc h1
    rw [h2] at hd' h1 ⊢
    exact ⟨0, 50, j, d', rfl, rfl, .inl ⟨rfl, h1, rfl, hd'⟩⟩
  · exact ⟨(j.l.length : Int), 0, _, d', rfl, rfl, .inr ⟨rfl, h1, rfl, hd', Al, cl, rfl⟩⟩
theorem blkR_take (b : Bk) {i : Nat} (h : i < (bodd b.revs).length) : (blkR b).take (i + 1 + 1) = (blkR b).take (i + 1) ++ [68 :: (b.revs.getD (bodd b.revs)[i] zRv).body] := by
  unfold blkR
  rw [List.take_succ_cons, List.take_succ_cons, List.take_succ_eq_append_getElem (by rw [List.length_map]; exact h), List.getElem_map]; rfl
set_option maxHeartbeats 2000000 in
theorem Put_ct (vb : Nat) (x : Vm) (j : Jn) (d : Dk) (bm : Bm) (K L C : Nat) (B : Frag) (hk : VmOk B x) (hR : bm.ro B) (hin : BkIn bm.b) (hx : x.ms.length ≤ 800000) (hdb : j.db = x.db) (hc : DkN.Calm K L C d.abs) (hK : K ≤ 900000) (hL : L ≤ 10000000000) (hC : C ≤ 1000000000) (hjl : j.l.length ≤ 1000000000) (hjf : j.last ≤ 1000000000) : Ct Tryz.prog 13 [.pointer (some ⟨vb, 0, none⟩), .agg (bmc bm).toArray] B (vH vb x * (jnH x.jb j * dkH x.db d)) (fun v B' H' => ∃ x' j' d', H' = vH vb x' * (jnH x.jb j' * dkH x.db d') ∧ VmOk B' x' ∧ x'.db = x.db ∧ x'.jb = x.jb ∧ ((followsF bm.b (BitVec.ofInt 64 (x.ms.length : Nat)) (prevF x.vs.l) ≠ 0 ∧ v = i64 (followsF bm.b (BitVec.ofInt 64 (x.ms.length : Nat)) (prevF x.vs.l)) ∧ x' = x ∧ j' = j ∧ d' = d) ∨ (followsF bm.b (BitVec.ofInt 64 (x.ms.length : Nat)) (prevF x.vs.l) = 0 ∧ (∃ i ∈ bodd bm.b.revs, (bm.b.revs.getD i zRv).gone = true) ∧ v = i64 230 ∧ x' = x ∧ j' = j ∧ d' = d) ∨ (followsF bm.b (BitVec.ofInt 64 (x.ms.length : Nat)) (prevF x.vs.l) = 0 ∧ (∀ i ∈ bodd bm.b.revs, (bm.b.revs.getD i zRv).gone = false) ∧ (((addD d.abs (fileOf j) (allF (blkR bm.b))).2 ≠ 0 ∧ v = i64 50 ∧ x' = x ∧ j' = j ∧ d'.abs = d.abs) ∨ ((addD d.abs (fileOf j) (allF (blkR bm.b))).2 = 0 ∧ v = i64 0 ∧ x'.vs = takeV x.vs bm.b j.l.length ∧ d'.abs = (addD d.abs (fileOf j) (allF (blkR bm.b))).1 ∧ ∃ Al5 cl5, j' = { j with last := fileOf j, long := (fileM ((fileOf j : Nat) : Int) d.abs.fs).now.length + (allF (blkR bm.b)).length, l := j.l ++ recsAt (fileOf j) (fileM ((fileOf j : Nat) : Int) d.abs.fs).now.length (blkR bm.b), Al := Al5, cl := cl5 }))))) := by
 have hdead : d.dead = false := hc.dead
 refine Ct.of_body Tryz.func13 rfl (nt := 81) rfl (by kernel_rfl) rfl ?_
 intro N0 w0 R
 simp only [star_assoc]
 refine Cx.seq (fun K1 k1 => ?_)
 refine Cx.region ?_
 refine Lx.new (boxA rfl) rfl (fun b1 => ?_)
 refine Lx.y (asg rfl) rfl <| Lx.nil <| ?_
 refine Xx.tn (k1 _ _ _ _ ?_)
 refine Cx.seq (fun K2 k2 => ?_)
 refine Cx.seq (fun K3 k3 => ?_)
 refine Cx.region <| Lx.y (mv rfl) rfl <| ?_
 refine Lx.co rfl rfl rfl (CtC.of (VDead_ct vb x d _) (show Value.bool d.dead = .bool false from by rw [hdead]) rfl) (pickTwo) rfl ?_
 simp only [star_assoc]
 refine Lx.nil ?_
 refine Xx.tn (k3 _ _ _ _ ?_)
 refine Cx.condF rfl <| Cx.skip <| ?_
 refine Xx.tn (k2 _ _ _ _ ?_)
 refine Cx.seq (fun K4 k4 => ?_)
 refine Cx.seq (fun K5 k5 => ?_)
 refine Cx.drawn (by kernel_rfl) ?_
 refine Dx.r (i := 0) rfl (by kernel_rfl) (ldA U25 rfl sz25 rfl (Cells.own (n := 4) PickB.eq (show ((bmc bm).drop 0).take 4 = bmc bm from rfl)) rfl) rfl ?_
 refine Dx.p (i := 1) rfl (by kernel_rfl) (mv rfl) rfl ?_
 refine Dx.p (i := 2) rfl (by kernel_rfl) (nilc rfl) rfl ?_
 refine Dx.p (i := 3) rfl (by kernel_rfl) (fa' fo94_2 rfl) rfl ?_
 refine Dx.r (i := 4) rfl (by kernel_rfl) (ld U51 rfl rfl rfl) rfl ?_
 refine Dx.p (i := 5) rfl (by kernel_rfl) (lenV (ty' := 0) U51 rfl) rfl ?_
 refine Dx.p (i := 6) rfl (by kernel_rfl) (cvW64 rfl U3 U22) rfl ?_
 refine Dx.p (i := 7) rfl (by kernel_rfl) (mv rfl) rfl ?_
 refine Dx.one (i := 8) (by kernel_rfl) ?_
 refine Dstep.o (i := 8) rfl (Ox.co rfl rfl rfl (prev_ct vb x _ hk) (Pick.eq)) rfl (fun v B' H' hΦ hB => ?_)
 obtain ⟨rfl, hBB, rfl⟩ := hΦ; have hBB2 := hBB.symm; subst hBB2; clear hB
 refine ⟨JOk.yes (JOk.yes (JOk.top) (ldA U25 rfl sz25 rfl (Cells.own (n := 4) PickB.eq (show ((bmc bm).drop 0).take 4 = bmc bm from rfl)) rfl)) (ld U51 rfl rfl rfl), ?_⟩
 refine Dx.one (i := 9) (by kernel_rfl) ?_
 refine Dstep.o (i := 9) rfl (Ox.cb rfl rfl rfl (Follows_ct bm (BitVec.ofInt 64 (x.ms.length : Nat)) (prevF x.vs.l) _ hR hin)) rfl (fun v B' H' hΦ hB => ?_)
 obtain ⟨rfl, rfl, hBB⟩ := hΦ; have hBB2 := hBB.symm; subst hBB2; clear hB
 refine ⟨JOk.yes (JOk.edge (JOk.top) (by kernel_rfl)) (ld U51 rfl rfl rfl), ?_⟩
 refine Dx.p (i := 10) rfl (by kernel_rfl) (asg rfl) rfl ?_
 refine Dx.done (by kernel_rfl) ?_
 refine Xx.tn (k5 _ _ _ _ ?_)
 refine Cx.seq (fun K6 k6 => ?_)
 refine Cx.region <| Lx.y (mv rfl) rfl <| Lx.y (neI rfl rfl) rfl <| Lx.nil <| ?_
 refine Xx.tn (k6 _ _ _ _ ?_)
 refine Cx.condN rfl (fun h7 => ?_) (fun h7 => ?_)
 ·
  have g1 := h7
  refine Cx.seq (fun K8 k8 => ?_)
  refine Cx.region <| Lx.y (mv rfl) rfl <| Lx.y (asg rfl) rfl <| Lx.nil <| ?_
  refine Xx.tn (k8 _ _ _ _ ?_)
  refine Cx.ret <| Xx.tr <| ?_
  refine Xx.dropB b1 ?_
  exact Xx.ret1 rfl rfl ⟨x, j, d, rfl, hk.mono (Frag.le_refl _), rfl, rfl, .inl ⟨g1, rfl, rfl, rfl, rfl⟩⟩ (Frag.le_refl _) (by ac_rfl)
 ·
  have g1 := h7
  have ho := (follows_ok g1 (prevF_len _)).1
  obtain ⟨hs1, hs2⟩ := blkR_small ho
  have hs3 := blkR_all ho
  have hol := bodd_len bm.b.revs
  have ho3 := ho.2.2.1
  have hfl := frameB_len ho
  have hrl := blkR_len bm.b
  refine Cx.skip ?_
  refine Xx.tn (k4 _ _ _ _ ?_)
  refine Cx.seq (fun K9 k9 => ?_)
  refine Cx.region <| Lx.y (ldA U25 rfl sz25 rfl (Cells.own (n := 4) PickB.eq (show ((bmc bm).drop 0).take 4 = bmc bm from rfl)) rfl) rfl <| ?_
  refine Lx.cp rfl rfl rfl (Frame_ct bm _ hR (ok_sm ho)) rfl ?_
  refine Lx.y (Yx.val (catS (l := [66]) (l2 := frameB bm.b) rfl rfl (by simp; omega)) (show _ = str (66 :: frameB bm.b) from rfl)) rfl ?_
  refine Lx.bsl (bsl1 U43 ti9 rfl rfl rfl (by decide)) rfl (fun bq => ?_)
  refine Lx.y (asg rfl) rfl <| Lx.nil <| ?_
  refine Xx.tn (k9 _ _ _ _ ?_)
  refine Cx.seq (fun K10 k10 => ?_)
  refine Cx.seq (fun K11 k11 => ?_)
  refine Xx.closeT bq [str (66 :: frameB bm.b)] [] 1 1 1 rfl rfl (Nat.le_refl _) rfl ?_
  refine Cx.region <| Lx.y (ldA U25 rfl sz25 rfl (Cells.own (n := 4) PickB.eq (show ((bmc bm).drop 0).take 4 = bmc bm from rfl)) rfl) rfl <| ?_
  refine Lx.cb rfl rfl rfl (bodied2_ct bm _ hR (by omega)) rfl ?_
  rintro v7 B7 ⟨Ab, cb, rfl, hRb⟩ hB7
  refine Lx.y (lenV (ty' := 0) U26 rfl) rfl <| Lx.y (mv rfl) rfl <| Lx.nil <| ?_
  refine Xx.tn (k11 _ _ _ _ ?_)
  refine Cx.block ?_
  refine Cx.loopK (Sc 0 rfl (Sc 1 rfl (Sc 3 rfl (Sc 5 rfl (Sc 11 rfl (Sc 12 rfl (Sc 13 rfl (Sc 14 rfl (Sc 15 rfl (Sc 16 rfl (Sc 17 rfl (Sc 18 rfl (Sc 19 rfl (Sc 20 rfl (Sc 21 rfl (Sc 22 rfl (Sc 23 rfl (Sc 24 rfl (Sc 26 rfl (Sc 27 rfl (Sc 28 rfl (Sc 29 rfl (Sc 30 rfl (Sc 31 rfl (Sc 32 rfl (Sub.nil _)))))))))))))))))))))))))) (fun m ρ' B' H' => ∃ (i : Nat) (A2 : Option Addr) (c2 : Nat), (i ≤ (bodd bm.b.revs).length ∧ ∀ t (ht : t < (bodd bm.b.revs).length), t < i → (bm.b.revs.getD (bodd bm.b.revs)[t] zRv).gone = false) ∧ m = (bodd bm.b.revs).length - i ∧ ρ' = [(6, .slice A2 (i + 1) c2), (33, i64 (i : Int))] ∧ B7 = B' ∧ sbuf 9 1 A2 (i + 1) c2 (((blkR bm.b).take (i + 1)).map str) * (row b1 25 (bmc bm) * (vH vb x * (jnH x.jb j * (dkH x.db d * R)))) = H') ⟨0, some ⟨bq, 0, none⟩, 1, ⟨Nat.zero_le _, fun t _ h => absurd h (Nat.not_lt_zero t)⟩, rfl, rfl, rfl, by ac_rfl⟩ (Sc 6 rfl (Sc 33 rfl (Sc 0 rfl (Sc 1 rfl (Sc 3 rfl (Sc 5 rfl (Sc 11 rfl (Sc 12 rfl (Sc 13 rfl (Sc 14 rfl (Sc 15 rfl (Sc 16 rfl (Sc 17 rfl (Sc 18 rfl (Sc 19 rfl (Sc 20 rfl (Sc 21 rfl (Sc 22 rfl (Sc 23 rfl (Sc 24 rfl (Sc 26 rfl (Sc 27 rfl (Sc 28 rfl (Sc 29 rfl (Sc 30 rfl (Sc 31 rfl (Sc 32 rfl (Sub.nil _)))))))))))))))))))))))))))) ?_
  rintro m ρ' B' H' ⟨i, A2, c2, ⟨hi, hng⟩, rfl, rfl, rfl, rfl⟩
  refine Cx.seq (fun K13 k13 => ?_)
  refine Cx.region <| Lx.y (lss rfl rfl) rfl <| Lx.nil <| ?_
  refine Xx.tn (k13 _ _ _ _ ?_)
  refine Cx.seq (fun K14 k14 => ?_)
  refine Cx.condD rfl (fun h15 => ?_) (fun h15 => ?_)
  ·
   have hlt := h15
   have hlt : i < (bodd bm.b.revs).length := by omega
   obtain ⟨b0, o0, cs0, et0, fz0, hA0, hB0, hv0⟩ := hRb.at1 hlt
   rw [List.getElem?_map, List.getElem?_eq_getElem hlt] at hv0
   have hoi : ((bodd bm.b.revs)[i]'hlt) < bm.b.revs.length := by
    obtain ⟨q, hq, _⟩ := mem_bodd.1 (List.getElem_mem hlt)
    exact (List.getElem?_eq_some_iff.1 hq).1
   obtain ⟨b9, o9, cs9, et9, fz9, hA9, hB9, hc9⟩ := flat_at rvc_len (hR (by omega)) hoi
   have hB9 := hB7 _ _ hB9
   have hgd : bm.b.revs.getD ((bodd bm.b.revs)[i]'hlt) zRv = (bm.b.revs[((bodd bm.b.revs)[i]'hlt)]'hoi) := by rw [List.getD_eq_getElem?_getD, List.getElem?_eq_getElem hoi]; rfl
   have hbl := (hin.revs _ (List.getElem_mem hoi)).1
   refine Cx.skip ?_
   refine Xx.tn (k14 _ _ _ _ ?_)
   refine Cx.seq (fun K16 k16 => ?_)
   refine Cx.block ?_
   refine Cx.seq (fun K17 k17 => ?_)
   refine Cx.region <| Lx.y (Yx.val (ia (b := b0) (o := o0) U26 sz3 (by rw [← hA0]; rfl) rfl (Int.toNat_natCast _) (by omega) (by omega)) rfl) rfl <| Lx.y (ldB U3 rfl rfl hB0 hv0) rfl <| Lx.y (asg rfl) rfl <| Lx.nil <| ?_
   refine Xx.tn (k17 _ _ _ _ ?_)
   refine Cx.seq (fun K18 k18 => ?_)
   refine Cx.seq (fun K19 k19 => ?_)
   refine Cx.region <| Lx.y (fa' fo25_3 rfl) rfl <| Lx.y (ld U23 rfl rfl rfl) rfl <| Lx.y (mv rfl) rfl <| Lx.y (Yx.val (ia (b := b9) (o := o9) U23 sz40 (by rw [← hA9]; rfl) rfl (Int.toNat_natCast _) (by omega) (by omega)) rfl) rfl <| Lx.y (fa' fo40_7 rfl) rfl <| Lx.y (ldB U4 rfl rfl hB9 (cell_of hc9 7 (by omega) rfl)) rfl <| Lx.nil <| ?_
   refine Xx.tn (k19 _ _ _ _ ?_)
   refine Cx.condB rfl (fun h20 => ?_) (fun h20 => ?_)
   ·
    have g3 := h20
    refine Cx.seq (fun K21 k21 => ?_)
    refine Cx.region <| Lx.y (asg rfl) rfl <| Lx.nil <| ?_
    refine Xx.tn (k21 _ _ _ _ ?_)
    refine Cx.ret <| Xx.tr <| ?_
    refine Xx.br ?_
    refine Xx.tr <| Xx.tr <| ?_
    refine Xx.br ?_
    refine Xx.tr ?_
    refine Xx.dropT A2 (Xx.dropB b1 ?_)
    exact Xx.ret1 rfl rfl ⟨x, j, d, rfl, hk.mono (hB7), rfl, rfl, .inr (.inl ⟨g1, ⟨((bodd bm.b.revs)[i]'hlt), List.getElem_mem hlt, by rw [hgd]; exact g3⟩, rfl, rfl, rfl, rfl⟩)⟩ (hB7) (by ac_rfl)
   ·
    have g3 := h20
    refine Cx.skip ?_
    refine Xx.tn (k18 _ _ _ _ ?_)
    refine Cx.region <| Lx.y (mv rfl) rfl <| Lx.y (fa' fo25_3 rfl) rfl <| Lx.y (ld U23 rfl rfl rfl) rfl <| Lx.y (mv rfl) rfl <| Lx.y (Yx.val (ia (b := b9) (o := o9) U23 sz40 (by rw [← hA9]; rfl) rfl (Int.toNat_natCast _) (by omega) (by omega)) rfl) rfl <| Lx.y (fa' fo40_6 rfl) rfl <| Lx.y (ldB U9 rfl rfl hB9 (cell_of hc9 6 (by omega) rfl)) rfl <| Lx.y (Yx.val (catS (l := [68]) (l2 := (bm.b.revs[((bodd bm.b.revs)[i]'hlt)]'hoi).body) rfl rfl (by simp; omega)) (show _ = str (68 :: (bm.b.revs[((bodd bm.b.revs)[i]'hlt)]'hoi).body) from rfl)) rfl <| ?_
    refine Lx.bsl (bsl1 U43 ti9 rfl rfl rfl (by decide)) rfl (fun bv => ?_)
    refine Lx.o (appN (et := 9) (A := A2) (i + 1 + 1) [str (68 :: (bm.b.revs[((bodd bm.b.revs)[i]'hlt)]'hoi).body)] ((((blkR bm.b).take (i + 1)) ++ [68 :: (bm.b.revs.getD ((bodd bm.b.revs)[i]'hlt) zRv).body]).map str) U43 U43 ti9 rfl rfl rfl rfl rfl (by omega) (by omega) rfl (by rw [List.map_append, hgd]; rfl)) rfl (fun v B' H' hΦ hB => ?_)
    obtain ⟨A3, c3, rfl, hA3, hl3, hc3, hBB, rfl⟩ := hΦ
    have hBB2 := hBB.symm
    subst hBB2
    refine Xx.dropB bv ?_
    clear hB
    refine Lx.y (asg rfl) rfl <| Lx.nil <| Xx.bn <| ?_
    refine Xx.tn (k16 _ _ _ _ ?_)
    refine Cx.region <| Lx.y (Yx.val (add rfl rfl (by first | exact wrap64 (by omega) (by omega) | rfl)) (show _ = i64 ((i + 1 : Nat) : Int) from rfl)) rfl <| Lx.y (mv rfl) rfl <| Lx.nil <| ?_
    exact Xx.againK ⟨i + 1, A3, c3, ⟨hlt, fun t ht h => (Nat.lt_succ_iff_lt_or_eq.1 h).elim (hng t ht) fun e => by subst e; rw [hgd]; exact g3⟩, rfl, rfl, rfl, (by rw [blkR_take bm.b hlt])⟩ (by omega) (Sc 6 rfl (Sc 33 rfl (Sc 0 rfl (Sc 1 rfl (Sc 3 rfl (Sc 5 rfl (Sc 11 rfl (Sc 12 rfl (Sc 13 rfl (Sc 14 rfl (Sc 15 rfl (Sc 16 rfl (Sc 17 rfl (Sc 18 rfl (Sc 19 rfl (Sc 20 rfl (Sc 21 rfl (Sc 22 rfl (Sc 23 rfl (Sc 24 rfl (Sc 26 rfl (Sc 27 rfl (Sc 28 rfl (Sc 29 rfl (Sc 30 rfl (Sc 31 rfl (Sc 32 rfl (Sub.nil _))))))))))))))))))))))))))))
  ·
   have hge := h15
   obtain rfl : i = (bodd bm.b.revs).length := by omega
   rw [List.take_of_length_le (by rw [hrl]; omega), show (bodd bm.b.revs).length + 1 = (blkR bm.b).length by rw [hrl]; omega]
   have hng2 : ∀ t ∈ bodd bm.b.revs, (bm.b.revs.getD t zRv).gone = false := fun t ht => by
    obtain ⟨q, hq, rfl⟩ := List.getElem_of_mem ht
    exact hng q hq hq
   refine Cx.exit <| Xx.te <| Xx.te <| Xx.bh <| ?_
   refine Xx.tn (k10 _ _ _ _ ?_)
   refine Cx.seq (fun K22 k22 => ?_)
   refine Xx.freezeT A2 fun B4 hB4 hRo hnc _ => ?_
   refine Cx.region <| Lx.y (mv rfl) rfl <| Lx.y (nilc rfl) rfl <| Lx.y (fa' fo94_1 rfl) rfl <| Lx.y (ld U91 rfl rfl rfl) rfl <| Lx.y (mv rfl) rfl <| ?_
   refine Lx.c rfl rfl rfl (JAddU_ct x.jb j d (blkR bm.b) A2 c2 K L C _ hRo hc hK hL hC (fun s hs => Nat.le_trans (hs1 s hs) (by decide)) (by omega) (by omega) hjl hjf) (show _ = (jnH x.jb j * dkH j.db d) * (row b1 25 (bmc bm) * (vH vb x * R)) by rw [hdb]; ac_rfl) rfl ?_
   rintro v5 B5 H5 ⟨n5, e5, j5, d1, rfl, rfl, h5⟩ hB5
   rw [hdb]
   refine Lx.y (mv rfl) rfl <| Lx.y (ext rfl rfl) rfl <| Lx.y (ext rfl rfl) rfl <| Lx.y (asg rfl) rfl <| Lx.y (asg rfl) rfl <| Lx.nil <| ?_
   refine Xx.tn (k22 _ _ _ _ ?_)
   refine Cx.seq (fun K23 k23 => ?_)
   refine Cx.seq (fun K24 k24 => ?_)
   refine Cx.region <| Lx.y (mv rfl) rfl <| Lx.y (eqI rfl rfl) rfl <| Lx.nil <| ?_
   refine Xx.tn (k24 _ _ _ _ ?_)
   refine Cx.condD rfl (fun h25 => ?_) (fun h25 => ?_)
   ·
    have g4 := h25
    obtain ⟨ha2, hj5, hd1⟩ : (addD d.abs (fileOf j) (allF (blkR bm.b))).2 ≠ 0 ∧ j5 = j ∧ d1.abs = d.abs := by
     rcases h5 with ⟨_, q1, q2, q3⟩ | ⟨q0, _⟩
     ·exact ⟨q1, q2, q3⟩
     ·omega
    subst hj5
    refine Cx.seq (fun K26 k26 => ?_)
    refine Cx.region <| Lx.y (mv rfl) rfl <| Lx.y (asg rfl) rfl <| Lx.nil <| ?_
    refine Xx.tn (k26 _ _ _ _ ?_)
    refine Cx.ret <| Xx.tr <| ?_
    refine Xx.dropB b1 ?_
    exact Xx.ret1 rfl rfl ⟨x, _, d1, rfl, hk.mono (Frag.le_trans hB7 (Frag.le_trans hB4 hB5)), rfl, rfl, .inr (.inr ⟨g1, hng2, .inl ⟨ha2, congrArg (fun z : Int => i64 z) g4, rfl, rfl, hd1⟩⟩)⟩ (Frag.le_trans hB7 (Frag.le_trans hB4 hB5)) (by ac_rfl)
   ·
    have g4 := h25
    obtain ⟨he5, ha2, hn5, hd1, Al5, cl5, hj5⟩ := h5.resolve_left fun e => g4 e.1
    subst hn5
    refine Cx.skip ?_
    refine Xx.tn (k23 _ _ _ _ ?_)
    refine Cx.seq (fun K27 k27 => ?_)
    refine Cx.seq (fun K28 k28 => ?_)
    refine Cx.region <| Lx.y (mv rfl) rfl <| Lx.y (neI rfl rfl) rfl <| Lx.nil <| ?_
    refine Xx.tn (k28 _ _ _ _ ?_)
    refine Cx.condN rfl (fun h29 => ?_) (fun h29 => ?_)
    ·
     have g5 := h29
     exact absurd he5 g5
    ·
     have g5 := h29
     refine Cx.skip ?_
     refine Xx.tn (k27 _ _ _ _ ?_)
     refine Cx.seq (fun K30 k30 => ?_)
     refine Cx.region <| Lx.y (fa' fo25_3 rfl) rfl <| Lx.y (ld U23 rfl rfl rfl) rfl <| ?_
     refine Lx.c rfl rfl rfl (CR_ro bm.A bm.b.revs.length bm.c (bm.b.revs.flatMap rvc) _ ((hR ho.2.1).mono (Frag.le_trans hB7 (Frag.le_trans hB4 hB5))) (rvc_all _) (by omega) (by omega)) ((one_star _).symm) rfl ?_
     rintro v6 B6 H6 ⟨hBB, A6, c6, rfl, rfl⟩ hB6
     have hBB2 := hBB.symm
     subst hBB2
     clear hB6
     refine Lx.y (fa' fo25_3 rfl) rfl ?_
     refine Lx.st (stO U23 sz23 rfl rfl rfl (by show 3 < 4; omega) rfl) ?_
     refine Lx.nil ?_
     refine Xx.tn (k30 _ _ _ _ ?_)
     refine Cx.seq (fun K31 k31 => ?_)
     refine Xx.freezeT A6 fun B8 hB8 hRo6 hnc6 _ => ?_
     refine Cx.region <| Lx.y (mv rfl) rfl <| Lx.y (ldA U25 rfl sz25 rfl (Cells.own (n := 4) (vs := bmc ⟨bm.b, A6, c6⟩) PickB.eq rfl) rfl) rfl <| Lx.y (mv rfl) rfl <| ?_
     refine Lx.c rfl rfl rfl (take_ct vb x ⟨bm.b, A6, c6⟩ j.l.length _ (hk.mono (Frag.le_trans hB7 (Frag.le_trans hB4 (Frag.le_trans hB5 hB8)))) (fun _ => hRo6) ho (by omega) (by omega)) (Pick.eq) rfl ?_
     rintro v11 B11 H11 ⟨rfl, x', rfl, hx1, hx2, hx3, hx4, hx5⟩ hB11
     refine Lx.nil ?_
     refine Xx.tn (k31 _ _ _ _ ?_)
     refine Cx.seq (fun K32 k32 => ?_)
     refine Cx.region <| Lx.y (asg rfl) rfl <| Lx.nil <| ?_
     refine Xx.tn (k32 _ _ _ _ ?_)
     refine Cx.ret ?_
     refine Xx.dropB b1 ?_
     have hBt := Frag.le_trans hB7 (Frag.le_trans hB4 (Frag.le_trans hB5 (Frag.le_trans hB8 hB11)))
     exact Xx.ret1 rfl rfl ⟨x', j5, d1, rfl, ⟨fun b hb => by rw [hx1] at hb; rcases List.mem_append.1 hb with hb | hb; exact (hk.mono hBt).1 b hb; rw [List.mem_singleton.1 hb]; exact ⟨Bm.ro_mono (fun _ => hRo6) hB11, ho⟩, by rw [hx1, List.length_append, List.length_singleton]; omega⟩, hx4, hx5, .inr (.inr ⟨g1, hng2, .inr ⟨ha2, rfl, by unfold Vm.vs takeV; simp only [hx1, hx2, hx3, List.map_append, List.map_cons, List.map_nil], hd1, Al5, cl5, hj5⟩⟩)⟩ hBt (by ac_rfl)
end ViD
end Go.Proofs.YthlfffbcligocaaGreat
namespace Go.Proofs.YthlfffbcligocaaGreat
open Go.SL Go.RowKit
set_option maxRecDepth 100000
open VhA VhB VhC VhD VhE VhF VhG VhH VhI VhJ VhK VhL VhM VhN VhO VhP VhQ VhR VhS VhT VhU VhV VhW VhX VhY VhZ ViA ViB ViC ViE ViF ViG ViH ViI
open Jn1 (Rc rcc Jn jnH atV)
open DkB (Dm Dk dkH findM)
open Jn4 (Ck Holds Fits recsOf lastLen Still)
open Jn3 (addD allF recsAt fileOf)
open ViD (Put_ct)
open DkA (sec)
namespace ViJ
theorem sz3 : (Tryz.prog.info? 3).map (·.size) = some 1 := by kernel_rfl
theorem sz4 : (Tryz.prog.info? 4).map (·.size) = some 1 := by kernel_rfl
theorem sz5 : (Tryz.prog.info? 5).map (·.size) = some 1 := by kernel_rfl
theorem sz9 : (Tryz.prog.info? 9).map (·.size) = some 1 := by kernel_rfl
theorem sz22 : (Tryz.prog.info? 22).map (·.size) = some 1 := by kernel_rfl
theorem sz23 : (Tryz.prog.info? 23).map (·.size) = some 1 := by kernel_rfl
theorem sz25 : (Tryz.prog.info? 25).map (·.size) = some 4 := by kernel_rfl
theorem sz40 : (Tryz.prog.info? 40).map (·.size) = some 8 := by kernel_rfl
theorem sz51 : (Tryz.prog.info? 51).map (·.size) = some 1 := by kernel_rfl
theorem ti3 : TI Tryz.prog 3 [.int .i64 0] 1 8 := TI.of (by kernel_rfl) rfl rfl
theorem ti5 : TI Tryz.prog 5 [.int .u8 0] 1 1 := TI.of (by kernel_rfl) rfl rfl
theorem ti25 : TI Tryz.prog 25 [.int .u64 0, str [], .int .u64 0, .slice none 0 0] 4 56 := TI.of (by kernel_rfl) rfl rfl
theorem ti40 : TI Tryz.prog 40 [.int .i64 0, str [], str [], .int .u64 0, .int .u64 0, str [], str [], .bool false] 8 96 := TI.of (by kernel_rfl) rfl rfl
theorem PutS_ct (vb : Nat) (x : Vm) (j : Jn) (d : Dk) (bm : Bm) (fb : List (List Ck)) (l : List Bk) (K L C : Nat) (B : Frag) (hk : VmOk B x) (hR : bm.ro B) (hl : x.vs.l = l) (hfo : followsF bm.b (BitVec.ofInt 64 (l.length : Nat)) (prevF l) = 0) (hfr : Fresh bm.b)
    (hs : Sd K L C d.abs fb l) (hf : Fits d.abs j fb) (hdb : j.db = x.db) (hK : K ≤ 900000) (hL : L ≤ 1000000) (hC : C ≤ 1000000000) (hll : l.length ≤ 10000) (hroom : ((sec (L + (allF (blkR bm.b)).length) + K * sec L : Nat) : Int) ≤ d.abs.room) :
    Ct Tryz.prog 13 [.pointer (some ⟨vb, 0, none⟩), .agg (bmc bm).toArray] B (vH vb x * (jnH x.jb j * dkH x.db d)) (fun v B' H' => ∃ x' j' d' fb', v = i64 0 ∧ H' = vH vb x' * (jnH x'.jb j' * dkH x'.db d') ∧ VmOk B' x' ∧ x'.db = x.db ∧ x'.jb = x.jb ∧ x'.vs.l = l ++ [bm.b] ∧ j'.db = x'.db ∧ j'.most = j.most ∧
      Sd (K + 2) (L + (allF (blkR bm.b)).length) (C + 2) d'.abs fb' (l ++ [bm.b]) ∧ Fits d'.abs j' fb' ∧ d'.abs.room = d.abs.room) := by
  have ho := (follows_ok hfo (prevF_len _)).1
  have hml : x.ms.length = l.length := by rw [← hl]; exact (List.length_map ..).symm
  have hjl : j.l.length ≤ 650000 := by rw [hf.l]; have := sd_count hs; omega
  have hjla : j.last ≤ 1000000 := by rw [hf.last]; have := sd_len hs; omega
  have ha := Jn12.add_room hs.calm (file := fileOf j) hroom
  refine Ct.mono (Put_ct vb x j d bm K L C B hk hR (ok_in ho) (by omega) hdb hs.calm hK (by omega) hC (by omega) (by omega)) ?_
  rintro v B' H' ⟨x', j', d', rfl, hk', hxd, hxj, h⟩
  rw [hml, hl] at h
  rcases h with ⟨h1, _⟩ | ⟨_, ⟨i, hi, h2⟩, _⟩ | ⟨_, _, ⟨h3, _⟩ | ⟨h3, rfl, hv, hd, Al, cl, hj⟩⟩
  · exact absurd hfo h1
  · obtain ⟨r, hr, _⟩ := mem_bodd.1 hi
    have e : bm.b.revs.getD i zRv = r := by rw [List.getD_eq_getElem?_getD, hr]; rfl
    rw [e, hfr r (List.mem_of_getElem? hr)] at h2
    cases h2
  · exact absurd ha h3
  · obtain ⟨fb', hs', hf'⟩ := sd_put hs hf hfo hfr ha Al cl
    refine ⟨x', j', d', fb', rfl, by rw [hxj, hxd], hk', hxd, hxj, ?_, by rw [hj]; exact hdb.trans hxd.symm, by rw [hj], by rw [hd]; exact hs', by rw [hd, hj]; exact hf', by rw [hd]; exact Jn12.addD_roomy hs.calm _ _⟩
    rw [hv]
    show x.vs.l ++ [bm.b] = _
    rw [hl]
theorem made_all (l : List Bk) (n : Nat) (sizes : List Int) (hn : n < 1000000) : (allF (blkR (madeF l n sizes))).length ≤ 2500 := by
  have ho := (follows_ok (made_ok l n sizes hn).1 (prevF_len _)).1
  have hlen : (madeF l n sizes).revs.length ≤ 5 ∧ ∀ r ∈ (madeF l n sizes).revs, r.body.length ≤ 331 := by
    unfold madeF
    simp only
    split
    · exact ⟨by decide, fun r hr => by rw [List.mem_singleton.1 hr]; decide⟩
    · refine ⟨by rw [mRvs_len]; omega, fun r hr => ?_⟩
      unfold mRvs at hr
      obtain ⟨i, hi, rfl⟩ := List.getElem_of_mem hr
      rw [List.getElem_mapIdx, ← rRv_seal]
      have := rRv_le n i ((List.take 5 sizes)[i]'(by simpa using hi))
      have h2 : ∀ r : Rv, (sealF r).body = r.body := fun r => by unfold sealF; split <;> rfl
      rw [h2]; exact this
  have h := blkR_all3 ho 331 hlen.2
  have : (madeF l n sizes).revs.length * (140 + 331) ≤ 5 * (140 + 331) := Nat.mul_le_mul_right _ hlen.1
  omega
set_option maxHeartbeats 2000000 in
theorem open_ct (db : Nat) (d : Dk) (fb : List (List Ck)) (l : List Bk) (K L C : Nat) (B : Frag) (hs : Sd K L C d.abs fb l) (hK : K ≤ 1000000) (hL : L ≤ 1048576) (hC : C ≤ 1000000000) (hl : l.length ≤ 10000) : Ct Tryz.prog 11 [.pointer (some ⟨db, 0, none⟩)] B (dkH db d) (fun v B' H' => ∃ vb x j, v = .tuple #[.pointer (some ⟨vb, 0, none⟩), .bool true] ∧ x.vs.l = l ∧ x.db = db ∧ VmOk B' x ∧ j.db = x.db ∧ j.most = 2048 ∧ Fits d.abs j fb ∧ H' = vH vb x * (jnH x.jb j * dkH x.db d)) := by
 refine Ct.of_body Tryz.func11 rfl (nt := 18) rfl (by kernel_rfl) rfl ?_
 intro N0 w0 R
 refine Cx.seq (fun K1 k1 => ?_)
 refine Cx.region <| Lx.y (asg rfl) rfl <| Lx.y (asg rfl) rfl <| Lx.nil <| ?_
 refine Xx.tn (k1 _ _ _ _ ?_)
 refine Cx.seq (fun K2 k2 => ?_)
 refine Cx.region <| Lx.y (mv rfl) rfl <| ?_
 refine Lx.c rfl rfl rfl (Open0_ct db d fb l K L C _ hs hK hL hC hl) (rfl) rfl ?_
 rintro v1 B1 H1 ⟨vb, x, j, rfl, hxl, hxd, hk, hjd, hjm, hfit, rfl⟩ hB1
 refine Lx.y (mv rfl) rfl <| Lx.y (ext rfl rfl) rfl <| Lx.y (ext rfl rfl) rfl <| Lx.y (asg rfl) rfl <| Lx.y (asg rfl) rfl <| Lx.nil <| ?_
 refine Xx.tn (k2 _ _ _ _ ?_)
 refine Cx.seq (fun K3 k3 => ?_)
 refine Cx.region <| Lx.y (mv rfl) rfl <| Lx.y (mv rfl) rfl <| Lx.y (Yx.tt (eqI rfl rfl) rfl) rfl <| Lx.y (mv rfl) rfl <| Lx.gT rfl rfl rfl <| Lx.y (mv rfl) rfl <| Lx.gT rfl rfl rfl <| Lx.y (Yx.tt (neNilP U31 rfl rfl) rfl) rfl <| Lx.y (pickT rfl rfl) rfl <| Lx.y (asg rfl) rfl <| Lx.y (asg rfl) rfl <| ?_
 refine Lx.nil ?_
 refine Xx.tn (k3 _ _ _ _ ?_)
 refine Cx.ret ?_
 exact Xx.ret2 rfl rfl rfl ⟨vb, x, j, rfl, hxl, hxd, hk, hjd.trans hxd.symm, hjm, hfit, rfl⟩ hB1 (by rw [hxd])
set_option maxHeartbeats 2000000 in
theorem awake_ct (B : Frag) : CtB Tryz.prog 12 [] B (fun v B' => v = .bool true) := by
 have hmo := made_ok [] 0 [4] (by decide)
 have hma := made_all [] 0 [4] (by decide)
 refine CtB.of_body Tryz.func12 rfl (nt := 54) rfl (by kernel_rfl) rfl ?_
 intro N0 w0 R
 refine Cx.seq (fun K1 k1 => ?_)
 refine Cx.region <| Lx.y (asg rfl) rfl <| Lx.nil <| ?_
 refine Xx.tn (k1 _ _ _ _ ?_)
 refine Cx.seq (fun K2 k2 => ?_)
 refine Cx.region ?_
 refine Lx.c rfl rfl rfl (Jn5.New2_ct 100 _ (by decide)) ((one_star _).symm) rfl ?_
 rintro v1 B1 H1 ⟨hBB, db, d, rfl, hd, rfl⟩ hB1
 have hBB2 := hBB.symm
 subst hBB2
 clear hB1
 have hs0 : Sd 0 0 0 d.abs [] [] := by rw [hd]; exact sd_new 100 (by decide)
 refine Lx.y (mv rfl) rfl <| Lx.y (ext rfl rfl) rfl <| Lx.y (ext rfl rfl) rfl <| Lx.y (asg rfl) rfl <| Lx.y (asg rfl) rfl <| Lx.nil <| ?_
 refine Xx.tn (k2 _ _ _ _ ?_)
 refine Cx.seq (fun K3 k3 => ?_)
 refine Cx.region <| Lx.y (mv rfl) rfl <| ?_
 refine Lx.c rfl rfl rfl (open_ct db d [] [] 0 0 0 _ hs0 (by decide) (by decide) (by decide) (by decide)) (rfl) rfl ?_
 rintro v2 B2 H2 ⟨vb, x, j, rfl, hxl, hxd, hk, hjd, hjm, hfit, rfl⟩ hB2
 simp only [star_assoc]
 refine Lx.y (mv rfl) rfl <| Lx.y (ext rfl rfl) rfl <| Lx.y (ext rfl rfl) rfl <| Lx.y (asg rfl) rfl <| Lx.y (asg rfl) rfl <| Lx.nil <| ?_
 refine Xx.tn (k3 _ _ _ _ ?_)
 refine Cx.seq (fun K4 k4 => ?_)
 refine Cx.seq (fun K5 k5 => ?_)
 refine Cx.region <| Lx.y (mv rfl) rfl <| Lx.y (not' rfl) rfl <| Lx.y (mv rfl) rfl <| Lx.gT rfl rfl rfl <| Lx.y (mv rfl) rfl <| Lx.gT rfl rfl rfl <| Lx.y (mv rfl) rfl <| Lx.gT rfl rfl rfl <| ?_
 refine Lx.bsl (bsl1 U26 ti3 rfl rfl rfl (by decide)) rfl (fun bs => ?_)
 refine Xx.closeT bs [i64 4] [] 1 1 1 rfl rfl (Nat.le_refl _) rfl ?_
 refine Xx.freezeT (some ⟨bs, 0, none⟩) fun B3 hB3 hRs hnc _ => ?_
 refine Lx.gT rfl rfl rfl ?_
 refine Lx.c rfl rfl rfl (made_ct vb x 0 [4] (some ⟨bs, 0, none⟩) 1 _ (hk.mono hB3) (fun _ => hRs) (by decide) (by decide)) (Pick.eq) rfl ?_
 rintro v6 B6 H6 ⟨rfl, A6, c6, rfl, hR6⟩ hB6
 rw [hxl] at hR6 ⊢
 refine Lx.gT rfl rfl rfl ?_
 refine Lx.c rfl rfl rfl (PutS_ct vb x j d ⟨(madeF [] 0 [4]), A6, c6⟩ [] [] 0 0 0 _ (hk.mono (Frag.le_trans hB3 hB6)) hR6 hxl hmo.1 hmo.2 hs0 hfit hjd (by decide) (by decide) (by decide) (by decide) (by rw [hd]; show ((sec (0 + (allF (blkR (madeF [] 0 [4]))).length) + 0 * sec 0 : Nat) : Int) ≤ 100; unfold DkA.sec; omega)) (show _ = (vH vb x * (jnH x.jb j * dkH x.db d)) * R by ac_rfl) rfl ?_
 rintro v7 B7 H7 ⟨x', j', d', fb', rfl, rfl, hk', hxd', hxj', hxl', hjd', hjm', hs', hf', hrm⟩ hB7
 simp only [star_assoc]
 rw [← hxd, ← hxd']
 have hma2 : (allF (blkR (⟨(madeF [] 0 [4]), A6, c6⟩ : Bm).b)).length ≤ 2500 := hma
 refine Lx.gT rfl rfl rfl <| Lx.y (Yx.ff (neI rfl rfl) rfl) rfl <| Lx.y (pickF rfl rfl) rfl <| Lx.nil <| ?_
 refine Xx.tn (k5 _ _ _ _ ?_)
 refine Cx.condF rfl <| Cx.skip <| ?_
 refine Xx.tn (k4 _ _ _ _ ?_)
 refine Cx.seq (fun K6 k6 => ?_)
 refine Cx.region <| Lx.y (mv rfl) rfl <| ?_
 refine Lx.c rfl rfl rfl (DkE.Crash_ct d' x'.db 0#64 0 _ (hs'.calm.fit (by decide) (by omega) (by decide))) (Pick.eq) rfl ?_
 rintro v8 B8 H8 ⟨rfl, d5, hd5, rfl⟩ hB8
 rw [Jn4.crash_still hs'.still hs'.calm.dead] at hd5
 refine Lx.nil ?_
 refine Xx.tn (k6 _ _ _ _ ?_)
 refine Cx.seq (fun K7 k7 => ?_)
 refine Cx.region <| Lx.y (mv rfl) rfl <| ?_
 refine Lx.co rfl rfl rfl (DkB.Up_ct d5 x'.db _) (Pick.eq) rfl ?_
 obtain ⟨d6, hd6⟩ : ∃ d6 : Dk, d6 = { d5 with dead := false } := ⟨_, rfl⟩
 rw [← hd6]
 have hab : d6.abs = d'.abs := by
  rw [hd6]
  show ({ d5.abs with dead := false } : Dm) = d'.abs
  rw [hd5]
  have h9 := hs'.calm.dead
  cases hq : d'.abs with | mk a b c e f => rw [hq] at h9; simp only at h9; rw [h9]
 refine Lx.nil ?_
 refine Xx.tn (k7 _ _ _ _ ?_)
 refine Cx.seq (fun K8 k8 => ?_)
 refine Cx.region <| Lx.y (mv rfl) rfl <| ?_
 refine Lx.c rfl rfl rfl (open_ct x'.db d6 fb' ([] ++ [(madeF [] 0 [4])]) (0 + 2) _ (0 + 2) _ (by rw [hab]; exact hs') (by decide) (by omega) (by decide) (by decide)) (Pick.eq) rfl ?_
 rintro v9 B9 H9 ⟨wb, y, k, rfl, hyl, hyd, hky, hkd, hkm, hkf, rfl⟩ hB9
 simp only [star_assoc]
 have hyn : y.ms.length = 1 := by have h9 := congrArg List.length hyl; rw [show y.vs.l.length = y.ms.length from List.length_map ..] at h9; exact h9
 have hpy : prevF y.vs.l = hashB (madeF [] 0 [4]) := by rw [hyl]; exact prevF_snoc [] _
 have hpx : prevF x'.vs.l = hashB (madeF [] 0 [4]) := by rw [hxl']; exact prevF_snoc [] _
 refine Lx.y (mv rfl) rfl <| Lx.y (ext rfl rfl) rfl <| Lx.y (ext rfl rfl) rfl <| Lx.y (asg rfl) rfl <| Lx.y (asg rfl) rfl <| Lx.nil <| ?_
 refine Xx.tn (k8 _ _ _ _ ?_)
 refine Cx.seq (fun K9 k9 => ?_)
 refine Cx.region <| Lx.y (mv rfl) rfl <| Lx.y (mv rfl) rfl <| Lx.gT rfl rfl rfl <| Lx.y (mv rfl) rfl <| Lx.gT rfl rfl rfl <| ?_
 refine Lx.co rfl rfl rfl (CtC.of (VLen_ct wb y _) (show _ = u64 1#64 from by rw [hyn]; rfl) rfl) (Pick.eq) rfl ?_
 refine Lx.gT rfl rfl rfl <| Lx.y (Yx.tt (eqI rfl rfl) rfl) rfl <| Lx.y (pickT rfl rfl) rfl <| Lx.y (mv rfl) rfl <| Lx.gT rfl rfl rfl <| Lx.y (mv rfl) rfl <| Lx.gT rfl rfl rfl <| ?_
 refine Lx.co rfl rfl rfl (CtC.of (Prev_ct wb y _ hky) (show _ = str (hashB (madeF [] 0 [4])) from by rw [hpy]) rfl) (Pick.eq) rfl ?_
 refine Lx.gT rfl rfl rfl <| Lx.y (mv rfl) rfl <| Lx.gT rfl rfl rfl <| ?_
 refine Lx.co rfl rfl rfl (CtC.of (Prev_ct vb x' _ (hk'.mono (Frag.le_trans hB8 hB9))) (show _ = str (hashB (madeF [] 0 [4])) from by rw [hpx]) rfl) (Pick.eq) rfl ?_
 refine Lx.gT rfl rfl rfl <| Lx.y (Yx.tt (eqS rfl rfl) (by simp)) rfl <| Lx.y (pickT rfl rfl) rfl <| Lx.y (mv rfl) rfl <| Lx.gT rfl rfl rfl <| Lx.y (mv rfl) rfl <| Lx.gT rfl rfl rfl <| ?_
 refine Lx.co rfl rfl rfl (CtC.of (Prev_ct wb y _ hky) (show _ = str (hashB (madeF [] 0 [4])) from by rw [hpy]) rfl) (Pick.eq) rfl ?_
 refine Lx.gT rfl rfl rfl <| Lx.y (lenS U9 rfl) rfl <| Lx.gT rfl rfl rfl <| Lx.y (Yx.tt (eqI rfl rfl) (by rw [hashB_len]; rfl)) rfl <| Lx.y (pickT rfl rfl) rfl <| Lx.y (asg rfl) rfl <| Lx.nil <| ?_
 refine Xx.tn (k9 _ _ _ _ ?_)
 refine Cx.ret ?_
 repeat refine Xx.drop ?_
 exact Xx.rB1 rfl rfl rfl (Frag.le_trans hB2 (Frag.le_trans hB3 (Frag.le_trans hB6 (Frag.le_trans hB7 (Frag.le_trans hB8 hB9))))) rfl
end ViJ
end Go.Proofs.YthlfffbcligocaaGreat
namespace Go.Proofs.YthlfffbcligocaaGreat
open Go.SL Go.RowKit
set_option maxRecDepth 100000
open VhA VhB VhC VhD VhE VhF VhG VhH VhI VhJ VhK VhL VhM VhN VhO VhP VhQ VhR VhS VhT VhU VhV VhW VhX VhY VhZ ViA ViB ViC ViE ViF ViG ViH ViI ViJ
open Jn1 (Rc rcc Jn jnH atV)
open DkB (Dm Dk dkH findM Dead_ct)
open Jn4 (Ck Holds Fits recsOf lastLen Still)
namespace ViK
theorem sz3 : (Tryz.prog.info? 3).map (·.size) = some 1 := by kernel_rfl
theorem sz4 : (Tryz.prog.info? 4).map (·.size) = some 1 := by kernel_rfl
theorem sz5 : (Tryz.prog.info? 5).map (·.size) = some 1 := by kernel_rfl
theorem sz9 : (Tryz.prog.info? 9).map (·.size) = some 1 := by kernel_rfl
theorem sz22 : (Tryz.prog.info? 22).map (·.size) = some 1 := by kernel_rfl
theorem sz23 : (Tryz.prog.info? 23).map (·.size) = some 1 := by kernel_rfl
theorem sz25 : (Tryz.prog.info? 25).map (·.size) = some 4 := by kernel_rfl
theorem sz40 : (Tryz.prog.info? 40).map (·.size) = some 8 := by kernel_rfl
theorem sz51 : (Tryz.prog.info? 51).map (·.size) = some 1 := by kernel_rfl
theorem ti3 : TI Tryz.prog 3 [.int .i64 0] 1 8 := TI.of (by kernel_rfl) rfl rfl
theorem ti5 : TI Tryz.prog 5 [.int .u8 0] 1 1 := TI.of (by kernel_rfl) rfl rfl
theorem ti25 : TI Tryz.prog 25 [.int .u64 0, str [], .int .u64 0, .slice none 0 0] 4 56 := TI.of (by kernel_rfl) rfl rfl
theorem ti40 : TI Tryz.prog 40 [.int .i64 0, str [], str [], .int .u64 0, .int .u64 0, str [], str [], .bool false] 8 96 := TI.of (by kernel_rfl) rfl rfl
theorem pl25 : PL Tryz.prog 25 [(0, 1), (1, 1), (2, 1), (3, 1)] := PL.of U25 (by kernel_rfl)
set_option maxHeartbeats 1000000 in
theorem JOpenN_ct (n : Int) (B : Frag) : CtP Tryz.prog 62 [.pointer none, i64 n] B (.tuple #[.pointer none, i64 1]) := by
  refine CtB.of_body Tryz.func62 rfl (nt := 87) rfl (by kernel_rfl) rfl ?_
  intro N0 w0 R
  refine Cx.seq (fun K1 k1 => ?_)
  refine Cx.region <| Lx.y (asg rfl) rfl <| Lx.y (asg rfl) rfl <| Lx.nil <| ?_
  refine Xx.tn (k1 _ _ _ _ ?_)
  refine Cx.seq (fun K2 k2 => ?_)
  refine Cx.seq (fun K3 k3 => ?_)
  refine Cx.region <| Lx.y (mv rfl) rfl <| Lx.y (Yx.tt (eqNilP U27 rfl rfl) rfl) rfl <| Lx.y (mv rfl) rfl <| Lx.gF rfl rfl rfl rfl <| Lx.gF rfl rfl rfl rfl <| Lx.y (pickT rfl rfl) rfl <| Lx.nil <| ?_
  refine Xx.tn (k3 _ _ _ _ ?_)
  refine Cx.condT rfl ?_
  refine Cx.seq (fun K4 k4 => ?_)
  refine Cx.region <| Lx.y (asg rfl) rfl <| Lx.y (asg rfl) rfl <| Lx.nil <| ?_
  refine Xx.tn (k4 _ _ _ _ ?_)
  refine Cx.ret <| Xx.tr <| ?_
  exact Xx.rB2 rfl rfl rfl ⟨rfl, rfl⟩ (Frag.le_refl _) rfl
set_option maxHeartbeats 1000000 in
theorem JOpenD_ct (d : Dk) (db : Nat) (most : Int) (B : Frag) (hm : 1 ≤ most) (hd : d.dead = true) : CtC Tryz.prog 62 [.pointer (some ⟨db, 0, none⟩), i64 most] B (dkH db d) (.tuple #[.pointer none, i64 7]) (dkH db d) := by
 refine Ct.of_body Tryz.func62 rfl (nt := 87) rfl (by kernel_rfl) rfl ?_
 intro N0 w0 R
 refine Cx.seq (fun K1 k1 => ?_)
 refine Cx.region <| Lx.y (asg rfl) rfl <| Lx.y (asg rfl) rfl <| Lx.nil <| ?_
 refine Xx.tn (k1 _ _ _ _ ?_)
 refine Cx.seq (fun K2 k2 => ?_)
 refine Cx.seq (fun K3 k3 => ?_)
 refine Cx.region <| Lx.y (mv rfl) rfl <| Lx.y (Yx.ff (eqNilP U27 rfl rfl) rfl) rfl <| Lx.y (mv rfl) rfl <| Lx.gT rfl rfl rfl <| Lx.y (mv rfl) rfl <| Lx.gT rfl rfl rfl <| Lx.y (lss rfl rfl) rfl <| Lx.y (pickF rfl rfl) rfl <| Lx.nil <| ?_
 refine Xx.tn (k3 _ _ _ _ ?_)
 refine Cx.condD rfl (fun h4 => ?_) (fun h4 => ?_)
 ·
  have h1 : most < 1 := h4
  omega
 ·
  refine Cx.skip ?_
  refine Xx.tn (k2 _ _ _ _ ?_)
  refine Cx.seq (fun K5 k5 => ?_)
  refine Cx.seq (fun K6 k6 => ?_)
  refine Cx.region <| Lx.y (mv rfl) rfl <| ?_
  refine Lx.co rfl rfl rfl (Dead_ct d db _) (rfl) rfl ?_
  refine Lx.nil ?_
  refine Xx.tn (k6 _ _ _ _ ?_)
  refine Cx.condB rfl (fun h7 => ?_) (fun h7 => ?_)
  ·
   refine Cx.seq (fun K8 k8 => ?_)
   refine Cx.region <| Lx.y (asg rfl) rfl <| Lx.y (asg rfl) rfl <| Lx.nil <| ?_
   refine Xx.tn (k8 _ _ _ _ ?_)
   refine Cx.ret <| Xx.tr <| ?_
   exact Xx.ret2 rfl rfl rfl ⟨rfl, rfl, rfl⟩ (Frag.le_refl _) rfl
  ·
   have h2 : d.dead = false := h7
   rw [hd] at h2; cases h2
set_option maxHeartbeats 1000000 in
theorem Put_nil (bm : Bm) (B : Frag) : CtP Tryz.prog 13 [.pointer none, .agg (bmc bm).toArray] B (i64 7) := by
 refine CtB.of_body Tryz.func13 rfl (nt := 81) rfl (by kernel_rfl) rfl ?_
 intro N0 w0 R
 refine Cx.seq (fun K1 k1 => ?_)
 refine Cx.region ?_
 refine Lx.new (boxA rfl) rfl (fun b1 => ?_)
 refine Lx.y (asg rfl) rfl <| Lx.nil <| ?_
 refine Xx.tn (k1 _ _ _ _ ?_)
 refine Cx.seq (fun K2 k2 => ?_)
 refine Cx.seq (fun K3 k3 => ?_)
 refine Cx.region <| Lx.y (mv rfl) rfl <| ?_
 refine Lx.cp rfl rfl rfl (VDead_nil _) rfl ?_
 refine Lx.nil ?_
 refine Xx.tn (k3 _ _ _ _ ?_)
 refine Cx.condT rfl ?_
 refine Cx.seq (fun K4 k4 => ?_)
 refine Cx.region <| Lx.y (asg rfl) rfl <| Lx.nil <| ?_
 refine Xx.tn (k4 _ _ _ _ ?_)
 refine Cx.ret <| Xx.tr <| ?_
 refine Xx.dropB b1 ?_
 exact Xx.rB1 rfl rfl ⟨rfl, rfl⟩ (Frag.le_refl _) rfl
set_option maxHeartbeats 1000000 in
theorem Erase_nil (seq : BitVec 64) (at_ : Int) (B : Frag) : CtP Tryz.prog 27 [.pointer none, u64 seq, i64 at_] B (i64 7) := by
 refine CtB.of_body Tryz.func27 rfl (nt := 85) rfl (by kernel_rfl) rfl ?_
 intro N0 w0 R
 refine Cx.seq (fun K1 k1 => ?_)
 refine Cx.region <| Lx.y (asg rfl) rfl <| Lx.nil <| ?_
 refine Xx.tn (k1 _ _ _ _ ?_)
 refine Cx.seq (fun K2 k2 => ?_)
 refine Cx.seq (fun K3 k3 => ?_)
 refine Cx.region <| Lx.y (mv rfl) rfl <| ?_
 refine Lx.cp rfl rfl rfl (VDead_nil _) rfl ?_
 refine Lx.nil ?_
 refine Xx.tn (k3 _ _ _ _ ?_)
 refine Cx.condT rfl ?_
 refine Cx.seq (fun K4 k4 => ?_)
 refine Cx.region <| Lx.y (asg rfl) rfl <| Lx.nil <| ?_
 refine Xx.tn (k4 _ _ _ _ ?_)
 refine Cx.ret <| Xx.tr <| ?_
 exact Xx.rB1 rfl rfl ⟨rfl, rfl⟩ (Frag.le_refl _) rfl
set_option maxHeartbeats 1000000 in
theorem Block_nil (seq : BitVec 64) (B : Frag) : CtP Tryz.prog 35 [.pointer none, u64 seq] B (.tuple #[.agg #[u64 0#64, str [], u64 0#64, .slice none 0 0], .bool false]) := by
 refine CtB.of_body Tryz.func35 rfl (nt := 32) rfl (by kernel_rfl) rfl ?_
 intro N0 w0 R
 refine Cx.seq (fun K1 k1 => ?_)
 refine Cx.region ?_
 refine Lx.new (allocO ti25) rfl (fun b4 => ?_)
 refine Lx.y (asg rfl) rfl <| Lx.nil <| ?_
 refine Xx.tn (k1 _ _ _ _ ?_)
 refine Cx.seq (fun K2 k2 => ?_)
 refine Cx.seq (fun K3 k3 => ?_)
 refine Cx.region <| Lx.y (mv rfl) rfl <| Lx.y (Yx.tt (eqNilP U31 rfl rfl) rfl) rfl <| Lx.y (mv rfl) rfl <| Lx.gF rfl rfl rfl rfl <| Lx.gF rfl rfl rfl rfl <| Lx.gF rfl rfl rfl rfl <| Lx.gF rfl rfl rfl rfl <| Lx.gF rfl rfl rfl rfl <| Lx.gF rfl rfl rfl rfl <| Lx.gF rfl rfl rfl rfl <| Lx.gF rfl rfl rfl rfl <| ?_
 refine Lx.y (pickT rfl rfl) rfl <| Lx.nil <| ?_
 refine Xx.tn (k3 _ _ _ _ ?_)
 refine Cx.condT rfl ?_
 refine Cx.seq (fun K4 k4 => ?_)
 refine Cx.region <| Lx.y (bld ti25 pl25 rfl rfl) rfl <| ?_
 refine Lx.st (stA (d := .bool) sz25 rfl rfl rfl rfl (by show 0 + 4 ≤ 4; omega) rfl) ?_
 refine Lx.y (asg rfl) rfl <| Lx.nil <| ?_
 refine Xx.tn (k4 _ _ _ _ ?_)
 refine Cx.ret <| Xx.tr <| ?_
 exact Xx.rBc rfl U25 rfl sz25 rfl rfl rfl ⟨rfl, rfl⟩ (Frag.le_refl _)
set_option maxHeartbeats 1000000 in
theorem All_nil (B : Frag) : CtP Tryz.prog 23 [.pointer none] B (.slice none 0 0) := by
 refine CtB.of_body Tryz.func23 rfl (nt := 24) rfl (by kernel_rfl) rfl ?_
 intro N0 w0 R
 refine Cx.seq (fun K1 k1 => ?_)
 refine Cx.region <| Lx.y (asg rfl) rfl <| Lx.nil <| ?_
 refine Xx.tn (k1 _ _ _ _ ?_)
 refine Cx.seq (fun K2 k2 => ?_)
 refine Cx.region <| Lx.y (asg rfl) rfl <| Lx.nil <| ?_
 refine Xx.tn (k2 _ _ _ _ ?_)
 refine Cx.seq (fun K3 k3 => ?_)
 refine Cx.seq (fun K4 k4 => ?_)
 refine Cx.region <| Lx.y (mv rfl) rfl <| ?_
 refine Lx.cp rfl rfl rfl (VLen_nil _) rfl ?_
 refine Lx.y (mv rfl) rfl <| Lx.nil <| ?_
 refine Xx.tn (k4 _ _ _ _ ?_)
 refine Cx.block ?_
 refine Cx.loopK (Sc 0 rfl (Sc 2 rfl (Sc 7 rfl (Sc 8 rfl (Sub.nil _))))) (fun m ρ' B' H' => (True) ∧ m = 0 ∧ ρ' = [(3, .slice none 0 0), (9, u64 0#64)] ∧ B = B' ∧ R = H') ⟨trivial, rfl, rfl, rfl, rfl⟩ (Sc 3 rfl (Sc 9 rfl (Sc 0 rfl (Sc 2 rfl (Sc 7 rfl (Sc 8 rfl (Sub.nil _))))))) ?_
 rintro m ρ' B' H' ⟨_, rfl, rfl, rfl, rfl⟩
 refine Cx.seq (fun K5 k5 => ?_)
 refine Cx.region <| Lx.y (lss rfl rfl) rfl <| Lx.nil <| ?_
 refine Xx.tn (k5 _ _ _ _ ?_)
 refine Cx.seq (fun K6 k6 => ?_)
 refine Cx.condD rfl (fun h7 => ?_) (fun h7 => ?_)
 ·
  exact absurd h7 (by decide)
 ·
  skip
  refine Cx.exit <| Xx.te <| Xx.te <| Xx.bh <| ?_
  refine Xx.tn (k3 _ _ _ _ ?_)
  refine Cx.seq (fun K8 k8 => ?_)
  refine Cx.region <| Lx.y (mv rfl) rfl <| Lx.y (asg rfl) rfl <| Lx.nil <| ?_
  refine Xx.tn (k8 _ _ _ _ ?_)
  refine Cx.ret ?_
  exact Xx.rB1 rfl rfl ⟨rfl, rfl⟩ (Frag.le_refl _) rfl
set_option maxHeartbeats 1000000 in
theorem OpenN_ct (B : Frag) : CtP Tryz.prog 21 [.pointer none] B (.tuple #[.pointer none, i64 1]) := by
 refine CtB.of_body Tryz.func21 rfl (nt := 71) rfl (by kernel_rfl) rfl ?_
 intro N0 w0 R
 refine Cx.seq (fun K1 k1 => ?_)
 refine Cx.region <| Lx.y (asg rfl) rfl <| Lx.y (asg rfl) rfl <| Lx.nil <| ?_
 refine Xx.tn (k1 _ _ _ _ ?_)
 refine Cx.seq (fun K2 k2 => ?_)
 refine Cx.region <| Lx.y (mv rfl) rfl <| ?_
 refine Lx.cp rfl rfl rfl (JOpenN_ct 2048 _) rfl ?_
 refine Lx.y (mv rfl) rfl <| Lx.y (ext rfl rfl) rfl <| Lx.y (ext rfl rfl) rfl <| Lx.y (asg rfl) rfl <| Lx.y (asg rfl) rfl <| Lx.nil <| ?_
 refine Xx.tn (k2 _ _ _ _ ?_)
 refine Cx.seq (fun K3 k3 => ?_)
 refine Cx.seq (fun K4 k4 => ?_)
 refine Cx.region <| Lx.y (mv rfl) rfl <| Lx.y (Yx.tt (neI rfl rfl) rfl) rfl <| Lx.nil <| ?_
 refine Xx.tn (k4 _ _ _ _ ?_)
 refine Cx.condT rfl ?_
 refine Cx.seq (fun K5 k5 => ?_)
 refine Cx.region <| Lx.y (mv rfl) rfl <| Lx.y (asg rfl) rfl <| Lx.y (asg rfl) rfl <| Lx.nil <| ?_
 refine Xx.tn (k5 _ _ _ _ ?_)
 refine Cx.ret <| Xx.tr <| ?_
 exact Xx.rB2 rfl rfl rfl ⟨rfl, rfl⟩ (Frag.le_refl _) rfl
set_option maxHeartbeats 1000000 in
theorem OpenD_ct (d : Dk) (db : Nat) (B : Frag) (hd : d.dead = true) : CtC Tryz.prog 21 [.pointer (some ⟨db, 0, none⟩)] B (dkH db d) (.tuple #[.pointer none, i64 7]) (dkH db d) := by
 refine Ct.of_body Tryz.func21 rfl (nt := 71) rfl (by kernel_rfl) rfl ?_
 intro N0 w0 R
 refine Cx.seq (fun K1 k1 => ?_)
 refine Cx.region <| Lx.y (asg rfl) rfl <| Lx.y (asg rfl) rfl <| Lx.nil <| ?_
 refine Xx.tn (k1 _ _ _ _ ?_)
 refine Cx.seq (fun K2 k2 => ?_)
 refine Cx.region <| Lx.y (mv rfl) rfl <| ?_
 refine Lx.co rfl rfl rfl (JOpenD_ct d db 2048 _ (by decide) hd) (rfl) rfl ?_
 refine Lx.y (mv rfl) rfl <| Lx.y (ext rfl rfl) rfl <| Lx.y (ext rfl rfl) rfl <| Lx.y (asg rfl) rfl <| Lx.y (asg rfl) rfl <| Lx.nil <| ?_
 refine Xx.tn (k2 _ _ _ _ ?_)
 refine Cx.seq (fun K3 k3 => ?_)
 refine Cx.seq (fun K4 k4 => ?_)
 refine Cx.region <| Lx.y (mv rfl) rfl <| Lx.y (Yx.tt (neI rfl rfl) rfl) rfl <| Lx.nil <| ?_
 refine Xx.tn (k4 _ _ _ _ ?_)
 refine Cx.condT rfl ?_
 refine Cx.seq (fun K5 k5 => ?_)
 refine Cx.region <| Lx.y (mv rfl) rfl <| Lx.y (asg rfl) rfl <| Lx.y (asg rfl) rfl <| Lx.nil <| ?_
 refine Xx.tn (k5 _ _ _ _ ?_)
 refine Cx.ret <| Xx.tr <| ?_
 exact Xx.ret2 rfl rfl rfl ⟨rfl, rfl, rfl⟩ (Frag.le_refl _) rfl
set_option maxHeartbeats 4000000 in
theorem VaultNone_ct (seq : BitVec 64) (at_ : Int) (bm : Bm) (B : Frag) : CtB Tryz.prog 7 [u64 seq, i64 at_, .agg (bmc bm).toArray] B (fun v B' => v = .bool true) := by
 refine CtB.of_body Tryz.func7 rfl (nt := 93) rfl (by kernel_rfl) rfl ?_
 intro N0 w0 R
 refine Cx.seq (fun K1 k1 => ?_)
 refine Cx.region ?_
 refine Lx.new (boxA rfl) rfl (fun b5 => ?_)
 refine Lx.y (asg rfl) rfl <| Lx.nil <| ?_
 refine Xx.tn (k1 _ _ _ _ ?_)
 refine Cx.seq (fun K2 k2 => ?_)
 refine Cx.region <| Lx.y (asg rfl) rfl <| Lx.nil <| ?_
 refine Xx.tn (k2 _ _ _ _ ?_)
 refine Cx.seq (fun K3 k3 => ?_)
 refine Cx.region ?_
 refine Lx.c rfl rfl rfl (Jn5.New2_ct 9 _ (by decide)) ((one_star _).symm) rfl ?_
 rintro v1 B1 H1 ⟨hBB, db, d, rfl, hd, rfl⟩ hB1
 have hBB2 := hBB.symm
 subst hBB2
 clear hB1
 have hcd : DkN.Calm 0 0 0 d.abs := by rw [hd]; exact Jn5.calm_new 9 (by decide)
 refine Lx.y (mv rfl) rfl <| Lx.y (ext rfl rfl) rfl <| Lx.y (ext rfl rfl) rfl <| Lx.y (asg rfl) rfl <| Lx.y (asg rfl) rfl <| Lx.nil <| ?_
 refine Xx.tn (k3 _ _ _ _ ?_)
 refine Cx.seq (fun K4 k4 => ?_)
 refine Cx.region <| Lx.y (mv rfl) rfl <| ?_
 refine Lx.c rfl rfl rfl (DkE.Crash_ct d db 0#64 0 _ (hcd.fit (by decide) (by decide) (by decide))) (Pick.eq) rfl ?_
 rintro v2 B2 H2 ⟨rfl, d2, hd2, rfl⟩ hB2
 have hdd : d2.dead = true := by
  have h9 : d2.abs.dead = true := by rw [hd2, hd]; rfl
  exact h9
 refine Lx.nil ?_
 refine Xx.tn (k4 _ _ _ _ ?_)
 refine Cx.seq (fun K5 k5 => ?_)
 refine Cx.region ?_
 refine Lx.cp rfl rfl rfl (OpenN_ct _) rfl ?_
 refine Lx.y (mv rfl) rfl <| Lx.y (ext rfl rfl) rfl <| Lx.y (ext rfl rfl) rfl <| Lx.y (asg rfl) rfl <| Lx.y (asg rfl) rfl <| Lx.nil <| ?_
 refine Xx.tn (k5 _ _ _ _ ?_)
 refine Cx.seq (fun K6 k6 => ?_)
 refine Cx.region <| Lx.y (mv rfl) rfl <| ?_
 refine Lx.co rfl rfl rfl (OpenD_ct d2 db _ hdd) (Pick.eq) rfl ?_
 refine Lx.y (mv rfl) rfl <| Lx.y (ext rfl rfl) rfl <| Lx.y (ext rfl rfl) rfl <| Lx.y (asg rfl) rfl <| Lx.y (asg rfl) rfl <| Lx.nil <| ?_
 refine Xx.tn (k6 _ _ _ _ ?_)
 refine Cx.seq (fun K7 k7 => ?_)
 refine Cx.region <| Lx.y (mv rfl) rfl <| Lx.y (mv rfl) rfl <| ?_
 refine Lx.cp rfl rfl rfl (Block_nil seq _) rfl ?_
 refine Lx.y (mv rfl) rfl <| Lx.y (ext rfl rfl) rfl <| Lx.y (ext rfl rfl) rfl <| ?_
 refine Lx.new (allocO ti25) rfl (fun b14 => ?_)
 refine Lx.st (stA (d := .bool) sz25 rfl rfl rfl rfl (by show 0 + 4 ≤ 4; omega) rfl) ?_
 refine Lx.y (asg rfl) rfl <| Lx.nil <| ?_
 refine Xx.tn (k7 _ _ _ _ ?_)
 refine Cx.seq (fun K8 k8 => ?_)
 refine Cx.region ?_
 refine Lx.cb rfl rfl rfl (awake_ct _) rfl ?_
 rintro v9 B9 rfl hB9
 refine Lx.y (mv rfl) rfl <| Lx.gT rfl rfl rfl <| Lx.y (mv rfl) rfl <| Lx.gT rfl rfl rfl <| Lx.y (Yx.tt (eqI rfl rfl) rfl) rfl <| Lx.y (pickT rfl rfl) rfl <| Lx.y (mv rfl) rfl <| Lx.gT rfl rfl rfl <| Lx.y (mv rfl) rfl <| Lx.gT rfl rfl rfl <| Lx.y (Yx.tt (eqI rfl rfl) rfl) rfl <| Lx.y (pickT rfl rfl) rfl <| ?_
 refine Lx.y (mv rfl) rfl <| Lx.gT rfl rfl rfl <| Lx.y (mv rfl) rfl <| Lx.gT rfl rfl rfl <| Lx.y (not' rfl) rfl <| Lx.y (pickT rfl rfl) rfl <| Lx.y (mv rfl) rfl <| Lx.gT rfl rfl rfl <| Lx.y (mv rfl) rfl <| Lx.gT rfl rfl rfl <| Lx.y (ldA U25 rfl sz25 rfl (Cells.own (n := 4) PickB.eq (show ((bmc bm).drop 0).take 4 = bmc bm from rfl)) rfl) rfl <| Lx.gT rfl rfl rfl <| ?_
 refine Lx.cp rfl rfl rfl (Put_nil bm _) rfl ?_
 refine Lx.gT rfl rfl rfl <| Lx.y (Yx.tt (eqI rfl rfl) rfl) rfl <| Lx.y (pickT rfl rfl) rfl <| Lx.y (mv rfl) rfl <| Lx.gT rfl rfl rfl <| Lx.y (mv rfl) rfl <| Lx.gT rfl rfl rfl <| Lx.y (mv rfl) rfl <| Lx.gT rfl rfl rfl <| Lx.y (mv rfl) rfl <| Lx.gT rfl rfl rfl <| ?_
 refine Lx.cp rfl rfl rfl (Erase_nil seq at_ _) rfl ?_
 refine Lx.gT rfl rfl rfl <| Lx.y (Yx.tt (eqI rfl rfl) rfl) rfl <| Lx.y (pickT rfl rfl) rfl <| Lx.y (mv rfl) rfl <| Lx.gT rfl rfl rfl <| Lx.y (mv rfl) rfl <| Lx.gT rfl rfl rfl <| ?_
 refine Lx.cp rfl rfl rfl (Prev_nil _) rfl ?_
 refine Lx.gT rfl rfl rfl <| Lx.y (Yx.tt (eqS rfl rfl) rfl) rfl <| Lx.y (pickT rfl rfl) rfl <| Lx.y (mv rfl) rfl <| Lx.gT rfl rfl rfl <| Lx.y (mv rfl) rfl <| Lx.gT rfl rfl rfl <| ?_
 refine Lx.cp rfl rfl rfl (VLen_nil _) rfl ?_
 refine Lx.gT rfl rfl rfl <| Lx.y (Yx.tt (eqI rfl rfl) rfl) rfl <| Lx.y (pickT rfl rfl) rfl <| Lx.y (mv rfl) rfl <| Lx.gT rfl rfl rfl <| Lx.y (mv rfl) rfl <| Lx.gT rfl rfl rfl <| ?_
 refine Lx.cp rfl rfl rfl (All_nil _) rfl ?_
 refine Lx.gT rfl rfl rfl <| Lx.y (lenV (ty' := 0) U51 rfl) rfl <| Lx.gT rfl rfl rfl <| Lx.y (Yx.tt (eqI rfl rfl) rfl) rfl <| Lx.y (pickT rfl rfl) rfl <| Lx.y (mv rfl) rfl <| Lx.gT rfl rfl rfl <| Lx.y (mv rfl) rfl <| Lx.gT rfl rfl rfl <| ?_
 refine Lx.cp rfl rfl rfl (VTree_nil _) rfl ?_
 refine Lx.gT rfl rfl rfl <| Lx.y (Yx.tt (eqNilP U66 rfl rfl) rfl) rfl <| Lx.y (pickT rfl rfl) rfl <| Lx.y (mv rfl) rfl <| Lx.gT rfl rfl rfl <| Lx.y (mv rfl) rfl <| Lx.gT rfl rfl rfl <| ?_
 refine Lx.cp rfl rfl rfl (VDead_nil _) rfl ?_
 refine Lx.y (pickT rfl rfl) rfl <| Lx.y (mv rfl) rfl <| Lx.gT rfl rfl rfl <| Lx.y (mv rfl) rfl <| Lx.gT rfl rfl rfl <| ?_
 refine Lx.cp rfl rfl rfl (VBytes_nil _) rfl ?_
 refine Lx.gT rfl rfl rfl <| Lx.y (Yx.tt (eqS rfl rfl) rfl) rfl <| Lx.y (pickT rfl rfl) rfl <| Lx.y (asg rfl) rfl <| Lx.nil <| ?_
 refine Xx.tn (k8 _ _ _ _ ?_)
 refine Cx.ret ?_
 repeat refine Xx.drop ?_
 exact Xx.rB1 rfl rfl rfl (Frag.le_trans hB2 hB9) rfl
end ViK
end Go.Proofs.YthlfffbcligocaaGreat
namespace Go.SL
open Go.RowKit Go.ChangeShapes Go.WideShapes Go.ChangeAt
theorem flatG_len {α : Type} {enc : α → List Value} {size : Nat} (he : ∀ x, (enc x).length = size) (l : List α) : (l.flatMap enc).length = l.length * size := by
  induction l with
  | nil => simp
  | cons x l ih => rw [List.flatMap_cons, List.length_append, ih, he, List.length_cons, Nat.succ_mul]; omega
theorem flatG_at {α : Type} {enc : α → List Value} {size : Nat} (he : ∀ x, (enc x).length = size) : ∀ (k : Nat) (l : List α) (h : k < l.length), ((l.flatMap enc).drop (k * size)).take size = enc l[k] := by
  intro k
  induction k with
  | zero =>
    intro l h
    cases l with
    | nil => simp at h
    | cons x l =>
      rw [Nat.zero_mul, List.drop_zero, List.flatMap_cons, List.take_append_of_le_length (by rw [he]; exact Nat.le_refl _), List.take_of_length_le (by rw [he]; exact Nat.le_refl _)]; rfl
  | succ k ih =>
    intro l h
    cases l with
    | nil => simp at h
    | cons x l =>
      have h' : k < l.length := by simpa using h
      rw [List.flatMap_cons, List.drop_append, he, List.drop_of_length_le (by rw [he, Nat.succ_mul]; omega), List.nil_append, show (k + 1) * size - size = k * size by rw [Nat.succ_mul]; omega]
      exact ih l h'
theorem flat_at {α : Type} {enc : α → List Value} {size : Nat} {B : Frag} {A : Option Addr} {l : List α} {k : Nat} (he : ∀ x, (enc x).length = size) (h : RoS B size A l.length (l.flatMap enc)) (hk : k < l.length) :
    ∃ b o cs et fz, A = some ⟨b, o, none⟩ ∧ B b = some (.cells (List.toArray cs) et fz) ∧ (cs.drop (o + k * size)).take size = enc l[k] := by
  obtain ⟨b, o, cs, et, fz, h1, h2, h3⟩ := h.at (k := k) hk
  exact ⟨b, o, cs, et, fz, h1, h2, by rw [h3, flatG_at he]⟩
def ixF {α : Type} (p : α → Bool) (l : List α) : Int := if l.any p = true then ((l.findIdx p : Nat) : Int) else -1
section
variable {H : Type} {enc : TypeId × Value → H}
theorem weightsAll_mem {P : Program} {e : TypeId} : ∀ {l : List (DataW H)} {d : DataW H} {n : Nat}, d ∈ l → n ∈ d.weights P e → n ∈ DataW.weightsAll P e l := by
  intro l
  induction l with
  | nil => intro d n h; cases h
  | cons x l ih =>
    intro d n h hn
    simp only [DataW.weightsAll, List.mem_append]
    rcases List.mem_cons.1 h with rfl | h
    · exact .inl hn
    · exact .inr (ih h hn)
theorem add_block (a : Addr) (k : Nat) : (a.add k).block = a.block := by unfold Addr.add; split <;> rfl
theorem add_off (a : Addr) (k : Nat) : (a.add k).off = a.off + k := by unfold Addr.add; split <;> simp_all
theorem cells_row {W : World} {b0 : Nat} {a : Addr} {n : Nat} {cs : List Value} (h : W.cells? b0 a n = some cs) (hn : 0 < n) : a.spot = none ∧ ∃ l et fz, W.heap[a.block]? = some (.cells (List.toArray l) et fz) ∧ (l.drop a.off).take n = cs := by
  obtain ⟨_, hl, hc⟩ := World.cells?_some h
  have hb : ∀ k, (a.add k).block = a.block := fun k => by unfold Addr.add; split <;> rfl
  have h0 := cell_obj ((hc 0 hn).trans (List.getElem?_eq_getElem (by omega)))
  have hs : a.spot = none := by have := h0.1; simpa [Addr.add] using this
  obtain ⟨l, et, fz, hh, _⟩ := h0.2
  rw [hb] at hh
  have ho : ∀ k, (a.add k).off = a.off + k := fun k => by unfold Addr.add; split <;> simp_all
  refine ⟨hs, l, et, fz, hh, ?_⟩
  apply List.ext_getElem?
  intro k
  by_cases hk : k < n
  · rw [List.getElem?_take, if_pos hk, List.getElem?_drop]
    obtain ⟨l2, et2, fz2, hh2, hv2⟩ := (cell_obj ((hc k hk).trans (List.getElem?_eq_getElem (by omega)))).2
    rw [hb, hh] at hh2
    rw [ho] at hv2
    injection hh2 with hh2
    injection hh2 with e1
    have e2 : l = l2 := by simpa using congrArg Array.toList e1
    subst e2
    rw [hv2, List.getElem?_eq_getElem]
  · rw [List.getElem?_take, if_neg hk, List.getElem?_eq_none (by omega)]
theorem wf_u64 {n : Int} (h : (Lit.int .u64 n).wf = true) : 0 ≤ n ∧ n ≤ 18446744073709551615 := by
  unfold Lit.wf at h
  rw [Bool.and_eq_true] at h
  exact ⟨of_decide_eq_true h.1, of_decide_eq_true h.2⟩
theorem u64_of {n : Int} (h : (Lit.int .u64 n).wf = true) : ∃ b : BitVec 64, Value.int .u64 n = u64 b := by
  obtain ⟨h1, h2⟩ := wf_u64 h
  refine ⟨BitVec.ofNat 64 n.toNat, ?_⟩
  show _ = Value.int .u64 _
  congr 1
  rw [BitVec.toNat_ofNat]
  omega
theorem flat_of {α : Type} {en : α → List Value} {size : Nat} : ∀ (l : List α) (o : Nat) (cs : List Value), (∀ i (h : i < l.length), (cs.drop (o + i * size)).take size = en l[i]) → (cs.drop o).take (l.length * size) = l.flatMap en := by
  intro l
  induction l with
  | nil => intro o cs _; simp
  | cons x l ih =>
    intro o cs h
    have h0 := h 0 (by simp)
    rw [Nat.zero_mul, Nat.add_zero] at h0
    have h1 := ih (o + size) cs (fun i hi => by
      have := h (i + 1) (by simpa using hi)
      rw [Nat.succ_mul, Nat.add_comm (i * size), ← Nat.add_assoc] at this
      exact this)
    rw [List.length_cons, Nat.succ_mul, Nat.add_comm, List.take_add, h0, List.drop_drop, h1, List.flatMap_cons]; rfl
theorem choose_any {α : Type} {n : Nat} {Q : Nat → α → Prop} (h : ∀ i, i < n → ∃ x, Q i x) : ∃ l : List α, l.length = n ∧ ∀ i (hi : i < l.length), Q i l[i] := by
  induction n with
  | zero => exact ⟨[], rfl, fun i hi => by simp at hi⟩
  | succ n ih =>
    obtain ⟨l, hl, hall⟩ := ih (fun i hi => h i (by omega))
    obtain ⟨x, hx⟩ := h n (by omega)
    refine ⟨l ++ [x], by simp [hl], fun i hi => ?_⟩
    by_cases e : i < l.length
    · rw [List.getElem_append_left e]; exact hall i e
    · have hin : i = l.length := by simp at hi; omega
      subst hin
      rw [List.getElem_append_right (Nat.le_refl _)]
      simp only [Nat.sub_self, List.getElem_cons_zero]
      rw [hl]; exact hx
theorem open_u64 {P : Program} {r : Reach} {b0 base' : Nat} {sp : Nat → Bool} {hd : Bool} {W : World} {t : TypeId} {v : Value} {d : DataW H} {ps : List MemPlace} (ht : P.underlying t = some (.int .u64)) (hval : Value.okWide P W r b0 t v) (h : DataW.Trod enc P W base' sp hd t v d ps) : ∃ n : BitVec 64, v = u64 n := by
  obtain ⟨n, rfl, _, _, hn⟩ := open_int ht hval h
  exact u64_of hn
def s1 (s : List UInt8) : List Value := [str s]
end
end Go.SL
namespace Go.Proofs.YthlfffbcligocaaGreat
open Go.SL Go.RowKit
set_option maxRecDepth 100000
open VhA VhB VhC VhD VhE VhF VhG VhH VhI VhJ VhK VhL VhM VhN VhO VhP VhQ VhR VhS VhT VhU VhV VhW VhX VhY VhZ ViA ViB ViC ViE ViF ViG ViH ViI
open Go.ChangeShapes Go.WideShapes Go.ChangeAt
namespace ViX
section
variable {H : Type} {enc : TypeId × Value → H}
theorem weights_at {P : Program} {ts : List TypeId} {ds : List (DataW H)} (h : (DataW.weightsEach P ts ds).all (· ≤ reachBytes) = true) {j : Nat} {t : TypeId} {d : DataW H} (ht : ts[j]? = some t) (hd : ds[j]? = some d) : ∀ n ∈ d.weights P t, n ≤ reachBytes := fun n hn => by
  have := List.all_eq_true.1 h _ (DataW.weights_mem_each ht hd n hn)
  simpa using this
theorem reach_le : reachBytes ≤ 140737488355327 := by decide
theorem open_listW0 {α : Type} {P : Program} {base' : Nat} {sp : Nat → Bool} {hd : Bool} {W : World} {t e : TypeId} {cs0 : List Value} {y0 : DataW H × List MemPlace} {fuel : Nat} {size : Nat} (en : α → List Value) (Q : α → Prop) (he : ∀ x, (en x).length = size) (hz : 0 < size) (ht : P.underlying t = some (.slice e)) (hc : P.cellsOf e = size)
    (h : DataW.trod enc P W base' sp hd fuel t cs0 = some y0) (hw : ∀ m ∈ y0.1.weights P t, m ≤ reachBytes)
    (hel : ∀ n cs y, DataW.trod enc P W base' sp hd n e cs = some y → (∀ m ∈ y.1.weights P e, m ≤ reachBytes) → ∃ x, cs = en x ∧ Q x) :
    ∃ (A : Option Addr) (c : Nat) (l : List α), cs0 = [.slice A l.length c] ∧ l.length ≤ c ∧ l.length * P.bytesOf e ≤ reachBytes ∧ (0 < l.length → RoS (base W) size A l.length (l.flatMap en)) ∧ ∀ x ∈ l, Q x := by
  rcases DataW.trod_slice ht h with ⟨hcs, _⟩ | ⟨a, len, cap, elems, rest, n, rfl, hcs, hx4, _, hl4, hm4, hlen4, hev, _, _⟩
  · exact ⟨none, 0, [], hcs, Nat.le_refl _, by simp, fun h => by simp at h, fun x hx => by cases hx⟩
  · rw [hx4] at hw
    have hwl : ((elems.map (·.1)).length + (rest.map (·.1)).length) * P.bytesOf e ≤ reachBytes := hw _ (by simp [DataW.weights, ht])
    rw [List.length_map] at hwl
    have hex : ∀ i, i < len → ∃ x, W.cells? base' (a.add (i * size)) size = some (en x) ∧ Q x := by
      intro i hi
      have h1 := hev i hi
      rw [hc, List.getElem?_eq_getElem (by omega), Option.bind_eq_some_iff] at h1
      obtain ⟨cs', h2, h3⟩ := h1
      obtain ⟨x, rfl, hq⟩ := hel n cs' _ h3 (fun m hm => hw m (by
        simp only [DataW.weights, ht, List.mem_cons, List.mem_append]
        exact .inr (.inl (weightsAll_mem (List.mem_map.2 ⟨_, List.getElem_mem (by omega), rfl⟩) hm))))
      exact ⟨x, h2, hq⟩
    obtain ⟨l, hl, hall⟩ := choose_any hex
    subst hl
    refine ⟨some a, cap, l, hcs, by omega, Nat.le_trans (Nat.mul_le_mul_right _ (by omega)) hwl, fun h0 => ?_, fun x hx => ?_⟩
    · obtain ⟨hs, cs, et, fz, hh, hd0⟩ := cells_row (hall 0 h0).1 hz
      rw [add_block] at hh
      have hsa : a.spot = none := by simpa [Addr.add] using hs
      refine ⟨SL.flatG_len he l, .inr ⟨a.block, a.off, cs, et, fz, by rw [← hsa], hh, flat_of l a.off cs fun i hi => ?_⟩⟩
      obtain ⟨_, cs', et', fz', hh', hd'⟩ := cells_row (hall i hi).1 hz
      rw [add_block] at hh'
      rw [add_off] at hd'
      have e1 := hh.symm.trans hh'
      injection e1 with e1
      injection e1 with e1 e2 e3
      have e4 : cs = cs' := by simpa using congrArg Array.toList e1
      rw [e4]; exact hd'
    · obtain ⟨i, hi, rfl⟩ := List.getElem_of_mem hx
      exact (hall i hi).2
theorem open_rv0 {W : World} {b0 : Nat} {sp : Nat → Bool} {hd : Bool} {fuel : Nat} {cs : List Value} {x : DataW H × List MemPlace} (h : DataW.trod enc Tryz.prog W b0 sp hd fuel 40 cs = some x) (hw : ∀ n ∈ x.1.weights Tryz.prog 40, n ≤ reachBytes) : ∃ r : Rv, cs = rvc r ∧ RvLe reachBytes r := by
  have cI : Tryz.prog.cellsOf 3 = 1 := by kernel_rfl
  have cT : Tryz.prog.cellsOf 9 = 1 := by kernel_rfl
  have cU : Tryz.prog.cellsOf 22 = 1 := by kernel_rfl
  have cB : Tryz.prog.cellsOf 4 = 1 := by kernel_rfl
  have cR : Tryz.prog.cellsOf 40 = 8 := by kernel_rfl
  obtain ⟨xs, n, rfl, rfl, hl, hlen, hf⟩ := DataW.trod_struct U40 h
  rw [cR] at hl
  match cs, hl, xs, hlen with
  | [k0, k1, k2, k3, k4, k5, k6, k7], _, [y0, y1, y2, y3, y4, y5, y6, y7], _ =>
    have hwe : ∀ (j : Nat) (t : TypeId) (d : DataW H), [3, 9, 9, 22, 22, 9, 9, 4][j]? = some t → [y0.1, y1.1, y2.1, y3.1, y4.1, y5.1, y6.1, y7.1][j]? = some d → ∀ m ∈ d.weights Tryz.prog t, m ≤ reachBytes := fun j t d ht hd' m hm => hw m (by
      have : (DataW.agg (List.map (·.1) [y0, y1, y2, y3, y4, y5, y6, y7])).weights Tryz.prog 40 = DataW.weightsEach Tryz.prog [3, 9, 9, 22, 22, 9, 9, 4] [y0.1, y1.1, y2.1, y3.1, y4.1, y5.1, y6.1, y7.1] := by
        simp [DataW.weights, U40]
      rw [this]
      exact DataW.weights_mem_each ht hd' m hm)
    have g0 : DataW.trod enc Tryz.prog W b0 sp hd n 3 (List.take (Tryz.prog.cellsOf 3) [k0, k1, k2, k3, k4, k5, k6, k7]) = some y0 := hf 0 _ rfl
    have g1 : DataW.trod enc Tryz.prog W b0 sp hd n 9 (List.take (Tryz.prog.cellsOf 9) [k1, k2, k3, k4, k5, k6, k7]) = some y1 := hf 1 _ rfl
    have g2 : DataW.trod enc Tryz.prog W b0 sp hd n 9 (List.take (Tryz.prog.cellsOf 9) [k2, k3, k4, k5, k6, k7]) = some y2 := hf 2 _ rfl
    have g3 : DataW.trod enc Tryz.prog W b0 sp hd n 22 (List.take (Tryz.prog.cellsOf 22) [k3, k4, k5, k6, k7]) = some y3 := hf 3 _ rfl
    have g4 : DataW.trod enc Tryz.prog W b0 sp hd n 22 (List.take (Tryz.prog.cellsOf 22) [k4, k5, k6, k7]) = some y4 := hf 4 _ rfl
    have g5 : DataW.trod enc Tryz.prog W b0 sp hd n 9 (List.take (Tryz.prog.cellsOf 9) [k5, k6, k7]) = some y5 := hf 5 _ rfl
    have g6 : DataW.trod enc Tryz.prog W b0 sp hd n 9 (List.take (Tryz.prog.cellsOf 9) [k6, k7]) = some y6 := hf 6 _ rfl
    have g7 : DataW.trod enc Tryz.prog W b0 sp hd n 4 (List.take (Tryz.prog.cellsOf 4) [k7]) = some y7 := hf 7 _ rfl
    rw [cI] at g0
    rw [cT] at g1 g2 g5 g6
    rw [cU] at g3 g4
    rw [cB] at g7
    obtain ⟨m0, q0, _, _⟩ := DataW.trod_int U3 g0
    obtain ⟨m1, q1, x1, _⟩ := DataW.trod_string U9 g1
    obtain ⟨m2, q2, x2, _⟩ := DataW.trod_string U9 g2
    obtain ⟨m3, q3, _, w3⟩ := DataW.trod_int U22 g3
    obtain ⟨m4, q4, _, w4⟩ := DataW.trod_int U22 g4
    obtain ⟨m5, q5, x5, _⟩ := DataW.trod_string U9 g5
    obtain ⟨m6, q6, x6, _⟩ := DataW.trod_string U9 g6
    obtain ⟨m7, q7, _⟩ := DataW.trod_bool U4 g7
    have v1 : m1.data.toList.length ≤ reachBytes := hwe 1 9 _ rfl rfl _ (by rw [x1]; simp [DataW.weights])
    have v2 : m2.data.toList.length ≤ reachBytes := hwe 2 9 _ rfl rfl _ (by rw [x2]; simp [DataW.weights])
    have v5 : m5.data.toList.length ≤ reachBytes := hwe 5 9 _ rfl rfl _ (by rw [x5]; simp [DataW.weights])
    have v6 : m6.data.toList.length ≤ reachBytes := hwe 6 9 _ rfl rfl _ (by rw [x6]; simp [DataW.weights])
    injection q0 with q0 _
    injection q1 with q1 _
    injection q2 with q2 _
    injection q3 with q3 _
    injection q4 with q4 _
    injection q5 with q5 _
    injection q6 with q6 _
    injection q7 with q7 _
    obtain ⟨u3, hu3⟩ := u64_of w3
    obtain ⟨u4, hu4⟩ := u64_of w4
    subst q0 q1 q2 q5 q6 q7
    rw [q3, hu3, q4, hu4]
    exact ⟨⟨m0, m1.data.toList, m2.data.toList, u3, u4, m5.data.toList, m6.data.toList, m7⟩, rfl, v6, v5, v1, v2⟩
theorem open_block0 {base' : Nat} {sp : Nat → Bool} {hd : Bool} {W : World} {fuel : Nat} {cs : List Value} {x : DataW H × List MemPlace} (hf0 : DataW.trod enc Tryz.prog W base' sp hd fuel 25 cs = some x) (hw : ∀ n ∈ x.1.weights Tryz.prog 25, n ≤ reachBytes) :
    ∃ bm : Bm, cs = bmc bm ∧ bm.ro (base W) ∧ BkIn bm.b ∧ bm.b.revs.length ≤ bm.c := by
  have hrl := reach_le
  have cT : Tryz.prog.cellsOf 9 = 1 := by kernel_rfl
  have cU : Tryz.prog.cellsOf 22 = 1 := by kernel_rfl
  have cS : Tryz.prog.cellsOf 23 = 1 := by kernel_rfl
  have cB : Tryz.prog.cellsOf 25 = 4 := by kernel_rfl
  have cR : Tryz.prog.cellsOf 40 = 8 := by kernel_rfl
  have bR : 1 ≤ Tryz.prog.bytesOf 40 := by decide +kernel
  obtain ⟨xs, n, rfl, rfl, hl, hlen, hf⟩ := DataW.trod_struct U25 hf0
  rw [cB] at hl
  match cs, hl, xs, hlen with
  | [k0, k1, k2, k3], _, [y0, y1, y2, y3], _ =>
    have hwe : ∀ (j : Nat) (t : TypeId) (d : DataW H), [22, 9, 22, 23][j]? = some t → [y0.1, y1.1, y2.1, y3.1][j]? = some d → ∀ m ∈ d.weights Tryz.prog t, m ≤ reachBytes := fun j t d ht hd' m hm => hw m (by
      have : (DataW.agg (List.map (·.1) [y0, y1, y2, y3])).weights Tryz.prog 25 = DataW.weightsEach Tryz.prog [22, 9, 22, 23] [y0.1, y1.1, y2.1, y3.1] := by
        simp [DataW.weights, U25]
      rw [this]
      exact DataW.weights_mem_each ht hd' m hm)
    have g0 : DataW.trod enc Tryz.prog W base' sp hd n 22 (List.take (Tryz.prog.cellsOf 22) [k0, k1, k2, k3]) = some y0 := hf 0 _ rfl
    have g1 : DataW.trod enc Tryz.prog W base' sp hd n 9 (List.take (Tryz.prog.cellsOf 9) [k1, k2, k3]) = some y1 := hf 1 _ rfl
    have g2 : DataW.trod enc Tryz.prog W base' sp hd n 22 (List.take (Tryz.prog.cellsOf 22) [k2, k3]) = some y2 := hf 2 _ rfl
    have g3 : DataW.trod enc Tryz.prog W base' sp hd n 23 (List.take (Tryz.prog.cellsOf 23) [k3]) = some y3 := hf 3 _ rfl
    rw [cU] at g0 g2
    rw [cT] at g1
    rw [cS] at g3
    obtain ⟨m0, q0, _, w0⟩ := DataW.trod_int U22 g0
    obtain ⟨m1, q1, x1, _⟩ := DataW.trod_string U9 g1
    obtain ⟨m2, q2, _, w2⟩ := DataW.trod_int U22 g2
    obtain ⟨A, c, rv, q3, hcap, hnl, hro, hall⟩ := open_listW0 rvc (fun r => RvLe reachBytes r) rvc_len (by decide) U23 cR g3 (fun m hm => hwe 3 23 _ rfl rfl m hm) (fun n cs y hy hwy => open_rv0 hy hwy)
    injection q0 with q0 _
    injection q1 with q1 _
    injection q2 with q2 _
    injection q3 with q3 _
    obtain ⟨u0, hu0⟩ := u64_of w0
    obtain ⟨u2, hu2⟩ := u64_of w2
    subst q1 q3
    rw [q0, hu0, q2, hu2]
    have hnl2 : rv.length ≤ reachBytes := Nat.le_trans (Nat.le_mul_of_pos_right _ bR) hnl
    refine ⟨⟨⟨u0, m1.data.toList, u2, rv⟩, A, c⟩, rfl, hro, ⟨by show rv.length ≤ _; omega, fun r hr => ?_⟩, hcap⟩
    obtain ⟨a1, a2, a3, a4⟩ := hall r hr
    exact ⟨by omega, by omega, by omega, by omega⟩
theorem open_block {r : Reach} {b0 base' : Nat} {sp : Nat → Bool} {hd : Bool} {W : World} {v : Value} {d : DataW H} {ps : List MemPlace} (hval : Value.okWide Tryz.prog W r b0 25 v) (h : DataW.Trod enc Tryz.prog W base' sp hd 25 v d ps) (hw : ∀ n ∈ d.weights Tryz.prog 25, n ≤ reachBytes) :
    ∃ bm : Bm, v = .agg (bmc bm).toArray ∧ bm.ro (base W) ∧ BkIn bm.b ∧ bm.b.revs.length ≤ bm.c := by
  obtain ⟨cs, rfl, _⟩ := okWide_struct U25 hval
  obtain ⟨fuel, hf⟩ := h
  obtain ⟨q, hq, h2, h3, h4⟩ := open_block0 hf hw
  have hq' : cs.toList = bmc q := by simpa [Value.cells] using hq
  exact ⟨q, by rw [← hq'], h2, h3, h4⟩
def i1 (n : Int) : List Value := [i64 n]
end
end ViX
end Go.Proofs.YthlfffbcligocaaGreat
