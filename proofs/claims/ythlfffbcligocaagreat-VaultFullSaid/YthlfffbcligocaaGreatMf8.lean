/-
  Texts of this seat, one behind the other: ViJ, ViM, ViN, ViO, Sly, ViX, ViY.
-/
import Derived.Test.YthlfffbcligocaaGreatProg
import Derived.SizedLaws
import Derived.Deep.Strs
import Derived.Test.YthlfffbcligocaaGreatMf7
set_option linter.unusedSimpArgs false
set_option linter.unusedVariables false
namespace Go.Proofs.YthlfffbcligocaaGreat
open Go.SL Go.RowKit
set_option maxRecDepth 100000
open VhA VhB VhC VhD VhE VhF VhG VhH VhI VhJ VhK VhL VhM VhN VhO VhP VhQ VhR VhS VhT VhU VhV VhW VhX VhY VhZ ViA ViB ViC ViE ViF ViG ViH ViI
open Jn1 (Rc rcc Jn jnH atV)
open DkB (Dm Dk dkH findM)
open Jn4 (Ck Holds Fits recsOf lastLen Still)
open Jn3 (addD allF recsAt fileOf)
open ViD (Put_ct)
open DkA (sec)
namespace ViJ
theorem sz3 : (Tryz.prog.info? 3).map (·.size) = some 1 := by kernel_rfl
theorem sz4 : (Tryz.prog.info? 4).map (·.size) = some 1 := by kernel_rfl
theorem sz5 : (Tryz.prog.info? 5).map (·.size) = some 1 := by kernel_rfl
theorem sz9 : (Tryz.prog.info? 9).map (·.size) = some 1 := by kernel_rfl
theorem sz22 : (Tryz.prog.info? 22).map (·.size) = some 1 := by kernel_rfl
theorem sz23 : (Tryz.prog.info? 23).map (·.size) = some 1 := by kernel_rfl
theorem sz25 : (Tryz.prog.info? 25).map (·.size) = some 4 := by kernel_rfl
theorem sz40 : (Tryz.prog.info? 40).map (·.size) = some 8 := by kernel_rfl
theorem sz51 : (Tryz.prog.info? 51).map (·.size) = some 1 := by kernel_rfl
theorem ti3 : TI Tryz.prog 3 [.int .i64 0] 1 8 := TI.of (by kernel_rfl) rfl rfl
theorem ti5 : TI Tryz.prog 5 [.int .u8 0] 1 1 := TI.of (by kernel_rfl) rfl rfl
theorem ti25 : TI Tryz.prog 25 [.int .u64 0, str [], .int .u64 0, .slice none 0 0] 4 56 := TI.of (by kernel_rfl) rfl rfl
theorem ti40 : TI Tryz.prog 40 [.int .i64 0, str [], str [], .int .u64 0, .int .u64 0, str [], str [], .bool false] 8 96 := TI.of (by kernel_rfl) rfl rfl
theorem PutS_ct (vb : Nat) (x : Vm) (j : Jn) (d : Dk) (bm : Bm) (fb : List (List Ck)) (l : List Bk) (K L C : Nat) (B : Frag) (hk : VmOk B x) (hR : bm.ro B) (hl : x.vs.l = l) (hfo : followsF bm.b (BitVec.ofInt 64 (l.length : Nat)) (prevF l) = 0) (hfr : Fresh bm.b)
    (hs : Sd K L C d.abs fb l) (hf : Fits d.abs j fb) (hdb : j.db = x.db) (hK : K ≤ 900000) (hL : L ≤ 1000000) (hC : C ≤ 1000000000) (hll : l.length ≤ 10000) (hroom : ((sec (L + (allF (blkR bm.b)).length) + K * sec L : Nat) : Int) ≤ d.abs.room) :
    Ct Tryz.prog 13 [.pointer (some ⟨vb, 0, none⟩), .agg (bmc bm).toArray] B (vH vb x * (jnH x.jb j * dkH x.db d)) (fun v B' H' => ∃ x' j' d' fb', v = i64 0 ∧ H' = vH vb x' * (jnH x'.jb j' * dkH x'.db d') ∧ VmOk B' x' ∧ x'.db = x.db ∧ x'.jb = x.jb ∧ x'.vs.l = l ++ [bm.b] ∧ j'.db = x'.db ∧ j'.most = j.most ∧
      Sd (K + 2) (L + (allF (blkR bm.b)).length) (C + 2) d'.abs fb' (l ++ [bm.b]) ∧ Fits d'.abs j' fb' ∧ d'.abs.room = d.abs.room) := by
  have ho := (follows_ok hfo (prevF_len _)).1
  have hml : x.ms.length = l.length := by rw [← hl]; exact (List.length_map ..).symm
  have hjl : j.l.length ≤ 650000 := by rw [hf.l]; have := sd_count hs; omega
  have hjla : j.last ≤ 1000000 := by rw [hf.last]; have := sd_len hs; omega
  have ha := Jn12.add_room hs.calm (file := fileOf j) hroom
  refine Ct.mono (Put_ct vb x j d bm K L C B hk hR (ok_in ho) (by omega) hdb hs.calm hK (by omega) hC (by omega) (by omega)) ?_
  rintro v B' H' ⟨x', j', d', rfl, hk', hxd, hxj, h⟩
  rw [hml, hl] at h
  rcases h with ⟨h1, _⟩ | ⟨_, ⟨i, hi, h2⟩, _⟩ | ⟨_, _, ⟨h3, _⟩ | ⟨h3, rfl, hv, hd, Al, cl, hj⟩⟩
  · exact absurd hfo h1
  · obtain ⟨r, hr, _⟩ := mem_bodd.1 hi
    have e : bm.b.revs.getD i zRv = r := by rw [List.getD_eq_getElem?_getD, hr]; rfl
    rw [e, hfr r (List.mem_of_getElem? hr)] at h2
    cases h2
  · exact absurd ha h3
  · obtain ⟨fb', hs', hf'⟩ := sd_put hs hf hfo hfr ha Al cl
    refine ⟨x', j', d', fb', rfl, by rw [hxj, hxd], hk', hxd, hxj, ?_, by rw [hj]; exact hdb.trans hxd.symm, by rw [hj], by rw [hd]; exact hs', by rw [hd, hj]; exact hf', by rw [hd]; exact Jn12.addD_roomy hs.calm _ _⟩
    rw [hv]
    show x.vs.l ++ [bm.b] = _
    rw [hl]
theorem made_all (l : List Bk) (n : Nat) (sizes : List Int) (hn : n < 1000000) : (allF (blkR (madeF l n sizes))).length ≤ 2500 := by
  have ho := (follows_ok (made_ok l n sizes hn).1 (prevF_len _)).1
  have hlen : (madeF l n sizes).revs.length ≤ 5 ∧ ∀ r ∈ (madeF l n sizes).revs, r.body.length ≤ 331 := by
    unfold madeF
    simp only
    split
    · exact ⟨by decide, fun r hr => by rw [List.mem_singleton.1 hr]; decide⟩
    · refine ⟨by rw [mRvs_len]; omega, fun r hr => ?_⟩
      unfold mRvs at hr
      obtain ⟨i, hi, rfl⟩ := List.getElem_of_mem hr
      rw [List.getElem_mapIdx, ← rRv_seal]
      have := rRv_le n i ((List.take 5 sizes)[i]'(by simpa using hi))
      have h2 : ∀ r : Rv, (sealF r).body = r.body := fun r => by unfold sealF; split <;> rfl
      rw [h2]; exact this
  have h := blkR_all3 ho 331 hlen.2
  have : (madeF l n sizes).revs.length * (140 + 331) ≤ 5 * (140 + 331) := Nat.mul_le_mul_right _ hlen.1
  omega
set_option maxHeartbeats 2000000 in
theorem open_ct (db : Nat) (d : Dk) (fb : List (List Ck)) (l : List Bk) (K L C : Nat) (B : Frag) (hs : Sd K L C d.abs fb l) (hK : K ≤ 1000000) (hL : L ≤ 1048576) (hC : C ≤ 1000000000) (hl : l.length ≤ 10000) : Ct Tryz.prog 11 [.pointer (some ⟨db, 0, none⟩)] B (dkH db d) (fun v B' H' => ∃ vb x j, v = .tuple #[.pointer (some ⟨vb, 0, none⟩), .bool true] ∧ x.vs.l = l ∧ x.db = db ∧ VmOk B' x ∧ j.db = x.db ∧ j.most = 2048 ∧ Fits d.abs j fb ∧ H' = vH vb x * (jnH x.jb j * dkH x.db d)) := by
 refine Ct.of_body Tryz.func11 rfl (nt := 18) rfl (by kernel_rfl) rfl ?_
 intro N0 w0 R
 refine Cq (fun K1 k1 => ?_)
 refine Cr <| Lx.y (asg rfl) rfl <| Lx.y (asg rfl) rfl <| Lx.nil <| ?_
 refine Xx.tn (k1 _ _ _ _ ?_)
 refine Cq (fun K2 k2 => ?_)
 refine Cr <| Lx.y (mv rfl) rfl <| ?_
 refine Lx.c rfl rfl rfl (Open0_ct db d fb l K L C _ hs hK hL hC hl) (rfl) rfl ?_
 rintro v1 B1 H1 ⟨vb, x, j, rfl, hxl, hxd, hk, hjd, hjm, hfit, rfl⟩ hB1
 refine Lx.y (mv rfl) rfl <| Lx.y (ext rfl rfl) rfl <| Lx.y (ext rfl rfl) rfl <| Lx.y (asg rfl) rfl <| Lx.y (asg rfl) rfl <| Lx.nil <| ?_
 refine Xx.tn (k2 _ _ _ _ ?_)
 refine Cq (fun K3 k3 => ?_)
 refine Cr <| Lx.y (mv rfl) rfl <| Lx.y (mv rfl) rfl <| Lx.y (Yx.tt (eqI rfl rfl) rfl) rfl <| Lx.y (mv rfl) rfl <| Lx.gT rfl rfl rfl <| Lx.y (mv rfl) rfl <| Lx.gT rfl rfl rfl <| Lx.y (Yx.tt (neNilP U31 rfl rfl) rfl) rfl <| Lx.y (pickT rfl rfl) rfl <| Lx.y (asg rfl) rfl <| Lx.y (asg rfl) rfl <| ?_
 refine Lx.nil ?_
 refine Xx.tn (k3 _ _ _ _ ?_)
 refine Cx.ret ?_
 exact Xx.ret2 rfl rfl rfl ⟨vb, x, j, rfl, hxl, hxd, hk, hjd.trans hxd.symm, hjm, hfit, rfl⟩ hB1 (by rw [hxd])
set_option maxHeartbeats 2000000 in
theorem awake_ct (B : Frag) : CtB Tryz.prog 12 [] B (fun v B' => v = .bool true) := by
 have hmo := made_ok [] 0 [4] (by decide)
 have hma := made_all [] 0 [4] (by decide)
 refine CtB.of_body Tryz.func12 rfl (nt := 54) rfl (by kernel_rfl) rfl ?_
 intro N0 w0 R
 refine Cq (fun K1 k1 => ?_)
 refine Cr <| Lx.y (asg rfl) rfl <| Lx.nil <| ?_
 refine Xx.tn (k1 _ _ _ _ ?_)
 refine Cq (fun K2 k2 => ?_)
 refine Cr ?_
 refine Lx.c rfl rfl rfl (Jn5.New2_ct 100 _ (by decide)) ((one_star _).symm) rfl ?_
 rintro v1 B1 H1 ⟨hBB, db, d, rfl, hd, rfl⟩ hB1
 have hBB2 := hBB.symm
 subst hBB2
 clear hB1
 have hs0 : Sd 0 0 0 d.abs [] [] := by rw [hd]; exact sd_new 100 (by decide)
 refine Lx.y (mv rfl) rfl <| Lx.y (ext rfl rfl) rfl <| Lx.y (ext rfl rfl) rfl <| Lx.y (asg rfl) rfl <| Lx.y (asg rfl) rfl <| Lx.nil <| ?_
 refine Xx.tn (k2 _ _ _ _ ?_)
 refine Cq (fun K3 k3 => ?_)
 refine Cr <| Lx.y (mv rfl) rfl <| ?_
 refine Lx.c rfl rfl rfl (open_ct db d [] [] 0 0 0 _ hs0 (by decide) (by decide) (by decide) (by decide)) (rfl) rfl ?_
 rintro v2 B2 H2 ⟨vb, x, j, rfl, hxl, hxd, hk, hjd, hjm, hfit, rfl⟩ hB2
 simp only [star_assoc]
 refine Lx.y (mv rfl) rfl <| Lx.y (ext rfl rfl) rfl <| Lx.y (ext rfl rfl) rfl <| Lx.y (asg rfl) rfl <| Lx.y (asg rfl) rfl <| Lx.nil <| ?_
 refine Xx.tn (k3 _ _ _ _ ?_)
 refine Cq (fun K4 k4 => ?_)
 refine Cq (fun K5 k5 => ?_)
 refine Cr <| Lx.y (mv rfl) rfl <| Lx.y (not' rfl) rfl <| Lx.y (mv rfl) rfl <| Lx.gT rfl rfl rfl <| Lx.y (mv rfl) rfl <| Lx.gT rfl rfl rfl <| Lx.y (mv rfl) rfl <| Lx.gT rfl rfl rfl <| ?_
 refine Lx.bsl (bsl1 U26 ti3 rfl rfl rfl (by decide)) rfl (fun bs => ?_)
 refine Xx.closeT bs [i64 4] [] 1 1 1 rfl rfl (Nat.le_refl _) rfl ?_
 refine Xx.freezeT (some ⟨bs, 0, none⟩) fun B3 hB3 hRs hnc _ => ?_
 refine Lx.gT rfl rfl rfl ?_
 refine Lx.c rfl rfl rfl (made_ct vb x 0 [4] (some ⟨bs, 0, none⟩) 1 _ (hk.mono hB3) (fun _ => hRs) (by decide) (by decide)) (Pick.eq) rfl ?_
 rintro v6 B6 H6 ⟨rfl, A6, c6, rfl, hR6⟩ hB6
 rw [hxl] at hR6 ⊢
 refine Lx.gT rfl rfl rfl ?_
 refine Lx.c rfl rfl rfl (PutS_ct vb x j d ⟨(madeF [] 0 [4]), A6, c6⟩ [] [] 0 0 0 _ (hk.mono (Fz hB3 hB6)) hR6 hxl hmo.1 hmo.2 hs0 hfit hjd (by decide) (by decide) (by decide) (by decide) (by rw [hd]; show ((sec (0 + (allF (blkR (madeF [] 0 [4]))).length) + 0 * sec 0 : Nat) : Int) ≤ 100; unfold DkA.sec; omega)) (show _ = (vH vb x * (jnH x.jb j * dkH x.db d)) * R by ac_rfl) rfl ?_
 rintro v7 B7 H7 ⟨x', j', d', fb', rfl, rfl, hk', hxd', hxj', hxl', hjd', hjm', hs', hf', hrm⟩ hB7
 simp only [star_assoc]
 rw [← hxd, ← hxd']
 have hma2 : (allF (blkR (⟨(madeF [] 0 [4]), A6, c6⟩ : Bm).b)).length ≤ 2500 := hma
 refine Lx.gT rfl rfl rfl <| Lx.y (Yx.ff (neI rfl rfl) rfl) rfl <| Lx.y (pickF rfl rfl) rfl <| Lx.nil <| ?_
 refine Xx.tn (k5 _ _ _ _ ?_)
 refine Cx.condF rfl <| Cx.skip <| ?_
 refine Xx.tn (k4 _ _ _ _ ?_)
 refine Cq (fun K6 k6 => ?_)
 refine Cr <| Lx.y (mv rfl) rfl <| ?_
 refine Lx.c rfl rfl rfl (DkE.Crash_ct d' x'.db 0#64 0 _ (hs'.calm.fit (by decide) (by omega) (by decide))) (Pick.eq) rfl ?_
 rintro v8 B8 H8 ⟨rfl, d5, hd5, rfl⟩ hB8
 rw [Jn4.crash_still hs'.still hs'.calm.dead] at hd5
 refine Lx.nil ?_
 refine Xx.tn (k6 _ _ _ _ ?_)
 refine Cq (fun K7 k7 => ?_)
 refine Cr <| Lx.y (mv rfl) rfl <| ?_
 refine Lx.co rfl rfl rfl (DkB.Up_ct d5 x'.db _) (Pick.eq) rfl ?_
 obtain ⟨d6, hd6⟩ : ∃ d6 : Dk, d6 = { d5 with dead := false } := ⟨_, rfl⟩
 rw [← hd6]
 have hab : d6.abs = d'.abs := by
  rw [hd6]
  show ({ d5.abs with dead := false } : Dm) = d'.abs
  rw [hd5]
  have h9 := hs'.calm.dead
  cases hq : d'.abs with | mk a b c e f => rw [hq] at h9; simp only at h9; rw [h9]
 refine Lx.nil ?_
 refine Xx.tn (k7 _ _ _ _ ?_)
 refine Cq (fun K8 k8 => ?_)
 refine Cr <| Lx.y (mv rfl) rfl <| ?_
 refine Lx.c rfl rfl rfl (open_ct x'.db d6 fb' ([] ++ [(madeF [] 0 [4])]) (0 + 2) _ (0 + 2) _ (by rw [hab]; exact hs') (by decide) (by omega) (by decide) (by decide)) (Pick.eq) rfl ?_
 rintro v9 B9 H9 ⟨wb, y, k, rfl, hyl, hyd, hky, hkd, hkm, hkf, rfl⟩ hB9
 simp only [star_assoc]
 have hyn : y.ms.length = 1 := by have h9 := congrArg List.length hyl; rw [show y.vs.l.length = y.ms.length from List.length_map ..] at h9; exact h9
 have hpy : prevF y.vs.l = hashB (madeF [] 0 [4]) := by rw [hyl]; exact prevF_snoc [] _
 have hpx : prevF x'.vs.l = hashB (madeF [] 0 [4]) := by rw [hxl']; exact prevF_snoc [] _
 refine Lx.y (mv rfl) rfl <| Lx.y (ext rfl rfl) rfl <| Lx.y (ext rfl rfl) rfl <| Lx.y (asg rfl) rfl <| Lx.y (asg rfl) rfl <| Lx.nil <| ?_
 refine Xx.tn (k8 _ _ _ _ ?_)
 refine Cq (fun K9 k9 => ?_)
 refine Cr <| Lx.y (mv rfl) rfl <| Lx.y (mv rfl) rfl <| Lx.gT rfl rfl rfl <| Lx.y (mv rfl) rfl <| Lx.gT rfl rfl rfl <| ?_
 refine Lx.co rfl rfl rfl (CtC.of (VLen_ct wb y _) (show _ = u64 1#64 from by rw [hyn]; rfl) rfl) (Pick.eq) rfl ?_
 refine Lx.gT rfl rfl rfl <| Lx.y (Yx.tt (eqI rfl rfl) rfl) rfl <| Lx.y (pickT rfl rfl) rfl <| Lx.y (mv rfl) rfl <| Lx.gT rfl rfl rfl <| Lx.y (mv rfl) rfl <| Lx.gT rfl rfl rfl <| ?_
 refine Lx.co rfl rfl rfl (CtC.of (Prev_ct wb y _ hky) (show _ = str (hashB (madeF [] 0 [4])) from by rw [hpy]) rfl) (Pick.eq) rfl ?_
 refine Lx.gT rfl rfl rfl <| Lx.y (mv rfl) rfl <| Lx.gT rfl rfl rfl <| ?_
 refine Lx.co rfl rfl rfl (CtC.of (Prev_ct vb x' _ (hk'.mono (Fz hB8 hB9))) (show _ = str (hashB (madeF [] 0 [4])) from by rw [hpx]) rfl) (Pick.eq) rfl ?_
 refine Lx.gT rfl rfl rfl <| Lx.y (Yx.tt (eqS rfl rfl) (by simp)) rfl <| Lx.y (pickT rfl rfl) rfl <| Lx.y (mv rfl) rfl <| Lx.gT rfl rfl rfl <| Lx.y (mv rfl) rfl <| Lx.gT rfl rfl rfl <| ?_
 refine Lx.co rfl rfl rfl (CtC.of (Prev_ct wb y _ hky) (show _ = str (hashB (madeF [] 0 [4])) from by rw [hpy]) rfl) (Pick.eq) rfl ?_
 refine Lx.gT rfl rfl rfl <| Lx.y (lenS U9 rfl) rfl <| Lx.gT rfl rfl rfl <| Lx.y (Yx.tt (eqI rfl rfl) (by rw [hashB_len]; rfl)) rfl <| Lx.y (pickT rfl rfl) rfl <| Lx.y (asg rfl) rfl <| Lx.nil <| ?_
 refine Xx.tn (k9 _ _ _ _ ?_)
 refine Cx.ret ?_
 repeat refine Xx.drop ?_
 exact Xx.rB1 rfl rfl rfl (Fz hB2 (Fz hB3 (Fz hB6 (Fz hB7 (Fz hB8 hB9))))) rfl
end ViJ
end Go.Proofs.YthlfffbcligocaaGreat
namespace Go.Proofs.YthlfffbcligocaaGreat
open Go.SL Go.RowKit
set_option maxRecDepth 100000
open VhA VhB VhC VhD VhE VhF VhG VhH VhI VhJ VhK VhL VhM VhN VhO VhP VhQ VhR VhS VhT VhU VhV VhW VhX VhY VhZ ViA ViB
open ViD (CR_ro)
namespace ViM
theorem sz3 : (Tryz.prog.info? 3).map (·.size) = some 1 := by kernel_rfl
theorem sz4 : (Tryz.prog.info? 4).map (·.size) = some 1 := by kernel_rfl
theorem sz5 : (Tryz.prog.info? 5).map (·.size) = some 1 := by kernel_rfl
theorem sz9 : (Tryz.prog.info? 9).map (·.size) = some 1 := by kernel_rfl
theorem sz22 : (Tryz.prog.info? 22).map (·.size) = some 1 := by kernel_rfl
theorem sz23 : (Tryz.prog.info? 23).map (·.size) = some 1 := by kernel_rfl
theorem sz25 : (Tryz.prog.info? 25).map (·.size) = some 4 := by kernel_rfl
theorem sz40 : (Tryz.prog.info? 40).map (·.size) = some 8 := by kernel_rfl
theorem sz51 : (Tryz.prog.info? 51).map (·.size) = some 1 := by kernel_rfl
theorem ti25 : TI Tryz.prog 25 [.int .u64 0, str [], .int .u64 0, .slice none 0 0] 4 56 := TI.of (by kernel_rfl) rfl rfl
theorem ti40 : TI Tryz.prog 40 [.int .i64 0, str [], str [], .int .u64 0, .int .u64 0, str [], str [], .bool false] 8 96 := TI.of (by kernel_rfl) rfl rfl
theorem fo25_3 : FO Tryz.prog 25 3 3 1 false := FO.of U25 rfl rfl (by kernel_rfl) U23 rfl rfl
theorem fo94_2 : FO Tryz.prog 94 2 2 1 false := FO.of U94 rfl rfl (by kernel_rfl) U51 rfl rfl
theorem ofNat_add1 (i : Nat) : BitVec.ofNat 64 i + 1#64 = BitVec.ofNat 64 (i + 1) := by
  apply BitVec.eq_of_toNat_eq
  rw [BitVec.toNat_add, BitVec.toNat_ofNat, BitVec.toNat_ofNat, BitVec.toNat_ofNat]
  omega
theorem ofNat_to {i : Nat} (h : i ≤ 4611686018427387904) : (BitVec.ofNat 64 i).toNat = i := by rw [BitVec.toNat_ofNat]; omega
set_option maxHeartbeats 2000000 in
theorem Block_ct (vb : Nat) (x : Vm) (i : Nat) (B : Frag) (hk : VmOk B x) (hi : i < x.ms.length) : Ct Tryz.prog 35 [.pointer (some ⟨vb, 0, none⟩), u64 (BitVec.ofNat 64 i)] B (vH vb x) (fun v B' H' => H' = vH vb x ∧ ∃ z : Bm, z.b = (x.ms[i]'hi).b ∧ v = .tuple #[.agg (bmc z).toArray, .bool true] ∧ z.ro B') := by
 have hk2 := hk.2
 obtain ⟨hro, hbo⟩ := hk.1 _ (List.getElem_mem hi)
 have hto := toNat_most (m := x.ms.length) (by omega)
 have hti := ofNat_to (i := i) (by omega)
 have hb3 := hbo.2.2.1
 refine Ct.of_body Tryz.func35 rfl (nt := 32) rfl (by kernel_rfl) rfl ?_
 intro N0 w0 R
 unfold vH
 simp only [star_assoc]
 refine Cq (fun K1 k1 => ?_)
 refine Cr ?_
 refine Lx.new (allocO ti25) rfl (fun br => ?_)
 refine Lx.y (asg rfl) rfl <| Lx.nil <| ?_
 refine Xx.tn (k1 _ _ _ _ ?_)
 refine Cq (fun K2 k2 => ?_)
 refine Cq (fun K3 k3 => ?_)
 refine Cr <| Lx.y (mv rfl) rfl <| Lx.y (Yx.ff (eqNilP U31 rfl rfl) rfl) rfl <| Lx.y (mv rfl) rfl <| Lx.gT rfl rfl rfl <| Lx.y (mv rfl) rfl <| Lx.gT rfl rfl rfl <| Lx.y (mv rfl) rfl <| Lx.gT rfl rfl rfl <| Lx.y (nilc rfl) rfl <| Lx.gT rfl rfl rfl <| Lx.y (fa' fo94_2 rfl) rfl <| ?_
 refine Lx.gT rfl rfl rfl <| Lx.y (ld U51 rfl rfl rfl) rfl <| Lx.gT rfl rfl rfl <| Lx.y (lenV (ty' := 0) U51 rfl) rfl <| Lx.gT rfl rfl rfl <| Lx.y (cvW64 rfl U3 U22) rfl <| Lx.gT rfl rfl rfl <| Lx.y (geq rfl rfl) rfl <| Lx.y (pickF rfl rfl) rfl <| Lx.nil <| ?_
 refine Xx.tn (k3 _ _ _ _ ?_)
 refine Cx.condD rfl (fun h4 => ?_) (fun h4 => ?_)
 ·
  exact absurd h4 (by rw [hto, hti]; omega)
 ·
  have g0 := h4
  refine Xx.addrT x.Al (by omega) (fun bl hA hxl hxc => ?_)
  refine Cx.skip ?_
  refine Xx.tn (k2 _ _ _ _ ?_)
  refine Cq (fun K5 k5 => ?_)
  rw [hA]
  refine Cr <| Lx.y (mv rfl) rfl <| Lx.y (nilc rfl) rfl <| Lx.y (fa' fo94_2 rfl) rfl <| Lx.y (Yx.val (ld U51 rfl rfl rfl) (show _ = Value.slice (some ⟨bl, 0, none⟩) x.ms.length x.cl from by rw [← hA])) rfl <| Lx.y (mv rfl) rfl <| Lx.y (ia (j := i) U51 sz25 rfl rfl (by rw [hti]; exact Int.toNat_natCast _) (by omega) (by rw [hti]; omega)) rfl <| Lx.y (ldA U25 rfl sz25 rfl (Cells.buf (b := bl) (m := 4) (show _ = bmc (x.ms[i]'hi) from by rw [Nat.zero_add, flatG_at bmc_len i x.ms hi]) (by rw [flatG_len bmc_len]; omega)) rfl) rfl <| ?_
  refine Lx.new (allocO ti25) rfl (fun b6 => ?_)
  refine Lx.st (stA (d := .bool) sz25 rfl rfl rfl rfl (by show 0 + 4 ≤ 4; omega) rfl) ?_
  refine Lx.nil ?_
  refine Xx.tn (k5 _ _ _ _ ?_)
  refine Cq (fun K6 k6 => ?_)
  refine Cr <| Lx.y (fa' fo25_3 rfl) rfl <| Lx.y (ld U23 rfl rfl rfl) rfl <| ?_
  refine Lx.c rfl rfl rfl (CR_ro (x.ms[i]'hi).A (x.ms[i]'hi).b.revs.length (x.ms[i]'hi).c ((x.ms[i]'hi).b.revs.flatMap rvc) _ (hro hbo.2.1) (rvc_all _) (by omega) (by omega)) ((one_star _).symm) rfl ?_
  rintro v6 B6 H6 ⟨hBB, A6, c6, rfl, rfl⟩ hB6
  have hBB2 := hBB.symm
  subst hBB2
  clear hB6
  refine Lx.y (fa' fo25_3 rfl) rfl ?_
  refine Lx.st (stO U23 sz23 rfl rfl rfl (by show 3 < 4; omega) rfl) ?_
  refine Lx.nil ?_
  refine Xx.tn (k6 _ _ _ _ ?_)
  refine Cq (fun K7 k7 => ?_)
  refine Xx.freezeT A6 fun B8 hB8 hRo6 hnc6 _ => ?_
  refine Cr <| Lx.y (ldA U25 rfl sz25 rfl (Co (n := 4) (vs := bmc ⟨(x.ms[i]'hi).b, A6, c6⟩) Pe rfl) rfl) rfl <| ?_
  refine Lx.st (stA (d := .bool) sz25 rfl rfl rfl rfl (by show 0 + 4 ≤ 4; omega) rfl) ?_
  refine Lx.y (asg rfl) rfl <| Lx.nil <| ?_
  refine Xx.tn (k7 _ _ _ _ ?_)
  refine Cx.ret ?_
  refine Xx.dropB b6 ?_
  exact Xx.retC rfl U25 rfl sz25 rfl rfl rfl ⟨rfl, ⟨(x.ms[i]'hi).b, A6, c6⟩, rfl, rfl, fun _ => hRo6⟩ hB8 (by rw [← hA]; ac_rfl)
set_option maxHeartbeats 2000000 in
theorem All_ct (vb : Nat) (x : Vm) (B : Frag) (hk : VmOk B x) : Ct Tryz.prog 23 [.pointer (some ⟨vb, 0, none⟩)] B (vH vb x) (fun v B' H' => H' = vH vb x ∧ ∃ (ns : List Bm) (A : Option Addr) (c : Nat), ns.map (·.b) = x.vs.l ∧ v = .slice A ns.length c ∧ RoS B' 4 A ns.length (ns.flatMap bmc) ∧ ∀ z ∈ ns, z.ro B') := by
 have hk2 := hk.2
 have hto := toNat_most (m := x.ms.length) (by omega)
 refine Ct.of_body Tryz.func23 rfl (nt := 24) rfl (by kernel_rfl) rfl ?_
 intro N0 w0 R
 refine Cq (fun K1 k1 => ?_)
 refine Cr <| Lx.y (asg rfl) rfl <| Lx.nil <| ?_
 refine Xx.tn (k1 _ _ _ _ ?_)
 refine Cq (fun K2 k2 => ?_)
 refine Cr <| Lx.y (asg rfl) rfl <| Lx.nil <| ?_
 refine Xx.tn (k2 _ _ _ _ ?_)
 refine Cq (fun K3 k3 => ?_)
 refine Cq (fun K4 k4 => ?_)
 refine Cr <| Lx.y (mv rfl) rfl <| ?_
 refine Lx.co rfl rfl rfl (VLen_ct vb x _) (Pick.eq) rfl ?_
 refine Lx.y (mv rfl) rfl <| Lx.nil <| ?_
 refine Xx.tn (k4 _ _ _ _ ?_)
 refine Cx.block ?_
 refine Cx.loopK (Sc 0 rfl (Sc 2 rfl (Sc 7 rfl (Sc 8 rfl (Sub.nil _))))) (fun m ρ' B' H' => ∃ (i : Nat) (ns : List Bm) (A2 : Option Addr) (c2 : Nat) (B9 : Frag), (i ≤ x.ms.length ∧ ns.length = i ∧ ns.map (·.b) = (x.ms.take i).map (·.b) ∧ (∀ z ∈ ns, z.ro B9) ∧ B.le B9) ∧ m = x.ms.length - i ∧ ρ' = [(3, .slice A2 i c2), (9, u64 (BitVec.ofNat 64 i))] ∧ B9 = B' ∧ sbuf 25 4 A2 i c2 (ns.flatMap bmc) * (vH vb x * R) = H') ⟨0, [], none, 0, _, ⟨Nat.zero_le _, rfl, rfl, fun z hz => (by cases hz), Fl _⟩, rfl, rfl, rfl, by rw [List.flatMap_nil, sbuf_nil, one_star]⟩ (Sc 3 rfl (Sc 9 rfl (Sc 0 rfl (Sc 2 rfl (Sc 7 rfl (Sc 8 rfl (Sub.nil _))))))) ?_
 rintro m ρ' B' H' ⟨i, ns, A2, c2, B9, ⟨hi, hns, hnm, hro, hB9⟩, rfl, rfl, rfl, rfl⟩
 refine Cq (fun K5 k5 => ?_)
 refine Cr <| Lx.y (lss rfl rfl) rfl <| Lx.nil <| ?_
 refine Xx.tn (k5 _ _ _ _ ?_)
 refine Cq (fun K6 k6 => ?_)
 refine Cx.condD rfl (fun h7 => ?_) (fun h7 => ?_)
 ·
  have hlt := h7
  have hti := ofNat_to (i := i) (by omega)
  have hi : i < x.ms.length := by rw [hti, hto] at hlt; omega
  refine Cx.skip ?_
  refine Xx.tn (k6 _ _ _ _ ?_)
  refine Cq (fun K8 k8 => ?_)
  refine Cx.block ?_
  refine Cq (fun K9 k9 => ?_)
  refine Cr <| Lx.y (mv rfl) rfl <| Lx.y (asg rfl) rfl <| Lx.nil <| ?_
  refine Xx.tn (k9 _ _ _ _ ?_)
  refine Cq (fun K10 k10 => ?_)
  refine Cr <| Lx.y (mv rfl) rfl <| Lx.y (mv rfl) rfl <| ?_
  refine Lx.c rfl rfl rfl (Block_ct vb x i _ (hk.mono hB9) hi) (Pick.eq) rfl ?_
  rintro v5 B10 H5 ⟨rfl, z, hzb, rfl, hzr⟩ hB10
  refine Lx.y (mv rfl) rfl <| Lx.y (ext rfl rfl) rfl <| Lx.y (ext rfl rfl) rfl <| ?_
  refine Lx.new (allocO ti25) rfl (fun b5 => ?_)
  refine Lx.st (stA (d := .bool) sz25 rfl rfl rfl rfl (by show 0 + 4 ≤ 4; omega) rfl) ?_
  refine Lx.y (asg rfl) rfl <| Lx.nil <| ?_
  refine Xx.tn (k10 _ _ _ _ ?_)
  refine Cr <| Lx.y (mv rfl) rfl <| Lx.y (ldA U25 rfl sz25 rfl (Co (n := 4) Pe (show ((bmc z).drop 0).take 4 = bmc z from rfl)) rfl) rfl <| ?_
  refine Lx.bsl (bslA U51 ti25 rfl rfl (by decide)) rfl (fun bv => ?_)
  refine Lx.o (appN (et := 25) (A := A2) (i + 1) (bmc z) ((ns ++ [z]).flatMap bmc) U51 U51 ti25 rfl rfl rfl rfl rfl (by omega) (by omega) rfl (by simp only [List.flatMap_append, List.flatMap_cons, List.flatMap_nil, List.append_nil])) rfl (fun v B' H' hΦ hB => ?_)
  obtain ⟨A3, c3, rfl, hA3, hl3, hc3, hBB, rfl⟩ := hΦ
  have hBB2 := hBB.symm
  subst hBB2
  refine Xx.dropB bv ?_
  clear hB
  refine Lx.y (asg rfl) rfl <| Lx.nil <| Xx.bn <| ?_
  refine Xx.tn (k8 _ _ _ _ ?_)
  refine Cr ?_
  refine Lx.y (Yx.val (addW64 rfl rfl) (show _ = u64 (BitVec.ofNat 64 (i + 1)) from congrArg (fun q : BitVec 64 => u64 q) (ofNat_add1 i))) rfl ?_
  refine Lx.y (mv rfl) rfl <| Lx.nil <| ?_
  refine Xx.dropB b5 ?_
  exact Xx.againK ⟨i + 1, ns ++ [z], A3, c3, _, ⟨hi, by rw [List.length_append, hns]; rfl, by rw [List.map_append, hnm, List.take_succ_eq_append_getElem hi, List.map_append]; show _ ++ [z.b] = _; rw [hzb]; rfl, fun y hy => (List.mem_append.1 hy).elim (fun e => Bm.ro_mono (hro y e) hB10) fun e => by rw [List.mem_singleton.1 e]; exact hzr, Fz hB9 hB10⟩, rfl, rfl, rfl, rfl⟩ (by omega) (Sc 3 rfl (Sc 9 rfl (Sc 0 rfl (Sc 2 rfl (Sc 7 rfl (Sc 8 rfl (Sub.nil _)))))))
 ·
  have hge := h7
  have hti := ofNat_to (i := i) (by omega)
  obtain rfl : i = x.ms.length := by rw [hti, hto] at hge; omega
  rw [List.take_length] at hnm
  refine Cx.exit <| Xx.te <| Xx.te <| Xx.bh <| ?_
  refine Xx.tn (k3 _ _ _ _ ?_)
  refine Cq (fun K11 k11 => ?_)
  refine Cr <| Lx.y (mv rfl) rfl <| Lx.y (asg rfl) rfl <| Lx.nil <| ?_
  refine Xx.tn (k11 _ _ _ _ ?_)
  refine Cx.ret ?_
  rw [← hns]
  refine Xx.freezeT A2 fun B3 hB3 hRo hnc _ => ?_
  exact Xx.ret1 rfl rfl ⟨rfl, ns, A2, c2, hnm, by rw [hns], hRo, fun z hz => Bm.ro_mono (hro z hz) hB3⟩ (Fz hB9 hB3) (by ac_rfl)
end ViM
end Go.Proofs.YthlfffbcligocaaGreat
namespace Go.Proofs.YthlfffbcligocaaGreat
open Go.SL Go.RowKit
set_option maxRecDepth 100000
open VhA VhB VhC VhD VhE VhF VhG VhH VhI VhJ VhK VhL VhM VhN VhO VhP VhQ VhR VhS VhT VhU VhV VhW VhX VhY VhZ ViA ViB ViM
namespace ViN
theorem sz3 : (Tryz.prog.info? 3).map (·.size) = some 1 := by kernel_rfl
theorem sz4 : (Tryz.prog.info? 4).map (·.size) = some 1 := by kernel_rfl
theorem sz5 : (Tryz.prog.info? 5).map (·.size) = some 1 := by kernel_rfl
theorem sz9 : (Tryz.prog.info? 9).map (·.size) = some 1 := by kernel_rfl
theorem sz22 : (Tryz.prog.info? 22).map (·.size) = some 1 := by kernel_rfl
theorem sz23 : (Tryz.prog.info? 23).map (·.size) = some 1 := by kernel_rfl
theorem sz25 : (Tryz.prog.info? 25).map (·.size) = some 4 := by kernel_rfl
theorem sz40 : (Tryz.prog.info? 40).map (·.size) = some 8 := by kernel_rfl
theorem sz51 : (Tryz.prog.info? 51).map (·.size) = some 1 := by kernel_rfl
theorem ti25 : TI Tryz.prog 25 [.int .u64 0, str [], .int .u64 0, .slice none 0 0] 4 56 := TI.of (by kernel_rfl) rfl rfl
theorem ti40 : TI Tryz.prog 40 [.int .i64 0, str [], str [], .int .u64 0, .int .u64 0, str [], str [], .bool false] 8 96 := TI.of (by kernel_rfl) rfl rfl
theorem fo25_0 : FO Tryz.prog 25 0 0 1 false := FO.of U25 rfl rfl (by kernel_rfl) U22 rfl rfl
theorem fo25_1 : FO Tryz.prog 25 1 1 1 false := FO.of U25 rfl rfl (by kernel_rfl) U9 rfl rfl
theorem fo25_2 : FO Tryz.prog 25 2 2 1 false := FO.of U25 rfl rfl (by kernel_rfl) U22 rfl rfl
theorem fo25_3 : FO Tryz.prog 25 3 3 1 false := FO.of U25 rfl rfl (by kernel_rfl) U23 rfl rfl
theorem eq_rv (w : World) (r : Rv) : (Op.equalIn 10000 40 (.agg (rvc r).toArray) (.agg (rvc r).toArray)).run Tryz.prog w = .ok true w := by
  have hs : Tryz.prog.underlying 40 = some (.struct (Tryz.prog.fieldsOf 40)) := by kernel_rfl
  have hp : Tryz.prog.stoodInHeld 40 = false := by kernel_rfl
  have h : ∀ n, (Op.equalIn (n + 2) 40 (.agg (rvc r).toArray) (.agg (rvc r).toArray)).run Tryz.prog w = .ok true w := fun n => by
    rw [run_equalIn_agg w (n + 1) 40 _ _ hs hp]
    unfold Program.fieldsOf
    rw [U40]
    simp [Op.eqFields, part, isAgg, run_underlying U3, run_underlying U9, run_underlying U22, run_underlying U4, Result.andThen, rvc, run_equalIn_int w n _ _ _ _ _ U3, run_equalIn_int w n _ _ _ _ _ U22, run_equalIn_string w n _ _ _ U9, run_equalIn_bool' w n _ _ _ U4]
  exact h 9998
theorem neRv {ρ : Sl} {S : World → Prop} {x y : Operand} {t' ty : TypeId} {r : Rv} (hx : ev ρ x = some (.agg (rvc r).toArray)) (hy : ev ρ y = some (.agg (rvc r).toArray)) : Yx Tryz.prog (.binOp .neq 40 x y t') ty ρ S (.bool false) := .of (fun _ h => by cases h) fun f w _ _ _ _ he _ =>
  run_binOp (he _ _ hx) (he _ _ hy) (run_eqGuard_agg w _ _ _ _ _ _ (by kernel_rfl)) (by rw [run_neq_struct w, eq_rv w r]; rfl)
set_option maxHeartbeats 2000000 in
theorem same_ct (ns ms : List Bm) (A1 A2 : Option Addr) (c1 c2 : Nat) (B : Frag) (hR1 : 0 < ns.length → RoS B 4 A1 ns.length (ns.flatMap bmc)) (hR2 : 0 < ms.length → RoS B 4 A2 ms.length (ms.flatMap bmc)) (hr1 : ∀ z ∈ ns, z.ro B) (hr2 : ∀ z ∈ ms, z.ro B) (he : ns.map (·.b) = ms.map (·.b)) (hn : ns.length ≤ 1000000) (ho : ∀ z ∈ ns, z.b.revs.length ≤ 1000000) : CtP Tryz.prog 22 [.slice A1 ns.length c1, .slice A2 ms.length c2] B (.bool true) := by
 have hlen : ns.length = ms.length := by have := congrArg List.length he; simpa using this
 have hat : ∀ i (h1 : i < ns.length) (h2 : i < ms.length), ns[i].b = ms[i].b := fun i h1 h2 => by
  have := congrArg (·[i]?) he
  simpa [h1, h2] using this
 refine CtB.of_body Tryz.func22 rfl (nt := 97) rfl (by kernel_rfl) rfl ?_
 intro N0 w0 R
 refine Cq (fun K1 k1 => ?_)
 refine Cr <| Lx.y (asg rfl) rfl <| Lx.nil <| ?_
 refine Xx.tn (k1 _ _ _ _ ?_)
 refine Cq (fun K2 k2 => ?_)
 refine Cq (fun K3 k3 => ?_)
 refine Cr <| Lx.y (mv rfl) rfl <| Lx.y (lenV (ty' := 0) U51 rfl) rfl <| Lx.y (mv rfl) rfl <| Lx.y (lenV (ty' := 0) U51 rfl) rfl <| Lx.y (Yx.ff (neI rfl rfl) (by rw [hlen]; simp)) rfl <| Lx.nil <| ?_
 refine Xx.tn (k3 _ _ _ _ ?_)
 refine Cx.condF rfl <| Cx.skip <| ?_
 refine Xx.tn (k2 _ _ _ _ ?_)
 refine Cq (fun K4 k4 => ?_)
 refine Cq (fun K5 k5 => ?_)
 refine Cr <| Lx.y (asg rfl) rfl <| Lx.nil <| ?_
 refine Xx.tn (k5 _ _ _ _ ?_)
 refine Cx.block ?_
 refine Cx.loopK (Sc 0 rfl (Sc 1 rfl (Sc 7 rfl (Sc 8 rfl (Sc 9 rfl (Sc 10 rfl (Sc 11 rfl (Sub.nil _)))))))) (fun m ρ' B' H' => ∃ (i : Nat), (i ≤ ns.length) ∧ m = ns.length - i ∧ ρ' = [(5, i64 (i : Int))] ∧ B = B' ∧ R = H') ⟨0, Nat.zero_le _, rfl, rfl, rfl, rfl⟩ (Sc 5 rfl (Sc 0 rfl (Sc 1 rfl (Sc 7 rfl (Sc 8 rfl (Sc 9 rfl (Sc 10 rfl (Sc 11 rfl (Sub.nil _))))))))) ?_
 rintro m ρ' B' H' ⟨i, hi, rfl, rfl, rfl, rfl⟩
 refine Cq (fun K6 k6 => ?_)
 refine Cq (fun K7 k7 => ?_)
 refine Cr <| Lx.y (mv rfl) rfl <| Lx.y (mv rfl) rfl <| Lx.y (lenV (ty' := 0) U51 rfl) rfl <| Lx.y (lss rfl rfl) rfl <| Lx.nil <| ?_
 refine Xx.tn (k7 _ _ _ _ ?_)
 refine Cx.condD rfl (fun h8 => ?_) (fun h8 => ?_)
 ·
  have hlt := h8
  have hlt : i < ns.length := by omega
  have hlt2 : i < ms.length := by omega
  obtain ⟨ba, oa, csa, eta, fza, hAa, hBa, hca⟩ := flat_at bmc_len (hR1 (by omega)) hlt
  obtain ⟨bb, ob, csb, etb, fzb, hAb, hBb, hcb⟩ := flat_at bmc_len (hR2 (by omega)) hlt2
  have heb := hat i hlt hlt2
  have hon := ho _ (List.getElem_mem hlt)
  have hcb : (csb.drop (ob + i * 4)).take 4 = [u64 (ns[i]'hlt).b.seq, str (ns[i]'hlt).b.prev, u64 (ns[i]'hlt).b.tx, .slice (ms[i]'hlt2).A (ns[i]'hlt).b.revs.length (ms[i]'hlt2).c] := by rw [hcb, heb]; rfl
  refine Cx.skip ?_
  refine Xx.tn (k6 _ _ _ _ ?_)
  refine Cq (fun K9 k9 => ?_)
  refine Cx.block ?_
  refine Cq (fun K10 k10 => ?_)
  refine Cq (fun K11 k11 => ?_)
  refine Cx.drawn (by kernel_rfl) ?_
  refine Dx.p (i := 0) rfl (by kernel_rfl) (mv rfl) rfl ?_
  refine Dx.p (i := 1) rfl (by kernel_rfl) (mv rfl) rfl ?_
  refine Dx.p (i := 2) rfl (by kernel_rfl) (Yx.val (ia (b := ba) (o := oa) U51 sz25 (by rw [← hAa]; rfl) rfl (Int.toNat_natCast _) (by omega) (by omega)) rfl) rfl ?_
  refine Dx.p (i := 3) rfl (by kernel_rfl) (fa' fo25_0 rfl) rfl ?_
  refine Dx.r (i := 4) rfl (by kernel_rfl) (ldB U22 rfl rfl hBa (cell_of hca 0 (by omega) rfl)) rfl ?_
  refine Dx.p (i := 5) rfl (by kernel_rfl) (mv rfl) rfl ?_
  refine Dx.p (i := 6) rfl (by kernel_rfl) (mv rfl) rfl ?_
  refine Dx.p (i := 7) rfl (by kernel_rfl) (Yx.val (ia (b := bb) (o := ob) U51 sz25 (by rw [← hAb]; rfl) rfl (Int.toNat_natCast _) (by omega) (by omega)) rfl) rfl ?_
  refine Dx.p (i := 8) rfl (by kernel_rfl) (fa' fo25_0 rfl) rfl ?_
  refine Dx.r (i := 9) rfl (by kernel_rfl) (ldB U22 rfl rfl hBb (by first | exact cell_of hcb 0 (by omega) rfl)) rfl ?_
  refine Dx.p (i := 10) rfl (by kernel_rfl) (Yx.ff (neI rfl rfl) (by simp)) rfl ?_
  refine Dx.p (i := 11) rfl (by kernel_rfl) (mv rfl) rfl ?_
  refine Dx.pT (i := 12) rfl rfl rfl rfl (by kernel_rfl) (mv rfl) rfl ?_
  refine Dx.pT (i := 13) rfl rfl rfl rfl (by kernel_rfl) (mv rfl) rfl ?_
  refine Dx.pT (i := 14) rfl rfl rfl rfl (by kernel_rfl) (Yx.val (ia (b := ba) (o := oa) U51 sz25 (by rw [← hAa]; rfl) rfl (Int.toNat_natCast _) (by omega) (by omega)) rfl) rfl ?_
  refine Dx.pT (i := 15) rfl rfl rfl rfl (by kernel_rfl) (fa' fo25_1 rfl) rfl ?_
  refine Dx.rT (i := 16) rfl rfl rfl rfl (by kernel_rfl) (ldB U9 rfl rfl hBa (cell_of hca 1 (by omega) rfl)) rfl ?_
  refine Dx.pT (i := 17) rfl rfl rfl rfl (by kernel_rfl) (mv rfl) rfl ?_
  refine Dx.pT (i := 18) rfl rfl rfl rfl (by kernel_rfl) (mv rfl) rfl ?_
  refine Dx.pT (i := 19) rfl rfl rfl rfl (by kernel_rfl) (Yx.val (ia (b := bb) (o := ob) U51 sz25 (by rw [← hAb]; rfl) rfl (Int.toNat_natCast _) (by omega) (by omega)) rfl) rfl ?_
  refine Dx.pT (i := 20) rfl rfl rfl rfl (by kernel_rfl) (fa' fo25_1 rfl) rfl ?_
  refine Dx.rT (i := 21) rfl rfl rfl rfl (by kernel_rfl) (ldB U9 rfl rfl hBb (by first | exact cell_of hcb 1 (by omega) rfl)) rfl ?_
  refine Dx.pT (i := 22) rfl rfl rfl rfl (by kernel_rfl) (Yx.ff (neS rfl rfl) (by simp)) rfl ?_
  refine Dx.p (i := 23) rfl (by kernel_rfl) (pickF rfl rfl) rfl ?_
  refine Dx.p (i := 24) rfl (by kernel_rfl) (mv rfl) rfl ?_
  refine Dx.pT (i := 25) rfl rfl rfl rfl (by kernel_rfl) (mv rfl) rfl ?_
  refine Dx.pT (i := 26) rfl rfl rfl rfl (by kernel_rfl) (mv rfl) rfl ?_
  refine Dx.pT (i := 27) rfl rfl rfl rfl (by kernel_rfl) (Yx.val (ia (b := ba) (o := oa) U51 sz25 (by rw [← hAa]; rfl) rfl (Int.toNat_natCast _) (by omega) (by omega)) rfl) rfl ?_
  refine Dx.pT (i := 28) rfl rfl rfl rfl (by kernel_rfl) (fa' fo25_2 rfl) rfl ?_
  refine Dx.rT (i := 29) rfl rfl rfl rfl (by kernel_rfl) (ldB U22 rfl rfl hBa (cell_of hca 2 (by omega) rfl)) rfl ?_
  refine Dx.pT (i := 30) rfl rfl rfl rfl (by kernel_rfl) (mv rfl) rfl ?_
  refine Dx.pT (i := 31) rfl rfl rfl rfl (by kernel_rfl) (mv rfl) rfl ?_
  refine Dx.pT (i := 32) rfl rfl rfl rfl (by kernel_rfl) (Yx.val (ia (b := bb) (o := ob) U51 sz25 (by rw [← hAb]; rfl) rfl (Int.toNat_natCast _) (by omega) (by omega)) rfl) rfl ?_
  refine Dx.pT (i := 33) rfl rfl rfl rfl (by kernel_rfl) (fa' fo25_2 rfl) rfl ?_
  refine Dx.rT (i := 34) rfl rfl rfl rfl (by kernel_rfl) (ldB U22 rfl rfl hBb (by first | exact cell_of hcb 2 (by omega) rfl)) rfl ?_
  refine Dx.pT (i := 35) rfl rfl rfl rfl (by kernel_rfl) (Yx.ff (neI rfl rfl) (by simp)) rfl ?_
  refine Dx.p (i := 36) rfl (by kernel_rfl) (pickF rfl rfl) rfl ?_
  refine Dx.p (i := 37) rfl (by kernel_rfl) (mv rfl) rfl ?_
  refine Dx.pT (i := 38) rfl rfl rfl rfl (by kernel_rfl) (mv rfl) rfl ?_
  refine Dx.pT (i := 39) rfl rfl rfl rfl (by kernel_rfl) (mv rfl) rfl ?_
  refine Dx.pT (i := 40) rfl rfl rfl rfl (by kernel_rfl) (Yx.val (ia (b := ba) (o := oa) U51 sz25 (by rw [← hAa]; rfl) rfl (Int.toNat_natCast _) (by omega) (by omega)) rfl) rfl ?_
  refine Dx.pT (i := 41) rfl rfl rfl rfl (by kernel_rfl) (fa' fo25_3 rfl) rfl ?_
  refine Dx.rT (i := 42) rfl rfl rfl rfl (by kernel_rfl) (ldB U23 rfl rfl hBa (cell_of hca 3 (by omega) rfl)) rfl ?_
  refine Dx.pT (i := 43) rfl rfl rfl rfl (by kernel_rfl) (lenV (ty' := 0) U23 rfl) rfl ?_
  refine Dx.pT (i := 44) rfl rfl rfl rfl (by kernel_rfl) (mv rfl) rfl ?_
  refine Dx.pT (i := 45) rfl rfl rfl rfl (by kernel_rfl) (mv rfl) rfl ?_
  refine Dx.pT (i := 46) rfl rfl rfl rfl (by kernel_rfl) (Yx.val (ia (b := bb) (o := ob) U51 sz25 (by rw [← hAb]; rfl) rfl (Int.toNat_natCast _) (by omega) (by omega)) rfl) rfl ?_
  refine Dx.pT (i := 47) rfl rfl rfl rfl (by kernel_rfl) (fa' fo25_3 rfl) rfl ?_
  refine Dx.rT (i := 48) rfl rfl rfl rfl (by kernel_rfl) (ldB U23 rfl rfl hBb (by first | exact cell_of hcb 3 (by omega) rfl)) rfl ?_
  refine Dx.pT (i := 49) rfl rfl rfl rfl (by kernel_rfl) (lenV (ty' := 0) U23 rfl) rfl ?_
  refine Dx.pT (i := 50) rfl rfl rfl rfl (by kernel_rfl) (Yx.ff (neI rfl rfl) (by simp)) rfl ?_
  refine Dx.p (i := 51) rfl (by kernel_rfl) (pickF rfl rfl) rfl ?_
  refine Dx.done (by kernel_rfl) ?_
  refine Xx.tn (k11 _ _ _ _ ?_)
  refine Cx.condF rfl <| Cx.skip <| ?_
  refine Xx.tn (k10 _ _ _ _ ?_)
  refine Cq (fun K12 k12 => ?_)
  refine Cr <| Lx.y (asg rfl) rfl <| Lx.nil <| ?_
  refine Xx.tn (k12 _ _ _ _ ?_)
  refine Cx.block ?_
  refine Cx.loopK (Sc 0 rfl (Sc 1 rfl (Sc 5 rfl (Sc 7 rfl (Sc 8 rfl (Sc 9 rfl (Sc 10 rfl (Sc 11 rfl (Sc 12 rfl (Sc 13 rfl (Sc 14 rfl (Sc 15 rfl (Sc 18 rfl (Sc 19 rfl (Sc 20 rfl (Sc 21 rfl (Sc 22 rfl (Sc 23 rfl (Sc 24 rfl (Sc 25 rfl (Sc 26 rfl (Sc 27 rfl (Sc 28 rfl (Sc 29 rfl (Sc 30 rfl (Sc 31 rfl (Sc 32 rfl (Sc 33 rfl (Sc 34 rfl (Sc 35 rfl (Sc 36 rfl (Sc 37 rfl (Sc 38 rfl (Sc 39 rfl (Sc 40 rfl (Sc 41 rfl (Sc 42 rfl (Sc 43 rfl (Sc 44 rfl (Sc 45 rfl (Sc 46 rfl (Sc 47 rfl (Sc 48 rfl (Sc 49 rfl (Sc 50 rfl (Sc 51 rfl (Sc 52 rfl (Sc 53 rfl (Sc 54 rfl (Sc 55 rfl (Sc 56 rfl (Sc 57 rfl (Sc 58 rfl (Sc 59 rfl (Sc 60 rfl (Sc 61 rfl (Sc 62 rfl (Sc 63 rfl (Sc 64 rfl (Sc 65 rfl (Sc 66 rfl (Sc 67 rfl (Sc 68 rfl (Sc 69 rfl (Sub.nil _))))))))))))))))))))))))))))))))))))))))))))))))))))))))))))))))) (fun m ρ' B' H' => ∃ (k : Nat), (k ≤ (ns[i]'hlt).b.revs.length) ∧ m = (ns[i]'hlt).b.revs.length - k ∧ ρ' = [(6, i64 (k : Int))] ∧ B = B' ∧ R = H') ⟨0, Nat.zero_le _, rfl, rfl, rfl, rfl⟩ (Sc 6 rfl (Sc 0 rfl (Sc 1 rfl (Sc 5 rfl (Sc 7 rfl (Sc 8 rfl (Sc 9 rfl (Sc 10 rfl (Sc 11 rfl (Sc 12 rfl (Sc 13 rfl (Sc 14 rfl (Sc 15 rfl (Sc 18 rfl (Sc 19 rfl (Sc 20 rfl (Sc 21 rfl (Sc 22 rfl (Sc 23 rfl (Sc 24 rfl (Sc 25 rfl (Sc 26 rfl (Sc 27 rfl (Sc 28 rfl (Sc 29 rfl (Sc 30 rfl (Sc 31 rfl (Sc 32 rfl (Sc 33 rfl (Sc 34 rfl (Sc 35 rfl (Sc 36 rfl (Sc 37 rfl (Sc 38 rfl (Sc 39 rfl (Sc 40 rfl (Sc 41 rfl (Sc 42 rfl (Sc 43 rfl (Sc 44 rfl (Sc 45 rfl (Sc 46 rfl (Sc 47 rfl (Sc 48 rfl (Sc 49 rfl (Sc 50 rfl (Sc 51 rfl (Sc 52 rfl (Sc 53 rfl (Sc 54 rfl (Sc 55 rfl (Sc 56 rfl (Sc 57 rfl (Sc 58 rfl (Sc 59 rfl (Sc 60 rfl (Sc 61 rfl (Sc 62 rfl (Sc 63 rfl (Sc 64 rfl (Sc 65 rfl (Sc 66 rfl (Sc 67 rfl (Sc 68 rfl (Sc 69 rfl (Sub.nil _)))))))))))))))))))))))))))))))))))))))))))))))))))))))))))))))))) ?_
  rintro m ρ' B' H' ⟨k, hk, rfl, rfl, rfl, rfl⟩
  refine Cq (fun K13 k13 => ?_)
  refine Cq (fun K14 k14 => ?_)
  refine Cr <| Lx.y (mv rfl) rfl <| Lx.y (mv rfl) rfl <| Lx.y (mv rfl) rfl <| Lx.y (Yx.val (ia (b := ba) (o := oa) U51 sz25 (by rw [← hAa]; rfl) rfl (Int.toNat_natCast _) (by omega) (by omega)) rfl) rfl <| Lx.y (fa' fo25_3 rfl) rfl <| Lx.y (ldB U23 rfl rfl hBa (cell_of hca 3 (by omega) rfl)) rfl <| Lx.y (lenV (ty' := 0) U23 rfl) rfl <| Lx.y (lss rfl rfl) rfl <| Lx.nil <| ?_
  refine Xx.tn (k14 _ _ _ _ ?_)
  refine Cx.condD rfl (fun h15 => ?_) (fun h15 => ?_)
  ·
   have hkt := h15
   have hkt : k < (ns[i]'hlt).b.revs.length := by omega
   have hkt2 : k < (ms[i]'hlt2).b.revs.length := by rw [← heb]; exact hkt
   obtain ⟨bc, oc, csc, etc, fzc, hAc, hBc, hcc⟩ := flat_at rvc_len (hr1 _ (List.getElem_mem hlt) (by omega)) hkt
   obtain ⟨bd, od, csd, etd, fzd, hAd, hBd, hcd⟩ := flat_at rvc_len (hr2 _ (List.getElem_mem hlt2) (by omega)) hkt2
   have hcd : (csd.drop (od + k * 8)).take 8 = rvc ((ns[i]'hlt).b.revs[k]'hkt) := by rw [hcd]; congr 1; simp only [heb]
   refine Cx.skip ?_
   refine Xx.tn (k13 _ _ _ _ ?_)
   refine Cq (fun K16 k16 => ?_)
   refine Cx.block ?_
   refine Cq (fun K17 k17 => ?_)
   refine Cx.drawn (by kernel_rfl) ?_
   refine Dx.p (i := 0) rfl (by kernel_rfl) (mv rfl) rfl ?_
   refine Dx.p (i := 1) rfl (by kernel_rfl) (mv rfl) rfl ?_
   refine Dx.p (i := 2) rfl (by kernel_rfl) (Yx.val (ia (b := ba) (o := oa) U51 sz25 (by rw [← hAa]; rfl) rfl (Int.toNat_natCast _) (by omega) (by omega)) rfl) rfl ?_
   refine Dx.p (i := 3) rfl (by kernel_rfl) (fa' fo25_3 rfl) rfl ?_
   refine Dx.r (i := 4) rfl (by kernel_rfl) (ldB U23 rfl rfl hBa (cell_of hca 3 (by omega) rfl)) rfl ?_
   refine Dx.p (i := 5) rfl (by kernel_rfl) (mv rfl) rfl ?_
   refine Dx.p (i := 6) rfl (by kernel_rfl) (Yx.val (ia (b := bc) (o := oc) U23 sz40 (by rw [← hAc]; rfl) rfl (Int.toNat_natCast _) (by omega) (by omega)) rfl) rfl ?_
   refine Dx.r (i := 7) rfl (by kernel_rfl) (ldA U40 rfl sz40 rfl (Cells.base hBc hcc) rfl) rfl ?_
   refine Dx.p (i := 8) rfl (by kernel_rfl) (mv rfl) rfl ?_
   refine Dx.p (i := 9) rfl (by kernel_rfl) (mv rfl) rfl ?_
   refine Dx.p (i := 10) rfl (by kernel_rfl) (Yx.val (ia (b := bb) (o := ob) U51 sz25 (by rw [← hAb]; rfl) rfl (Int.toNat_natCast _) (by omega) (by omega)) rfl) rfl ?_
   refine Dx.p (i := 11) rfl (by kernel_rfl) (fa' fo25_3 rfl) rfl ?_
   refine Dx.r (i := 12) rfl (by kernel_rfl) (ldB U23 rfl rfl hBb (by first | exact cell_of hcb 3 (by omega) rfl)) rfl ?_
   refine Dx.p (i := 13) rfl (by kernel_rfl) (mv rfl) rfl ?_
   refine Dx.p (i := 14) rfl (by kernel_rfl) (Yx.val (ia (b := bd) (o := od) U23 sz40 (by rw [← hAd]; rfl) rfl (Int.toNat_natCast _) (by omega) (by omega)) rfl) rfl ?_
   refine Dx.r (i := 15) rfl (by kernel_rfl) (ldA U40 rfl sz40 rfl (Cells.base hBd hcd) rfl) rfl ?_
   refine Dx.p (i := 16) rfl (by kernel_rfl) (neRv rfl rfl) rfl ?_
   refine Dx.done (by kernel_rfl) ?_
   refine Xx.tn (k17 _ _ _ _ ?_)
   refine Cx.condF rfl <| Cx.skip <| Xx.bn <| ?_
   refine Xx.tn (k16 _ _ _ _ ?_)
   refine Cr <| Lx.y (mv rfl) rfl <| Lx.y (Yx.val (add rfl rfl (by first | exact wrap64 (by omega) (by omega) | rfl)) (show _ = i64 ((k + 1 : Nat) : Int) from rfl)) rfl <| Lx.y (asg rfl) rfl <| Lx.nil <| ?_
   exact Xx.againK ⟨k + 1, hkt, rfl, rfl, rfl, rfl⟩ (by omega) (Sc 6 rfl (Sc 0 rfl (Sc 1 rfl (Sc 5 rfl (Sc 7 rfl (Sc 8 rfl (Sc 9 rfl (Sc 10 rfl (Sc 11 rfl (Sc 12 rfl (Sc 13 rfl (Sc 14 rfl (Sc 15 rfl (Sc 18 rfl (Sc 19 rfl (Sc 20 rfl (Sc 21 rfl (Sc 22 rfl (Sc 23 rfl (Sc 24 rfl (Sc 25 rfl (Sc 26 rfl (Sc 27 rfl (Sc 28 rfl (Sc 29 rfl (Sc 30 rfl (Sc 31 rfl (Sc 32 rfl (Sc 33 rfl (Sc 34 rfl (Sc 35 rfl (Sc 36 rfl (Sc 37 rfl (Sc 38 rfl (Sc 39 rfl (Sc 40 rfl (Sc 41 rfl (Sc 42 rfl (Sc 43 rfl (Sc 44 rfl (Sc 45 rfl (Sc 46 rfl (Sc 47 rfl (Sc 48 rfl (Sc 49 rfl (Sc 50 rfl (Sc 51 rfl (Sc 52 rfl (Sc 53 rfl (Sc 54 rfl (Sc 55 rfl (Sc 56 rfl (Sc 57 rfl (Sc 58 rfl (Sc 59 rfl (Sc 60 rfl (Sc 61 rfl (Sc 62 rfl (Sc 63 rfl (Sc 64 rfl (Sc 65 rfl (Sc 66 rfl (Sc 67 rfl (Sc 68 rfl (Sc 69 rfl (Sub.nil _))))))))))))))))))))))))))))))))))))))))))))))))))))))))))))))))))
  ·
   skip
   refine Cx.exit <| Xx.te <| Xx.te <| Xx.bh <| Xx.bn <| ?_
   refine Xx.tn (k9 _ _ _ _ ?_)
   refine Cr <| Lx.y (mv rfl) rfl <| Lx.y (Yx.val (add rfl rfl (by first | exact wrap64 (by omega) (by omega) | rfl)) (show _ = i64 ((i + 1 : Nat) : Int) from rfl)) rfl <| Lx.y (asg rfl) rfl <| Lx.nil <| ?_
   exact Xx.againK ⟨i + 1, hlt, rfl, rfl, rfl, rfl⟩ (by omega) (Sc 5 rfl (Sc 0 rfl (Sc 1 rfl (Sc 7 rfl (Sc 8 rfl (Sc 9 rfl (Sc 10 rfl (Sc 11 rfl (Sub.nil _)))))))))
 ·
  skip
  refine Cx.exit <| Xx.te <| Xx.te <| Xx.bh <| ?_
  refine Xx.tn (k4 _ _ _ _ ?_)
  refine Cq (fun K18 k18 => ?_)
  refine Cr <| Lx.y (asg rfl) rfl <| Lx.nil <| ?_
  refine Xx.tn (k18 _ _ _ _ ?_)
  refine Cx.ret ?_
  exact Xx.rB1 rfl rfl ⟨rfl, rfl⟩ (Fl _) rfl
end ViN
end Go.Proofs.YthlfffbcligocaaGreat
namespace Go.Proofs.YthlfffbcligocaaGreat
open Go.SL Go.RowKit
set_option maxRecDepth 100000
open VhA VhB VhC VhD VhE VhF VhG VhH VhI VhJ VhK VhL VhM VhN VhO VhP VhQ VhR VhS VhT VhU VhV VhW VhX VhY VhZ ViA ViB ViC ViE ViF ViG ViH ViI ViJ ViM ViN
open Jn1 (Rc rcc Jn jnH atV)
open DkB (Dm Dk dkH findM)
open Jn4 (Ck Holds Fits recsOf lastLen Still)
open Jn3 (addD allF recsAt fileOf)
open ViD (Put_ct)
open DkA (sec)
namespace ViO
theorem sz3 : (Tryz.prog.info? 3).map (·.size) = some 1 := by kernel_rfl
theorem sz4 : (Tryz.prog.info? 4).map (·.size) = some 1 := by kernel_rfl
theorem sz5 : (Tryz.prog.info? 5).map (·.size) = some 1 := by kernel_rfl
theorem sz9 : (Tryz.prog.info? 9).map (·.size) = some 1 := by kernel_rfl
theorem sz22 : (Tryz.prog.info? 22).map (·.size) = some 1 := by kernel_rfl
theorem sz23 : (Tryz.prog.info? 23).map (·.size) = some 1 := by kernel_rfl
theorem sz25 : (Tryz.prog.info? 25).map (·.size) = some 4 := by kernel_rfl
theorem sz26 : (Tryz.prog.info? 26).map (·.size) = some 1 := by kernel_rfl
theorem sz40 : (Tryz.prog.info? 40).map (·.size) = some 8 := by kernel_rfl
theorem sz51 : (Tryz.prog.info? 51).map (·.size) = some 1 := by kernel_rfl
theorem ti3 : TI Tryz.prog 3 [.int .i64 0] 1 8 := TI.of (by kernel_rfl) rfl rfl
theorem ti5 : TI Tryz.prog 5 [.int .u8 0] 1 1 := TI.of (by kernel_rfl) rfl rfl
theorem ti25 : TI Tryz.prog 25 [.int .u64 0, str [], .int .u64 0, .slice none 0 0] 4 56 := TI.of (by kernel_rfl) rfl rfl
theorem ti40 : TI Tryz.prog 40 [.int .i64 0, str [], str [], .int .u64 0, .int .u64 0, str [], str [], .bool false] 8 96 := TI.of (by kernel_rfl) rfl rfl
theorem bandM (n : Int) (k : Nat) (hk : k ≤ 1000000) : ∃ m : Nat, bAnd .i64 n (k : Int) = (m : Int) ∧ m ≤ k := by
  have h0 : (BitVec.ofInt 64 (k : Int)).toNat = k := by rw [BitVec.toNat_ofInt]; omega
  have h1 : (BitVec.ofInt 64 n &&& BitVec.ofInt 64 (k : Int)).toNat ≤ k := by
    rw [BitVec.toNat_and]; refine Nat.le_trans Nat.and_le_right (Nat.le_of_eq h0)
  refine ⟨_, ?_, h1⟩
  unfold bAnd
  show IntKind.i64.wrap (((BitVec.ofInt 64 n &&& BitVec.ofInt 64 (k : Int)).toNat : Nat) : Int) = _
  exact wrap64 (by omega) (by omega)
structure Sz where
  xs : List Int
  A : Option Addr
  c : Nat
def szc (s : Sz) : List Value := [.slice s.A s.xs.length s.c]
theorem szc_len (s : Sz) : (szc s).length = 1 := rfl
def SzOk (B : Frag) (s : Sz) : Prop := (0 < s.xs.length → RoS B 1 s.A s.xs.length (ints s.xs)) ∧ s.xs.length ≤ 9223372036854775807
theorem sd_mono {K L C K' L' C' : Nat} {D : Dm} {fb : List (List Ck)} {l : List Bk} (h : Sd K L C D fb l) (hK : K ≤ K') (hL : L ≤ L') (hC : C ≤ C') : Sd K' L' C' D fb l :=
  ⟨h.calm.mono hK hL hC, h.still, h.holds, h.puts, h.chain, h.only, h.last⟩
theorem sd_room {K L C : Nat} {D : Dm} {fb : List (List Ck)} {l : List Bk} (h : Sd K L C D fb l) (r : Int) (hr : 0 ≤ r ∧ r ≤ 9223372036854775807) : Sd K L C { D with room := r } fb l :=
  ⟨⟨h.calm.plan, h.calm.dead, h.calm.nd, h.calm.rise, h.calm.lim, h.calm.len, h.calm.now, h.calm.sure, hr, h.calm.ch⟩, h.still, h.holds, h.puts, h.chain, h.only, h.last⟩
theorem same_own_ct (ns ms : List Bm) (A1 A2 : Option Addr) (c1 c2 : Nat) (B : Frag) (hR1 : 0 < ns.length → RoS B 4 A1 ns.length (ns.flatMap bmc)) (hr1 : ∀ z ∈ ns, z.ro B) (hr2 : ∀ z ∈ ms, z.ro B) (he : ns.map (·.b) = ms.map (·.b)) (hn : ns.length ≤ 1000000) (ho : ∀ z ∈ ns, z.b.revs.length ≤ 1000000) :
    CtC Tryz.prog 22 [.slice A1 ns.length c1, .slice A2 ms.length c2] B (sbuf 25 4 A2 ms.length c2 (ms.flatMap bmc)) (.bool true) (sbuf 25 4 A2 ms.length c2 (ms.flatMap bmc)) :=
  CtC.lend (Go.SL.enters_of Tryz.func22 rfl (by kernel_rfl)) fun k hk ha => same_ct ns ms A1 A2 c1 c2 _ (fun h0 => (hR1 h0).mono (Frag.le_un B k)) (fun _ => (sbuf_ro hk ha).1) (fun z hz => Bm.ro_mono (hr1 z hz) (Frag.le_un B k)) (fun z hz => Bm.ro_mono (hr2 z hz) (Frag.le_un B k)) he hn ho
theorem PutF_ct (vb : Nat) (x : Vm) (j : Jn) (d : Dk) (bm : Bm) (fb : List (List Ck)) (l : List Bk) (K L C : Nat) (B : Frag) (hk : VmOk B x) (hR : bm.ro B) (hl : x.vs.l = l) (hfo : followsF bm.b (BitVec.ofInt 64 (l.length : Nat)) (prevF l) = 0) (hfr : Fresh bm.b) (hall : (allF (blkR bm.b)).length ≤ 2500)
    (hs : Sd K L C d.abs fb l) (hf : Fits d.abs j fb) (hdb : j.db = x.db) (hK : K ≤ 900000) (hL : L ≤ 900000) (hC : C ≤ 1000000000) (hll : l.length ≤ 10000) :
    Ct Tryz.prog 13 [.pointer (some ⟨vb, 0, none⟩), .agg (bmc bm).toArray] B (vH vb x * (jnH x.jb j * dkH x.db d)) (fun v B' H' => ∃ e x' j' d' fb' l', v = i64 e ∧ ((e = 0 ∧ l' = l ++ [bm.b]) ∨ (e = 50 ∧ l' = l)) ∧ H' = vH vb x' * (jnH x'.jb j' * dkH x'.db d') ∧ VmOk B' x' ∧ x'.db = x.db ∧ x'.vs.l = l' ∧ j'.db = x'.db ∧
      Sd (K + 2) (L + 2500) (C + 2) d'.abs fb' l' ∧ Fits d'.abs j' fb') := by
  have ho := (follows_ok hfo (prevF_len _)).1
  have hml : x.ms.length = l.length := by rw [← hl]; exact (List.length_map ..).symm
  have hjl : j.l.length ≤ 650000 := by rw [hf.l]; have := sd_count hs; omega
  have hjla : j.last ≤ 1000000 := by rw [hf.last]; have := sd_len hs; omega
  refine Ct.mono (Put_ct vb x j d bm K L C B hk hR (ok_in ho) (by omega) hdb hs.calm hK (by omega) hC (by omega) (by omega)) ?_
  rintro v B' H' ⟨x', j', d', rfl, hk', hxd, hxj, h⟩
  rw [hml, hl] at h
  rcases h with ⟨h1, _⟩ | ⟨_, ⟨i, hi, h2⟩, _⟩ | ⟨_, _, ⟨h3, rfl, rfl, rfl, hd⟩ | ⟨h3, rfl, hv, hd, Al, cl, hj⟩⟩
  · exact absurd hfo h1
  · obtain ⟨r, hr, _⟩ := mem_bodd.1 hi
    have e : bm.b.revs.getD i zRv = r := by rw [List.getD_eq_getElem?_getD, hr]; rfl
    rw [e, hfr r (List.mem_of_getElem? hr)] at h2
    cases h2
  · exact ⟨50, x', j', d', fb, l, rfl, .inr ⟨rfl, rfl⟩, rfl, hk', rfl, hl, hdb, by rw [hd]; exact sd_mono hs (by omega) (by omega) (by omega), by rw [hd]; exact hf⟩
  · obtain ⟨fb', hs', hf'⟩ := sd_put hs hf hfo hfr h3 Al cl
    refine ⟨0, x', j', d', fb', l ++ [bm.b], rfl, .inl ⟨rfl, rfl⟩, by rw [hxj, hxd], hk', hxd, ?_, by rw [hj]; exact hdb.trans hxd.symm, by rw [hd]; exact sd_mono hs' (Nat.le_refl _) (by omega) (Nat.le_refl _), by rw [hd, hj]; exact hf'⟩
    rw [hv]
    show x.vs.l ++ [bm.b] = _
    rw [hl]
theorem room_ok {k : Nat} (h : k ≤ 2500) : ((sec (37500 + k) + 30 * sec 37500 : Nat) : Int) ≤ 100000 := by
  have h9 := DkN.sec_mono (show 37500 + k ≤ 40000 by omega)
  have h8 : sec 40000 + 30 * sec 37500 ≤ 100000 := by decide
  omega
theorem ok_all {B : Frag} {x : Vm} (hk : VmOk B x) {ns : List Bm} (h : ns.map (·.b) = x.vs.l) : ns.length = x.ms.length ∧ ∀ z ∈ ns, z.b.revs.length ≤ 1000000 := by
  have h1 := congrArg List.length h
  rw [List.length_map, show x.vs.l.length = x.ms.length from List.length_map ..] at h1
  refine ⟨h1, fun z hz => ?_⟩
  have : z.b ∈ x.vs.l := by rw [← h]; exact List.mem_map.2 ⟨z, hz, rfl⟩
  obtain ⟨y, hy, e⟩ := List.mem_map.1 (show z.b ∈ x.ms.map (·.b) from this)
  have h2 := (hk.1 y hy).2.2.2.1
  rw [← e]; omega
set_option maxHeartbeats 1200000 in
theorem VaultFull_ct (ls : List Sz) (A0 : Option Addr) (c0 : Nat) (sectors : Int) (B : Frag) (hl0 : 0 < ls.length → RoS B 1 A0 ls.length (ls.flatMap szc)) (hsz : ∀ s ∈ ls, SzOk B s) (hln : ls.length ≤ 9223372036854775807) : CtB Tryz.prog 5 [.slice A0 ls.length c0, i64 sectors] B (fun v B' => v = .bool true) := by
 obtain ⟨m0, hm1, hm2⟩ := bandM sectors 63 (by decide)
 refine CtB.of_body Tryz.func5 rfl (nt := 100) rfl (by kernel_rfl) rfl ?_
 intro N0 w0 R
 refine Cq (fun K1 k1 => ?_)
 refine Cr <| Lx.y (asg rfl) rfl <| Lx.nil <| ?_
 refine Xx.tn (k1 _ _ _ _ ?_)
 refine Cq (fun K2 k2 => ?_)
 refine Cr <| Lx.y (mv rfl) rfl <| Lx.y (Yx.val (band rfl rfl rfl) (show _ = i64 ((m0 : Nat) : Int) from by rw [← hm1]; rfl)) rfl <| ?_
 refine Lx.c rfl rfl rfl (Jn5.New2_ct (m0 : Int) _ (by omega)) ((one_star _).symm) rfl ?_
 rintro v1 B1 H1 ⟨hBB, db, d0, rfl, hd, rfl⟩ hB1
 have hBB2 := hBB.symm
 subst hBB2
 clear hB1
 have hs0 : Sd 0 0 0 d0.abs [] [] := by rw [hd]; exact sd_new m0 ⟨by omega, by omega⟩
 refine Lx.y (mv rfl) rfl <| Lx.y (ext rfl rfl) rfl <| Lx.y (ext rfl rfl) rfl <| Lx.y (asg rfl) rfl <| Lx.y (asg rfl) rfl <| Lx.nil <| ?_
 refine Xx.tn (k2 _ _ _ _ ?_)
 refine Cq (fun K3 k3 => ?_)
 refine Cr <| Lx.y (mv rfl) rfl <| ?_
 refine Lx.c rfl rfl rfl (open_ct db d0 [] [] 0 0 0 _ hs0 (by decide) (by decide) (by decide) (by decide)) (rfl) rfl ?_
 rintro v2 B2 H2 ⟨vb, x0, j0, rfl, hxl0, hxd0, hk0, hjd0, hjm0, hf0, rfl⟩ hB2
 simp only [star_assoc]
 refine Lx.y (mv rfl) rfl <| Lx.y (ext rfl rfl) rfl <| Lx.y (ext rfl rfl) rfl <| Lx.y (asg rfl) rfl <| Lx.y (asg rfl) rfl <| Lx.nil <| ?_
 refine Xx.tn (k3 _ _ _ _ ?_)
 refine Cq (fun K4 k4 => ?_)
 refine Cq (fun K5 k5 => ?_)
 refine Cr ?_
 refine Lx.cb rfl rfl rfl (awake_ct _) rfl ?_
 rintro v3 B3 rfl hB3
 have hB03 := Fz hB2 hB3
 have hk0 := hk0.mono hB3
 refine Lx.y (not' rfl) rfl <| Lx.y (mv rfl) rfl <| Lx.gT rfl rfl rfl <| Lx.y (mv rfl) rfl <| Lx.gT rfl rfl rfl <| Lx.y (not' rfl) rfl <| Lx.y (pickF rfl rfl) rfl <| Lx.nil <| ?_
 refine Xx.tn (k5 _ _ _ _ ?_)
 refine Cx.condF rfl <| Cx.skip <| ?_
 refine Xx.tn (k4 _ _ _ _ ?_)
 refine Cq (fun K7 k7 => ?_)
 refine Cr ?_
 refine Lx.o (bslZ U51 ti25) rfl (fun v B' H' hΦ hB => ?_)
 obtain ⟨bz, rfl, hBB, rfl⟩ := hΦ
 have hBB2 := hBB.symm
 subst hBB2
 clear hB
 refine Lx.y (asg rfl) rfl <| Lx.nil <| ?_
 refine Xx.tn (k7 _ _ _ _ ?_)
 refine Cx.cutK (ds' := []) (Sc 0 rfl (Sc 1 rfl (Sc 5 rfl (Sc 7 rfl (Sc 8 rfl (Sc 16 rfl (Sc 17 rfl (Sc 18 rfl (Sc 19 rfl (Sc 20 rfl (Sc 21 rfl (Sc 22 rfl (Sc 23 rfl (Sc 24 rfl (Sc 25 rfl (Sc 26 rfl (Sc 27 rfl (Sc 28 rfl (Sc 29 rfl (Sc 30 rfl (Sc 31 rfl (Sc 32 rfl (Sc 33 rfl (Sub.nil _)))))))))))))))))))))))) (fun ρ' B' H' => ∃ (x : Vm) (j : Jn) (d : Dk) (fb : List (List Ck)) (l : List Bk) (ns : List Bm) (Am : Option Addr) (cm : Nat), ρ' = [(9, .slice Am ns.length cm)] ∧ sbuf 25 4 Am ns.length cm (ns.flatMap bmc) * (vH vb x * (jnH x.jb j * (dkH x.db d * R))) = H' ∧ VmOk B' x ∧ x.vs.l = l ∧ x.db = db ∧ j.db = x.db ∧ Sd 30 37500 30 d.abs fb l ∧ Fits d.abs j fb ∧ ns.map (·.b) = l ∧ (∀ z ∈ ns, z.ro B') ∧ l.length ≤ 15 ∧ B.le B') ?_ ?_
 ·
  refine Cq (fun K8 k8 => ?_)
  refine Cr <| Lx.y (asg rfl) rfl <| Lx.nil <| ?_
  refine Xx.tn (k8 _ _ _ _ ?_)
  refine Cx.block ?_
  refine Cx.loopK (Sc 0 rfl (Sc 1 rfl (Sc 5 rfl (Sc 7 rfl (Sc 8 rfl (Sc 16 rfl (Sc 17 rfl (Sc 18 rfl (Sc 19 rfl (Sc 20 rfl (Sc 21 rfl (Sc 22 rfl (Sc 23 rfl (Sc 24 rfl (Sc 25 rfl (Sc 26 rfl (Sc 27 rfl (Sc 28 rfl (Sc 29 rfl (Sc 30 rfl (Sc 31 rfl (Sc 32 rfl (Sc 33 rfl (Sub.nil _)))))))))))))))))))))))) (fun m ρ' B' H' => ∃ (i : Nat) (x : Vm) (j : Jn) (d : Dk) (fb : List (List Ck)) (l : List Bk) (ns : List Bm) (Am : Option Addr) (cm : Nat) (B9 : Frag), (i ≤ ls.length ∧ i ≤ 15 ∧ VmOk B9 x ∧ x.vs.l = l ∧ x.db = db ∧ j.db = x.db ∧ Sd (2 * i) (2500 * i) (2 * i) d.abs fb l ∧ Fits d.abs j fb ∧ ns.map (·.b) = l ∧ (∀ z ∈ ns, z.ro B9) ∧ l.length ≤ i ∧ B.le B9) ∧ m = 15 - i ∧ ρ' = [(9, .slice Am ns.length cm), (10, i64 (i : Int))] ∧ B9 = B' ∧ sbuf 25 4 Am ns.length cm (ns.flatMap bmc) * (vH vb x * (jnH x.jb j * (dkH x.db d * R))) = H') ⟨0, x0, j0, d0, [], [], [], some ⟨bz, 0, none⟩, 0, _, ⟨Nat.zero_le _, Nat.zero_le _, hk0, hxl0, hxd0, hjd0, hs0, hf0, rfl, fun z hz => (by cases hz), Nat.le_refl _, hB03⟩, rfl, rfl, rfl, by show sbuf _ 4 (some ⟨bz, 0, none⟩) 0 0 [] * _ = _; ac_rfl⟩ (Sc 9 rfl (Sc 10 rfl (Sc 0 rfl (Sc 1 rfl (Sc 5 rfl (Sc 7 rfl (Sc 8 rfl (Sc 16 rfl (Sc 17 rfl (Sc 18 rfl (Sc 19 rfl (Sc 20 rfl (Sc 21 rfl (Sc 22 rfl (Sc 23 rfl (Sc 24 rfl (Sc 25 rfl (Sc 26 rfl (Sc 27 rfl (Sc 28 rfl (Sc 29 rfl (Sc 30 rfl (Sc 31 rfl (Sc 32 rfl (Sc 33 rfl (Sub.nil _)))))))))))))))))))))))))) ?_
  rintro m ρ' B' H' ⟨i, x, j, d, fb, l, ns, Am, cm, B9, ⟨hi, hi15, hk, hxl, hxd, hjd, hs, hf, hnm, hro, hll, hB9⟩, rfl, rfl, rfl, rfl⟩
  refine Cq (fun K9 k9 => ?_)
  refine Cq (fun K10 k10 => ?_)
  refine Cr <| Lx.y (mv rfl) rfl <| Lx.y (mv rfl) rfl <| Lx.y (lenV (ty' := 0) U54 rfl) rfl <| Lx.y (lss rfl rfl) rfl <| Lx.y (mv rfl) rfl <| ?_
  refine Xx.ifD (t := 38) rfl (fun h11 => ?_) (fun h11 => ?_)
  ·
   have hlt := h11
   have hlt : i < ls.length := by omega
   refine Lx.gT rfl rfl rfl <| Lx.y (mv rfl) rfl <| Lx.gT rfl rfl rfl <| Lx.y (lss rfl rfl) rfl <| Lx.y (pickT rfl rfl) rfl <| Lx.nil <| ?_
   refine Xx.tn (k10 _ _ _ _ ?_)
   refine Cx.condD rfl (fun h12 => ?_) (fun h12 => ?_)
   ·
    have h15 := h12
    obtain ⟨b9, o9, cs9, et9, fz9, hA9, hB9c, hc9⟩ := flat_at szc_len (hl0 (by omega)) hlt
    have hB9c := hB9 _ _ hB9c
    obtain ⟨hsz1, hsz2⟩ := hsz _ (List.getElem_mem hlt)
    have hnl : ns.length = l.length := by have := congrArg List.length hnm; rwa [List.length_map] at this
    have hmo := made_ok l ns.length (ls[i]'hlt).xs (by omega)
    have hma := made_all l ns.length (ls[i]'hlt).xs (by omega)
    refine Cx.skip ?_
    refine Xx.tn (k9 _ _ _ _ ?_)
    refine Cq (fun K13 k13 => ?_)
    refine Cx.block ?_
    refine Cq (fun K14 k14 => ?_)
    refine Cr <| Lx.y (mv rfl) rfl <| Lx.y (mv rfl) rfl <| Lx.y (lenV (ty' := 0) U51 rfl) rfl <| Lx.y (mv rfl) rfl <| Lx.y (mv rfl) rfl <| Lx.y (Yx.val (ia (b := b9) (o := o9) U54 sz26 (by rw [← hA9]; rfl) rfl (Int.toNat_natCast _) (by omega) (by omega)) rfl) rfl <| Lx.y (ldB U26 rfl rfl hB9c (cell_of hc9 0 (by omega) rfl)) rfl <| ?_
    refine Lx.c rfl rfl rfl (made_ct vb x ns.length (ls[i]'hlt).xs (ls[i]'hlt).A (ls[i]'hlt).c _ hk (fun h0 => (hsz1 h0).mono hB9) (by omega) hsz2) (Pick.eq) rfl ?_
    rintro v6 B6 H6 ⟨rfl, A6, c6, rfl, hR6⟩ hB6
    rw [hxl] at hR6 ⊢
    obtain ⟨zb, hzb⟩ : ∃ zb : Bm, zb = ⟨(madeF l ns.length (ls[i]'hlt).xs), A6, c6⟩ := ⟨_, rfl⟩
    rw [← hzb] at hR6 ⊢
    have hzbb : zb.b = (madeF l ns.length (ls[i]'hlt).xs) := by rw [hzb]
    refine Lx.new (allocO ti25) rfl (fun b11 => ?_)
    refine Lx.st (stA (d := .bool) sz25 rfl rfl rfl rfl (by show 0 + 4 ≤ 4; omega) rfl) ?_
    refine Lx.nil ?_
    refine Xx.tn (k14 _ _ _ _ ?_)
    refine Cq (fun K15 k15 => ?_)
    refine Cr <| Lx.y (mv rfl) rfl <| Lx.y (ldA U25 rfl sz25 rfl (Co (n := 4) Pe (show ((bmc zb).drop 0).take 4 = bmc zb from rfl)) rfl) rfl <| ?_
    refine Lx.c rfl rfl rfl (PutF_ct vb x j d zb fb l (2 * i) (2500 * i) (2 * i) _ (hk.mono hB6) hR6 hxl (by rw [hzbb]; exact hmo.1) (by rw [hzbb]; exact hmo.2) (by rw [hzbb]; exact hma) hs hf hjd (by omega) (by omega) (by omega) (by omega)) (show _ = (vH vb x * (jnH x.jb j * dkH x.db d)) * (row b11 25 (bmc zb) * (sbuf 25 4 Am ns.length cm (ns.flatMap bmc) * R)) by ac_rfl) rfl ?_
    rintro v7 B7 H7 ⟨e, x', j', d', fb', l', rfl, hor, rfl, hk', hxd', hxl', hjd', hs', hf'⟩ hB7
    simp only [star_assoc]
    have hsi : Sd (2 * (i + 1)) (2500 * (i + 1)) (2 * (i + 1)) d'.abs fb' l' := sd_mono hs' (by omega) (by omega) (by omega)
    have hll' : l'.length ≤ i + 1 := by
     rcases hor with ⟨_, rfl⟩ | ⟨_, rfl⟩
     ·rw [List.length_append, List.length_singleton]; omega
     ·omega
    refine Lx.y (asg rfl) rfl <| Lx.nil <| ?_
    refine Xx.tn (k15 _ _ _ _ ?_)
    refine Cx.cutK (ds' := []) (Sc 0 rfl (Sc 1 rfl (Sc 5 rfl (Sc 7 rfl (Sc 8 rfl (Sc 10 rfl (Sc 11 rfl (Sc 12 rfl (Sc 16 rfl (Sc 17 rfl (Sc 18 rfl (Sc 19 rfl (Sc 20 rfl (Sc 21 rfl (Sc 22 rfl (Sc 23 rfl (Sc 24 rfl (Sc 25 rfl (Sc 26 rfl (Sc 27 rfl (Sc 28 rfl (Sc 29 rfl (Sc 30 rfl (Sc 31 rfl (Sc 32 rfl (Sc 33 rfl (Sc 34 rfl (Sc 35 rfl (Sc 36 rfl (Sc 37 rfl (Sc 38 rfl (Sc 39 rfl (Sc 40 rfl (Sc 41 rfl (Sc 44 rfl (Sc 45 rfl (Sc 46 rfl (Sc 47 rfl (Sc 48 rfl (Sc 49 rfl (Sc 50 rfl (Sc 51 rfl (Sc 52 rfl (Sc 53 rfl (Sc 54 rfl (Sub.nil _)))))))))))))))))))))))))))))))))))))))))))))) (fun ρ' B' H' => ∃ (ms : List Bm) (Am : Option Addr) (cm : Nat), ρ' = [(9, .slice Am ms.length cm)] ∧ B7 = B' ∧ sbuf 25 4 Am ms.length cm (ms.flatMap bmc) * (vH vb x' * (jnH x'.jb j' * (dkH x'.db d' * R))) = H' ∧ ms.map (·.b) = l' ∧ ∀ z ∈ ms, z.ro B') ?_ ?_
    ·
     refine Cq (fun K16 k16 => ?_)
     refine Cr <| Lx.y (mv rfl) rfl <| Lx.y (eqI rfl rfl) rfl <| Lx.nil <| ?_
     refine Xx.tn (k16 _ _ _ _ ?_)
     refine Cx.condD rfl (fun h17 => ?_) (fun h17 => ?_)
     ·
      have he := h17
      have he : e = 0 := he
      have hl2 : l' = l ++ [zb.b] := hor.elim (·.2) fun q => by have := q.1; omega
      refine Cr <| Lx.y (mv rfl) rfl <| Lx.y (ldA U25 rfl sz25 rfl (Co (n := 4) Pe (show ((bmc zb).drop 0).take 4 = bmc zb from rfl)) rfl) rfl <| ?_
      refine Lx.bsl (bslA U51 ti25 rfl rfl (by decide)) rfl (fun bv => ?_)
      refine Lx.o (appN (et := 25) (A := Am) (ns.length + 1) (bmc zb) ((ns ++ [zb]).flatMap bmc) U51 U51 ti25 rfl rfl rfl rfl rfl (by omega) (by omega) rfl (by simp only [List.flatMap_append, List.flatMap_cons, List.flatMap_nil, List.append_nil])) rfl (fun v B' H' hΦ hB => ?_)
      obtain ⟨A3, c3, rfl, hA3, hl3, hc3, hBB, rfl⟩ := hΦ
      have hBB2 := hBB.symm
      subst hBB2
      refine Xx.dropB bv ?_
      clear hB
      refine Lx.y (asg rfl) rfl <| Lx.nil <| ?_
      refine Xx.dropB b11 ?_
      exact Xx.mkK (⟨ns ++ [zb], A3, c3, rfl, rfl, by rw [List.length_append, List.length_singleton], by rw [List.map_append, hnm, hl2]; rfl, fun z hz => (List.mem_append.1 hz).elim (fun e => Bm.ro_mono (hro z e) (Fz hB6 hB7)) fun e => by rw [List.mem_singleton.1 e]; exact Bm.ro_mono hR6 hB7⟩) (Sub.consE (s := 9) rfl (by rw [List.length_append, List.length_singleton]) (Sc 0 rfl (Sc 1 rfl (Sc 5 rfl (Sc 7 rfl (Sc 8 rfl (Sc 10 rfl (Sc 11 rfl (Sc 12 rfl (Sc 16 rfl (Sc 17 rfl (Sc 18 rfl (Sc 19 rfl (Sc 20 rfl (Sc 21 rfl (Sc 22 rfl (Sc 23 rfl (Sc 24 rfl (Sc 25 rfl (Sc 26 rfl (Sc 27 rfl (Sc 28 rfl (Sc 29 rfl (Sc 30 rfl (Sc 31 rfl (Sc 32 rfl (Sc 33 rfl (Sc 34 rfl (Sc 35 rfl (Sc 36 rfl (Sc 37 rfl (Sc 38 rfl (Sc 39 rfl (Sc 40 rfl (Sc 41 rfl (Sc 44 rfl (Sc 45 rfl (Sc 46 rfl (Sc 47 rfl (Sc 48 rfl (Sc 49 rfl (Sc 50 rfl (Sc 51 rfl (Sc 52 rfl (Sc 53 rfl (Sc 54 rfl (Sub.nil _)))))))))))))))))))))))))))))))))))))))))))))))
     ·
      have he := h17
      obtain ⟨he, hl2⟩ := hor.resolve_left fun q => he q.1
      subst he
      refine Cq (fun K18 k18 => ?_)
      refine Cr <| Lx.y (mv rfl) rfl <| Lx.y (Yx.ff (neI rfl rfl) rfl) rfl <| Lx.y (mv rfl) rfl <| Lx.gT rfl rfl rfl <| Lx.y (mv rfl) rfl <| Lx.gT rfl rfl rfl <| ?_
      refine Lx.co rfl rfl rfl (CtC.of (VDead_ct vb x' d' _) (show Value.bool d'.dead = .bool false from by rw [show d'.dead = false from hs'.calm.dead]) rfl) (pickTwo) rfl ?_
      simp only [star_assoc]
      refine Lx.y (pickF rfl rfl) rfl <| Lx.nil <| ?_
      refine Xx.tn (k18 _ _ _ _ ?_)
      refine Cx.condF rfl <| Cx.skip <| ?_
      refine Xx.dropB b11 ?_
      exact Xx.mkK (⟨ns, Am, cm, rfl, rfl, by ac_rfl, by rw [hnm, hl2], fun z hz => Bm.ro_mono (hro z hz) (Fz hB6 hB7)⟩) (Sc 9 rfl (Sc 0 rfl (Sc 1 rfl (Sc 5 rfl (Sc 7 rfl (Sc 8 rfl (Sc 10 rfl (Sc 11 rfl (Sc 12 rfl (Sc 16 rfl (Sc 17 rfl (Sc 18 rfl (Sc 19 rfl (Sc 20 rfl (Sc 21 rfl (Sc 22 rfl (Sc 23 rfl (Sc 24 rfl (Sc 25 rfl (Sc 26 rfl (Sc 27 rfl (Sc 28 rfl (Sc 29 rfl (Sc 30 rfl (Sc 31 rfl (Sc 32 rfl (Sc 33 rfl (Sc 34 rfl (Sc 35 rfl (Sc 36 rfl (Sc 37 rfl (Sc 38 rfl (Sc 39 rfl (Sc 40 rfl (Sc 41 rfl (Sc 44 rfl (Sc 45 rfl (Sc 46 rfl (Sc 47 rfl (Sc 48 rfl (Sc 49 rfl (Sc 50 rfl (Sc 51 rfl (Sc 52 rfl (Sc 53 rfl (Sc 54 rfl (Sub.nil _)))))))))))))))))))))))))))))))))))))))))))))))
    ·rintro ρ' B' H' ⟨ms, Am, cm, rfl, hBB, rfl, hms, hrom⟩
     subst hBB
     rename Frag => B7
     refine Cq (fun K19 k19 => ?_)
     refine Cr <| Lx.y (mv rfl) rfl <| ?_
     refine Lx.c rfl rfl rfl (All_ct vb x' _ hk') (Pick.eq) rfl ?_
     rintro v8 BA H8 ⟨rfl, ns2, A8, c8, hn2, rfl, hR8, hr8⟩ hBA
     obtain ⟨hn2a, hn2b⟩ := ok_all hk' hn2
     have hkA := hk'.mono hBA
     have hk2 := hk'.2
     have hroA : ∀ z ∈ ms, z.ro BA := fun z hz => Bm.ro_mono (hrom z hz) hBA
     refine Lx.y (mv rfl) rfl ?_
     refine Lx.co rfl rfl rfl (same_own_ct ns2 ms A8 Am c8 cm _ (fun _ => hR8) hr8 hroA (by rw [hn2, hms, hxl']) (by omega) hn2b) (PickS.eq) rfl ?_
     refine Lx.y (not' rfl) rfl <| Lx.nil <| ?_
     refine Xx.tn (k19 _ _ _ _ ?_)
     refine Cx.condF rfl <| Cx.skip <| Xx.bn <| ?_
     refine Xx.tn (k13 _ _ _ _ ?_)
     refine Cr <| Lx.y (mv rfl) rfl <| Lx.y (Yx.val (add rfl rfl (by first | exact wrap64 (by omega) (by omega) | rfl)) (show _ = i64 ((i + 1 : Nat) : Int) from rfl)) rfl <| Lx.y (asg rfl) rfl <| Lx.nil <| ?_
     exact Xx.againK ⟨i + 1, x', j', d', fb', l', ms, Am, cm, _, ⟨hlt, by omega, hkA, hxl', hxd'.trans hxd, hjd', hsi, hf', hms, hroA, hll', Fz hB9 (Fz hB6 (Fz hB7 hBA))⟩, rfl, rfl, rfl, (by ac_rfl)⟩ (by omega) (Sc 9 rfl (Sc 10 rfl (Sc 0 rfl (Sc 1 rfl (Sc 5 rfl (Sc 7 rfl (Sc 8 rfl (Sc 16 rfl (Sc 17 rfl (Sc 18 rfl (Sc 19 rfl (Sc 20 rfl (Sc 21 rfl (Sc 22 rfl (Sc 23 rfl (Sc 24 rfl (Sc 25 rfl (Sc 26 rfl (Sc 27 rfl (Sc 28 rfl (Sc 29 rfl (Sc 30 rfl (Sc 31 rfl (Sc 32 rfl (Sc 33 rfl (Sub.nil _))))))))))))))))))))))))))
   ·
    skip
    refine Cx.exit <| Xx.te <| Xx.te <| Xx.bh <| ?_
    exact Xx.mkK (⟨x, j, d, fb, l, ns, Am, cm, rfl, rfl, hk, hxl, hxd, hjd, sd_mono hs (by omega) (by omega) (by omega), hf, hnm, hro, by omega, hB9⟩) (Sc 9 rfl (Sc 0 rfl (Sc 1 rfl (Sc 5 rfl (Sc 7 rfl (Sc 8 rfl (Sc 16 rfl (Sc 17 rfl (Sc 18 rfl (Sc 19 rfl (Sc 20 rfl (Sc 21 rfl (Sc 22 rfl (Sc 23 rfl (Sc 24 rfl (Sc 25 rfl (Sc 26 rfl (Sc 27 rfl (Sc 28 rfl (Sc 29 rfl (Sc 30 rfl (Sc 31 rfl (Sc 32 rfl (Sc 33 rfl (Sub.nil _)))))))))))))))))))))))))
  ·
   skip
   refine Lx.gF rfl rfl rfl rfl <| Lx.gF rfl rfl rfl rfl <| Lx.y (pickF rfl rfl) rfl <| Lx.nil <| ?_
   refine Xx.tn (k10 _ _ _ _ ?_)
   refine Cx.condF rfl <| Cx.exit <| Xx.te <| Xx.te <| Xx.bh <| ?_
   exact Xx.mkK (⟨x, j, d, fb, l, ns, Am, cm, rfl, rfl, hk, hxl, hxd, hjd, sd_mono hs (by omega) (by omega) (by omega), hf, hnm, hro, by omega, hB9⟩) (Sc 9 rfl (Sc 0 rfl (Sc 1 rfl (Sc 5 rfl (Sc 7 rfl (Sc 8 rfl (Sc 16 rfl (Sc 17 rfl (Sc 18 rfl (Sc 19 rfl (Sc 20 rfl (Sc 21 rfl (Sc 22 rfl (Sc 23 rfl (Sc 24 rfl (Sc 25 rfl (Sc 26 rfl (Sc 27 rfl (Sc 28 rfl (Sc 29 rfl (Sc 30 rfl (Sc 31 rfl (Sc 32 rfl (Sc 33 rfl (Sub.nil _)))))))))))))))))))))))))
 ·rintro ρ' B' H' ⟨x, j, d, fb, l, ns, Am, cm, rfl, rfl, hk, hxl, hxd, hjd, hs, hf, hnm, hro, hll, hB9⟩
  rename Frag => B9
  have hnl : ns.length = l.length := by have := congrArg List.length hnm; rwa [List.length_map] at this
  have hmo := made_ok l ns.length [3] (by omega)
  have hma := made_all l ns.length [3] (by omega)
  rw [hxd]
  refine Cq (fun K20 k20 => ?_)
  refine Cr <| Lx.y (mv rfl) rfl <| ?_
  refine Lx.co rfl rfl rfl (DkB.Room_ct d db 100000 _) (Pick.eq) rfl ?_
  obtain ⟨d1, hd1⟩ : ∃ d1 : Dk, d1 = { d with room := if (0 : Int) ≤ 100000 then 100000 else d.room } := ⟨_, rfl⟩
  rw [← hd1]
  have hda : d1.abs = { d.abs with room := 100000 } := by rw [hd1]; rfl
  have hs1 : Sd 30 37500 30 d1.abs fb l := by rw [hda]; exact sd_room hs 100000 (by decide)
  have hf1 : Fits d1.abs j fb := by rw [hda]; exact ⟨hf.holds, hf.l, hf.last, hf.long, hf.most⟩
  refine Lx.nil ?_
  refine Xx.tn (k20 _ _ _ _ ?_)
  refine Cq (fun K21 k21 => ?_)
  refine Cr <| Lx.y (mv rfl) rfl <| Lx.y (mv rfl) rfl <| Lx.y (lenV (ty' := 0) U51 rfl) rfl <| ?_
  refine Lx.bsl (bsl1 U26 ti3 rfl rfl rfl (by decide)) rfl (fun bs => ?_)
  refine Xx.closeT bs [i64 3] [] 1 1 1 rfl rfl (Nat.le_refl _) rfl ?_
  refine Xx.freezeT (some ⟨bs, 0, none⟩) fun B4 hB4 hRs hnc _ => ?_
  refine Lx.c rfl rfl rfl (made_ct vb x ns.length [3] (some ⟨bs, 0, none⟩) 1 _ (hk.mono hB4) (fun _ => hRs) (by omega) (by decide)) (Pick.eq) rfl ?_
  rintro v6 B6 H6 ⟨rfl, A6, c6, rfl, hR6⟩ hB6
  rw [hxl] at hR6 ⊢
  obtain ⟨zb, hzb⟩ : ∃ zb : Bm, zb = ⟨(madeF l ns.length [3]), A6, c6⟩ := ⟨_, rfl⟩
  rw [← hzb] at hR6 ⊢
  have hzbb : zb.b = (madeF l ns.length [3]) := by rw [hzb]
  refine Lx.new (allocO ti25) rfl (fun b13 => ?_)
  refine Lx.st (stA (d := .bool) sz25 rfl rfl rfl rfl (by show 0 + 4 ≤ 4; omega) rfl) ?_
  refine Lx.nil ?_
  refine Xx.tn (k21 _ _ _ _ ?_)
  refine Cq (fun K22 k22 => ?_)
  refine Cq (fun K23 k23 => ?_)
  refine Cr <| Lx.y (mv rfl) rfl <| Lx.y (ldA U25 rfl sz25 rfl (Co (n := 4) Pe (show ((bmc zb).drop 0).take 4 = bmc zb from rfl)) rfl) rfl <| ?_
  refine Lx.c rfl rfl rfl (PutS_ct vb x j d1 zb fb l 30 37500 30 _ (hk.mono (Fz hB4 hB6)) hR6 hxl (by rw [hzbb]; exact hmo.1) (by rw [hzbb]; exact hmo.2) hs1 hf1 hjd (by decide) (by decide) (by decide) (by omega) (by rw [hda, hzbb]; exact room_ok hma)) (show _ = (vH vb x * (jnH x.jb j * dkH x.db d1)) * (row b13 25 (bmc zb) * (sbuf 25 4 Am ns.length cm (ns.flatMap bmc) * R)) by rw [hxd]; ac_rfl) rfl ?_
  rintro v7 B7 H7 ⟨y, k, d2, fb2, rfl, rfl, hky, hyd, hyj, hyl, hkd, hkm, hs2, hf2, hrm2⟩ hB7
  simp only [star_assoc]
  rw [hyd, hxd]
  have hzl : (allF (blkR zb.b)).length ≤ 2500 := by rw [hzbb]; exact hma
  refine Xx.freezeT Am fun B5 hB5 hRm hncm _ => ?_
  refine Lx.y (Yx.ff (neI rfl rfl) rfl) rfl <| Lx.nil <| ?_
  refine Xx.tn (k23 _ _ _ _ ?_)
  refine Cx.condF rfl <| Cx.skip <| ?_
  refine Xx.tn (k22 _ _ _ _ ?_)
  refine Cq (fun K24 k24 => ?_)
  refine Cr <| Lx.y (mv rfl) rfl <| ?_
  refine Lx.c rfl rfl rfl (open_ct db d2 fb2 (l ++ [zb.b]) (30 + 2) _ (30 + 2) _ hs2 (by decide) (by omega) (by decide) (by rw [List.length_append, List.length_singleton]; omega)) (Pick.eq) rfl ?_
  rintro v9 BO H9 ⟨wb, q, u, rfl, hql, hqd, hkq, hud, hum, huf, rfl⟩ hBO
  simp only [star_assoc]
  refine Lx.y (mv rfl) rfl <| Lx.y (ext rfl rfl) rfl <| Lx.y (ext rfl rfl) rfl <| Lx.y (asg rfl) rfl <| Lx.y (asg rfl) rfl <| Lx.nil <| ?_
  refine Xx.tn (k24 _ _ _ _ ?_)
  refine Cq (fun K25 k25 => ?_)
  refine Cx.drawn (by kernel_rfl) ?_
  refine Dx.p (i := 0) rfl (by kernel_rfl) (mv rfl) rfl ?_
  refine Dx.p (i := 1) rfl (by kernel_rfl) (mv rfl) rfl ?_
  refine Dx.pT (i := 2) rfl rfl rfl rfl (by kernel_rfl) (mv rfl) rfl ?_
  refine Dx.pT (i := 5) rfl rfl rfl rfl (by kernel_rfl) (mv rfl) rfl ?_
  refine Dx.rT (i := 7) rfl rfl rfl rfl (by kernel_rfl) (ldA U25 rfl sz25 rfl (Co (n := 4) Pe (show ((bmc zb).drop 0).take 4 = bmc zb from rfl)) rfl) rfl ?_
  refine Dx.three (i := 3) (j := 4) (l := 8) (by kernel_rfl) ?_ ?_ ?_
  ·
   refine Dstep.oT (i := 3) rfl rfl rfl rfl (Ox.call rfl rfl rfl (All_ct wb q _ hkq) (Pick.eq)) rfl (fun v B' H' hΦ hB => ?_)
   obtain ⟨_, rfl, hΦ⟩ := hΦ
   obtain ⟨rfl, ns2, A8, c8, hn2, rfl, hR8, hr8⟩ := hΦ
   have hBQ := hB
   clear hB
   rename Frag => BQ
   obtain ⟨hn2a, hn2b⟩ := ok_all hkq hn2
   have hkq2 := hkq.2
   have hBt := Fz hB5 (Fz hBO hBQ)
   have hBu := Fz hB4 (Fz hB6 (Fz hB7 hBt))
   refine ⟨Jy (Jt) (ldA U25 rfl sz25 rfl (Co (n := 4) Pe (show ((bmc zb).drop 0).take 4 = bmc zb from rfl)) rfl), ?_⟩
   refine Dx.two (i := 4) (j := 8) (by kernel_rfl) ?_ ?_
   ·
    refine Dstep.oT (i := 4) rfl rfl rfl rfl (bslZ U51 ti25) rfl (fun v B' H' hΦ hB => ?_)
    obtain ⟨bY0, rfl, hBB, rfl⟩ := hΦ
    have hBB2 := hBB.symm
    subst hBB2
    refine ⟨Jy (Jt) (ldA U25 rfl sz25 rfl (Co (n := 4) Pe (show ((bmc zb).drop 0).take 4 = bmc zb from rfl)) rfl), ?_⟩
    refine Dx.two (i := 6) (j := 8) (by kernel_rfl) ?_ ?_
    ·
     refine Dstep.oT (i := 6) rfl rfl rfl rfl (appB (et := 25) (A := some ⟨bY0, 0, none⟩) ns.length (ns.flatMap bmc) U51 U51 ti25 rfl rfl (hRm.mono (Fz hBO hBQ)) (bmc_all _) (by omega) (by omega) (by omega) (List.nil_append _)) rfl (fun v B' H' hΦ hB => ?_)
     obtain ⟨AY, cY, rfl, hAY, hcY, hBB, rfl⟩ := hΦ
     have hBB2 := hBB.symm
     subst hBB2
     refine ⟨Jy (Jt) (ldA U25 rfl sz25 rfl (Co (n := 4) Pe (show ((bmc zb).drop 0).take 4 = bmc zb from rfl)) rfl), ?_⟩
     refine Dx.one (i := 8) (by kernel_rfl) ?_
     refine Dstep.oT (i := 8) rfl rfl rfl rfl (bslA U51 ti25 rfl rfl (by decide)) rfl (fun v B' H' hΦ hB => ?_)
     obtain ⟨bv, rfl, Y, rfl⟩ := hΦ; have E := Y.symm; subst E; clear hB
     refine ⟨Je (Jt) (by kernel_rfl), ?_⟩
     refine Dx.one (i := 9) (by kernel_rfl) ?_
     refine Dstep.oT (i := 9) rfl rfl rfl rfl (appN (et := 25) (A := AY) ((ns ++ [zb]).length) (bmc zb) ((ns ++ [zb]).flatMap bmc) U51 U51 ti25 rfl rfl rfl rfl rfl (by omega) (by omega) (by rw [List.length_append]; rfl) (by simp only [List.flatMap_append, List.flatMap_cons, List.flatMap_nil, List.append_nil])) rfl (fun v B' H' hΦ hB => ?_)
     obtain ⟨AZ, cZ, rfl, hAZ, hlZ, hcZ, hBB, rfl⟩ := hΦ
     have hBB2 := hBB.symm
     subst hBB2
     refine ⟨Jy (Jt) (ldA U25 rfl sz25 rfl (Co (n := 4) Pe (show ((bmc zb).drop 0).take 4 = bmc zb from rfl)) rfl), ?_⟩
     refine Dx.one (i := 10) (by kernel_rfl) ?_
     refine Dstep.oT (i := 10) rfl rfl rfl rfl (Ox.co rfl rfl rfl (same_own_ct ns2 (ns ++ [zb]) A8 AZ c8 cZ _ (fun _ => hR8) hr8 (fun z hz => (List.mem_append.1 hz).elim (fun e => Bm.ro_mono (hro z e) hBu) fun e => by rw [List.mem_singleton.1 e]; exact Bm.ro_mono hR6 (Fz hB7 hBt)) (by rw [hn2, hql, List.map_append, hnm]; rfl) (by omega) hn2b) (PickS.eq)) rfl (fun v B' H' hΦ hB => ?_)
     obtain ⟨rfl, Y, rfl⟩ := hΦ; have E := Y.symm; subst E; clear hB
     refine ⟨Jy (Jt) (ldA U25 rfl sz25 rfl (Co (n := 4) Pe (show ((bmc zb).drop 0).take 4 = bmc zb from rfl)) rfl), ?_⟩
     refine Dx.p (i := 11) rfl (by kernel_rfl) (pickT rfl rfl) rfl ?_
     refine Dx.p (i := 12) rfl (by kernel_rfl) (asg rfl) rfl ?_
     refine Dx.done (by kernel_rfl) ?_
     refine Xx.tn (k25 _ _ _ _ ?_)
     refine Cx.ret ?_
     repeat refine Xx.drop ?_
     exact Xx.rB1 rfl rfl rfl (Fz hB9 hBu) rfl
    refine Dstep.oT (i := 8) rfl rfl rfl rfl (bslA U51 ti25 rfl rfl (by decide)) rfl (fun v B' H' hΦ hB => ?_)
    obtain ⟨bv, rfl, Y, rfl⟩ := hΦ; have E := Y.symm; subst E; clear hB
    refine ⟨Je (Jt) (by kernel_rfl), ?_⟩
    refine Dx.one (i := 6) (by kernel_rfl) ?_
    refine Dstep.oT (i := 6) rfl rfl rfl rfl (appB (et := 25) (A := some ⟨bY0, 0, none⟩) ns.length (ns.flatMap bmc) U51 U51 ti25 rfl rfl (hRm.mono (Fz hBO hBQ)) (bmc_all _) (by omega) (by omega) (by omega) (List.nil_append _)) rfl (fun v B' H' hΦ hB => ?_)
    obtain ⟨AY, cY, rfl, hAY, hcY, hBB, rfl⟩ := hΦ
    have hBB2 := hBB.symm
    subst hBB2
    refine ⟨Jy (Jt) (ldA U25 rfl sz25 rfl (Co (n := 4) Pe (show ((bmc zb).drop 0).take 4 = bmc zb from rfl)) rfl), ?_⟩
    refine Dx.one (i := 9) (by kernel_rfl) ?_
    refine Dstep.oT (i := 9) rfl rfl rfl rfl (appN (et := 25) (A := AY) ((ns ++ [zb]).length) (bmc zb) ((ns ++ [zb]).flatMap bmc) U51 U51 ti25 rfl rfl rfl rfl rfl (by omega) (by omega) (by rw [List.length_append]; rfl) (by simp only [List.flatMap_append, List.flatMap_cons, List.flatMap_nil, List.append_nil])) rfl (fun v B' H' hΦ hB => ?_)
    obtain ⟨AZ, cZ, rfl, hAZ, hlZ, hcZ, hBB, rfl⟩ := hΦ
    have hBB2 := hBB.symm
    subst hBB2
    refine ⟨Jy (Jt) (ldA U25 rfl sz25 rfl (Co (n := 4) Pe (show ((bmc zb).drop 0).take 4 = bmc zb from rfl)) rfl), ?_⟩
    refine Dx.one (i := 10) (by kernel_rfl) ?_
    refine Dstep.oT (i := 10) rfl rfl rfl rfl (Ox.co rfl rfl rfl (same_own_ct ns2 (ns ++ [zb]) A8 AZ c8 cZ _ (fun _ => hR8) hr8 (fun z hz => (List.mem_append.1 hz).elim (fun e => Bm.ro_mono (hro z e) hBu) fun e => by rw [List.mem_singleton.1 e]; exact Bm.ro_mono hR6 (Fz hB7 hBt)) (by rw [hn2, hql, List.map_append, hnm]; rfl) (by omega) hn2b) (PickS.eq)) rfl (fun v B' H' hΦ hB => ?_)
    obtain ⟨rfl, Y, rfl⟩ := hΦ; have E := Y.symm; subst E; clear hB
    refine ⟨Jy (Jt) (ldA U25 rfl sz25 rfl (Co (n := 4) Pe (show ((bmc zb).drop 0).take 4 = bmc zb from rfl)) rfl), ?_⟩
    refine Dx.p (i := 11) rfl (by kernel_rfl) (pickT rfl rfl) rfl ?_
    refine Dx.p (i := 12) rfl (by kernel_rfl) (asg rfl) rfl ?_
    refine Dx.done (by kernel_rfl) ?_
    refine Xx.tn (k25 _ _ _ _ ?_)
    refine Cx.ret ?_
    repeat refine Xx.drop ?_
    exact Xx.rB1 rfl rfl rfl (Fz hB9 hBu) rfl
   refine Dstep.oT (i := 8) rfl rfl rfl rfl (bslA U51 ti25 rfl rfl (by decide)) rfl (fun v B' H' hΦ hB => ?_)
   obtain ⟨bv, rfl, Y, rfl⟩ := hΦ; have E := Y.symm; subst E; clear hB
   refine ⟨Je (Jt) (by kernel_rfl), ?_⟩
   refine Dx.one (i := 4) (by kernel_rfl) ?_
   refine Dstep.oT (i := 4) rfl rfl rfl rfl (bslZ U51 ti25) rfl (fun v B' H' hΦ hB => ?_)
   obtain ⟨bY0, rfl, hBB, rfl⟩ := hΦ
   have hBB2 := hBB.symm
   subst hBB2
   refine ⟨Jy (Jt) (ldA U25 rfl sz25 rfl (Co (n := 4) Pe (show ((bmc zb).drop 0).take 4 = bmc zb from rfl)) rfl), ?_⟩
   refine Dx.one (i := 6) (by kernel_rfl) ?_
   refine Dstep.oT (i := 6) rfl rfl rfl rfl (appB (et := 25) (A := some ⟨bY0, 0, none⟩) ns.length (ns.flatMap bmc) U51 U51 ti25 rfl rfl (hRm.mono (Fz hBO hBQ)) (bmc_all _) (by omega) (by omega) (by omega) (List.nil_append _)) rfl (fun v B' H' hΦ hB => ?_)
   obtain ⟨AY, cY, rfl, hAY, hcY, hBB, rfl⟩ := hΦ
   have hBB2 := hBB.symm
   subst hBB2
   refine ⟨Jy (Jt) (ldA U25 rfl sz25 rfl (Co (n := 4) Pe (show ((bmc zb).drop 0).take 4 = bmc zb from rfl)) rfl), ?_⟩
   refine Dx.one (i := 9) (by kernel_rfl) ?_
   refine Dstep.oT (i := 9) rfl rfl rfl rfl (appN (et := 25) (A := AY) ((ns ++ [zb]).length) (bmc zb) ((ns ++ [zb]).flatMap bmc) U51 U51 ti25 rfl rfl rfl rfl rfl (by omega) (by omega) (by rw [List.length_append]; rfl) (by simp only [List.flatMap_append, List.flatMap_cons, List.flatMap_nil, List.append_nil])) rfl (fun v B' H' hΦ hB => ?_)
   obtain ⟨AZ, cZ, rfl, hAZ, hlZ, hcZ, hBB, rfl⟩ := hΦ
   have hBB2 := hBB.symm
   subst hBB2
   refine ⟨Jy (Jt) (ldA U25 rfl sz25 rfl (Co (n := 4) Pe (show ((bmc zb).drop 0).take 4 = bmc zb from rfl)) rfl), ?_⟩
   refine Dx.one (i := 10) (by kernel_rfl) ?_
   refine Dstep.oT (i := 10) rfl rfl rfl rfl (Ox.co rfl rfl rfl (same_own_ct ns2 (ns ++ [zb]) A8 AZ c8 cZ _ (fun _ => hR8) hr8 (fun z hz => (List.mem_append.1 hz).elim (fun e => Bm.ro_mono (hro z e) hBu) fun e => by rw [List.mem_singleton.1 e]; exact Bm.ro_mono hR6 (Fz hB7 hBt)) (by rw [hn2, hql, List.map_append, hnm]; rfl) (by omega) hn2b) (PickS.eq)) rfl (fun v B' H' hΦ hB => ?_)
   obtain ⟨rfl, Y, rfl⟩ := hΦ; have E := Y.symm; subst E; clear hB
   refine ⟨Jy (Jt) (ldA U25 rfl sz25 rfl (Co (n := 4) Pe (show ((bmc zb).drop 0).take 4 = bmc zb from rfl)) rfl), ?_⟩
   refine Dx.p (i := 11) rfl (by kernel_rfl) (pickT rfl rfl) rfl ?_
   refine Dx.p (i := 12) rfl (by kernel_rfl) (asg rfl) rfl ?_
   refine Dx.done (by kernel_rfl) ?_
   refine Xx.tn (k25 _ _ _ _ ?_)
   refine Cx.ret ?_
   repeat refine Xx.drop ?_
   exact Xx.rB1 rfl rfl rfl (Fz hB9 hBu) rfl
  ·
   refine Dstep.oT (i := 4) rfl rfl rfl rfl (bslZ U51 ti25) rfl (fun v B' H' hΦ hB => ?_)
   obtain ⟨bY0, rfl, hBB, rfl⟩ := hΦ
   have hBB2 := hBB.symm
   subst hBB2
   refine ⟨Jy (Jt) (ldA U25 rfl sz25 rfl (Co (n := 4) Pe (show ((bmc zb).drop 0).take 4 = bmc zb from rfl)) rfl), ?_⟩
   refine Dx.two (i := 3) (j := 8) (by kernel_rfl) ?_ ?_
   ·
    refine Dstep.oT (i := 3) rfl rfl rfl rfl (Ox.call rfl rfl rfl (All_ct wb q _ hkq) (Pick.eq)) rfl (fun v B' H' hΦ hB => ?_)
    obtain ⟨_, rfl, hΦ⟩ := hΦ
    obtain ⟨rfl, ns2, A8, c8, hn2, rfl, hR8, hr8⟩ := hΦ
    have hBQ := hB
    clear hB
    rename Frag => BQ
    obtain ⟨hn2a, hn2b⟩ := ok_all hkq hn2
    have hkq2 := hkq.2
    have hBt := Fz hB5 (Fz hBO hBQ)
    have hBu := Fz hB4 (Fz hB6 (Fz hB7 hBt))
    refine ⟨Jy (Jt) (ldA U25 rfl sz25 rfl (Co (n := 4) Pe (show ((bmc zb).drop 0).take 4 = bmc zb from rfl)) rfl), ?_⟩
    refine Dx.two (i := 6) (j := 8) (by kernel_rfl) ?_ ?_
    ·
     refine Dstep.oT (i := 6) rfl rfl rfl rfl (appB (et := 25) (A := some ⟨bY0, 0, none⟩) ns.length (ns.flatMap bmc) U51 U51 ti25 rfl rfl (hRm.mono (Fz hBO hBQ)) (bmc_all _) (by omega) (by omega) (by omega) (List.nil_append _)) rfl (fun v B' H' hΦ hB => ?_)
     obtain ⟨AY, cY, rfl, hAY, hcY, hBB, rfl⟩ := hΦ
     have hBB2 := hBB.symm
     subst hBB2
     refine ⟨Jy (Jt) (ldA U25 rfl sz25 rfl (Co (n := 4) Pe (show ((bmc zb).drop 0).take 4 = bmc zb from rfl)) rfl), ?_⟩
     refine Dx.one (i := 8) (by kernel_rfl) ?_
     refine Dstep.oT (i := 8) rfl rfl rfl rfl (bslA U51 ti25 rfl rfl (by decide)) rfl (fun v B' H' hΦ hB => ?_)
     obtain ⟨bv, rfl, Y, rfl⟩ := hΦ; have E := Y.symm; subst E; clear hB
     refine ⟨Je (Jt) (by kernel_rfl), ?_⟩
     refine Dx.one (i := 9) (by kernel_rfl) ?_
     refine Dstep.oT (i := 9) rfl rfl rfl rfl (appN (et := 25) (A := AY) ((ns ++ [zb]).length) (bmc zb) ((ns ++ [zb]).flatMap bmc) U51 U51 ti25 rfl rfl rfl rfl rfl (by omega) (by omega) (by rw [List.length_append]; rfl) (by simp only [List.flatMap_append, List.flatMap_cons, List.flatMap_nil, List.append_nil])) rfl (fun v B' H' hΦ hB => ?_)
     obtain ⟨AZ, cZ, rfl, hAZ, hlZ, hcZ, hBB, rfl⟩ := hΦ
     have hBB2 := hBB.symm
     subst hBB2
     refine ⟨Jy (Jt) (ldA U25 rfl sz25 rfl (Co (n := 4) Pe (show ((bmc zb).drop 0).take 4 = bmc zb from rfl)) rfl), ?_⟩
     refine Dx.one (i := 10) (by kernel_rfl) ?_
     refine Dstep.oT (i := 10) rfl rfl rfl rfl (Ox.co rfl rfl rfl (same_own_ct ns2 (ns ++ [zb]) A8 AZ c8 cZ _ (fun _ => hR8) hr8 (fun z hz => (List.mem_append.1 hz).elim (fun e => Bm.ro_mono (hro z e) hBu) fun e => by rw [List.mem_singleton.1 e]; exact Bm.ro_mono hR6 (Fz hB7 hBt)) (by rw [hn2, hql, List.map_append, hnm]; rfl) (by omega) hn2b) (PickS.eq)) rfl (fun v B' H' hΦ hB => ?_)
     obtain ⟨rfl, Y, rfl⟩ := hΦ; have E := Y.symm; subst E; clear hB
     refine ⟨Jy (Jt) (ldA U25 rfl sz25 rfl (Co (n := 4) Pe (show ((bmc zb).drop 0).take 4 = bmc zb from rfl)) rfl), ?_⟩
     refine Dx.p (i := 11) rfl (by kernel_rfl) (pickT rfl rfl) rfl ?_
     refine Dx.p (i := 12) rfl (by kernel_rfl) (asg rfl) rfl ?_
     refine Dx.done (by kernel_rfl) ?_
     refine Xx.tn (k25 _ _ _ _ ?_)
     refine Cx.ret ?_
     repeat refine Xx.drop ?_
     exact Xx.rB1 rfl rfl rfl (Fz hB9 hBu) rfl
    refine Dstep.oT (i := 8) rfl rfl rfl rfl (bslA U51 ti25 rfl rfl (by decide)) rfl (fun v B' H' hΦ hB => ?_)
    obtain ⟨bv, rfl, Y, rfl⟩ := hΦ; have E := Y.symm; subst E; clear hB
    refine ⟨Je (Jt) (by kernel_rfl), ?_⟩
    refine Dx.one (i := 6) (by kernel_rfl) ?_
    refine Dstep.oT (i := 6) rfl rfl rfl rfl (appB (et := 25) (A := some ⟨bY0, 0, none⟩) ns.length (ns.flatMap bmc) U51 U51 ti25 rfl rfl (hRm.mono (Fz hBO hBQ)) (bmc_all _) (by omega) (by omega) (by omega) (List.nil_append _)) rfl (fun v B' H' hΦ hB => ?_)
    obtain ⟨AY, cY, rfl, hAY, hcY, hBB, rfl⟩ := hΦ
    have hBB2 := hBB.symm
    subst hBB2
    refine ⟨Jy (Jt) (ldA U25 rfl sz25 rfl (Co (n := 4) Pe (show ((bmc zb).drop 0).take 4 = bmc zb from rfl)) rfl), ?_⟩
    refine Dx.one (i := 9) (by kernel_rfl) ?_
    refine Dstep.oT (i := 9) rfl rfl rfl rfl (appN (et := 25) (A := AY) ((ns ++ [zb]).length) (bmc zb) ((ns ++ [zb]).flatMap bmc) U51 U51 ti25 rfl rfl rfl rfl rfl (by omega) (by omega) (by rw [List.length_append]; rfl) (by simp only [List.flatMap_append, List.flatMap_cons, List.flatMap_nil, List.append_nil])) rfl (fun v B' H' hΦ hB => ?_)
    obtain ⟨AZ, cZ, rfl, hAZ, hlZ, hcZ, hBB, rfl⟩ := hΦ
    have hBB2 := hBB.symm
    subst hBB2
    refine ⟨Jy (Jt) (ldA U25 rfl sz25 rfl (Co (n := 4) Pe (show ((bmc zb).drop 0).take 4 = bmc zb from rfl)) rfl), ?_⟩
    refine Dx.one (i := 10) (by kernel_rfl) ?_
    refine Dstep.oT (i := 10) rfl rfl rfl rfl (Ox.co rfl rfl rfl (same_own_ct ns2 (ns ++ [zb]) A8 AZ c8 cZ _ (fun _ => hR8) hr8 (fun z hz => (List.mem_append.1 hz).elim (fun e => Bm.ro_mono (hro z e) hBu) fun e => by rw [List.mem_singleton.1 e]; exact Bm.ro_mono hR6 (Fz hB7 hBt)) (by rw [hn2, hql, List.map_append, hnm]; rfl) (by omega) hn2b) (PickS.eq)) rfl (fun v B' H' hΦ hB => ?_)
    obtain ⟨rfl, Y, rfl⟩ := hΦ; have E := Y.symm; subst E; clear hB
    refine ⟨Jy (Jt) (ldA U25 rfl sz25 rfl (Co (n := 4) Pe (show ((bmc zb).drop 0).take 4 = bmc zb from rfl)) rfl), ?_⟩
    refine Dx.p (i := 11) rfl (by kernel_rfl) (pickT rfl rfl) rfl ?_
    refine Dx.p (i := 12) rfl (by kernel_rfl) (asg rfl) rfl ?_
    refine Dx.done (by kernel_rfl) ?_
    refine Xx.tn (k25 _ _ _ _ ?_)
    refine Cx.ret ?_
    repeat refine Xx.drop ?_
    exact Xx.rB1 rfl rfl rfl (Fz hB9 hBu) rfl
   refine Dstep.oT (i := 8) rfl rfl rfl rfl (bslA U51 ti25 rfl rfl (by decide)) rfl (fun v B' H' hΦ hB => ?_)
   obtain ⟨bv, rfl, Y, rfl⟩ := hΦ; have E := Y.symm; subst E; clear hB
   refine ⟨Je (Jt) (by kernel_rfl), ?_⟩
   refine Dx.one (i := 3) (by kernel_rfl) ?_
   refine Dstep.oT (i := 3) rfl rfl rfl rfl (Ox.call rfl rfl rfl (All_ct wb q _ hkq) (Pick.eq)) rfl (fun v B' H' hΦ hB => ?_)
   obtain ⟨_, rfl, hΦ⟩ := hΦ
   obtain ⟨rfl, ns2, A8, c8, hn2, rfl, hR8, hr8⟩ := hΦ
   have hBQ := hB
   clear hB
   rename Frag => BQ
   obtain ⟨hn2a, hn2b⟩ := ok_all hkq hn2
   have hkq2 := hkq.2
   have hBt := Fz hB5 (Fz hBO hBQ)
   have hBu := Fz hB4 (Fz hB6 (Fz hB7 hBt))
   refine ⟨Jy (Jt) (ldA U25 rfl sz25 rfl (Co (n := 4) Pe (show ((bmc zb).drop 0).take 4 = bmc zb from rfl)) rfl), ?_⟩
   refine Dx.one (i := 6) (by kernel_rfl) ?_
   refine Dstep.oT (i := 6) rfl rfl rfl rfl (appB (et := 25) (A := some ⟨bY0, 0, none⟩) ns.length (ns.flatMap bmc) U51 U51 ti25 rfl rfl (hRm.mono (Fz hBO hBQ)) (bmc_all _) (by omega) (by omega) (by omega) (List.nil_append _)) rfl (fun v B' H' hΦ hB => ?_)
   obtain ⟨AY, cY, rfl, hAY, hcY, hBB, rfl⟩ := hΦ
   have hBB2 := hBB.symm
   subst hBB2
   refine ⟨Jy (Jt) (ldA U25 rfl sz25 rfl (Co (n := 4) Pe (show ((bmc zb).drop 0).take 4 = bmc zb from rfl)) rfl), ?_⟩
   refine Dx.one (i := 9) (by kernel_rfl) ?_
   refine Dstep.oT (i := 9) rfl rfl rfl rfl (appN (et := 25) (A := AY) ((ns ++ [zb]).length) (bmc zb) ((ns ++ [zb]).flatMap bmc) U51 U51 ti25 rfl rfl rfl rfl rfl (by omega) (by omega) (by rw [List.length_append]; rfl) (by simp only [List.flatMap_append, List.flatMap_cons, List.flatMap_nil, List.append_nil])) rfl (fun v B' H' hΦ hB => ?_)
   obtain ⟨AZ, cZ, rfl, hAZ, hlZ, hcZ, hBB, rfl⟩ := hΦ
   have hBB2 := hBB.symm
   subst hBB2
   refine ⟨Jy (Jt) (ldA U25 rfl sz25 rfl (Co (n := 4) Pe (show ((bmc zb).drop 0).take 4 = bmc zb from rfl)) rfl), ?_⟩
   refine Dx.one (i := 10) (by kernel_rfl) ?_
   refine Dstep.oT (i := 10) rfl rfl rfl rfl (Ox.co rfl rfl rfl (same_own_ct ns2 (ns ++ [zb]) A8 AZ c8 cZ _ (fun _ => hR8) hr8 (fun z hz => (List.mem_append.1 hz).elim (fun e => Bm.ro_mono (hro z e) hBu) fun e => by rw [List.mem_singleton.1 e]; exact Bm.ro_mono hR6 (Fz hB7 hBt)) (by rw [hn2, hql, List.map_append, hnm]; rfl) (by omega) hn2b) (PickS.eq)) rfl (fun v B' H' hΦ hB => ?_)
   obtain ⟨rfl, Y, rfl⟩ := hΦ; have E := Y.symm; subst E; clear hB
   refine ⟨Jy (Jt) (ldA U25 rfl sz25 rfl (Co (n := 4) Pe (show ((bmc zb).drop 0).take 4 = bmc zb from rfl)) rfl), ?_⟩
   refine Dx.p (i := 11) rfl (by kernel_rfl) (pickT rfl rfl) rfl ?_
   refine Dx.p (i := 12) rfl (by kernel_rfl) (asg rfl) rfl ?_
   refine Dx.done (by kernel_rfl) ?_
   refine Xx.tn (k25 _ _ _ _ ?_)
   refine Cx.ret ?_
   repeat refine Xx.drop ?_
   exact Xx.rB1 rfl rfl rfl (Fz hB9 hBu) rfl
  refine Dstep.oT (i := 8) rfl rfl rfl rfl (bslA U51 ti25 rfl rfl (by decide)) rfl (fun v B' H' hΦ hB => ?_)
  obtain ⟨bv, rfl, Y, rfl⟩ := hΦ; have E := Y.symm; subst E; clear hB
  refine ⟨Je (Jt) (by kernel_rfl), ?_⟩
  refine Dx.two (i := 3) (j := 4) (by kernel_rfl) ?_ ?_
  ·
   refine Dstep.oT (i := 3) rfl rfl rfl rfl (Ox.call rfl rfl rfl (All_ct wb q _ hkq) (Pick.eq)) rfl (fun v B' H' hΦ hB => ?_)
   obtain ⟨_, rfl, hΦ⟩ := hΦ
   obtain ⟨rfl, ns2, A8, c8, hn2, rfl, hR8, hr8⟩ := hΦ
   have hBQ := hB
   clear hB
   rename Frag => BQ
   obtain ⟨hn2a, hn2b⟩ := ok_all hkq hn2
   have hkq2 := hkq.2
   have hBt := Fz hB5 (Fz hBO hBQ)
   have hBu := Fz hB4 (Fz hB6 (Fz hB7 hBt))
   refine ⟨Jy (Jt) (ldA U25 rfl sz25 rfl (Co (n := 4) Pe (show ((bmc zb).drop 0).take 4 = bmc zb from rfl)) rfl), ?_⟩
   refine Dx.one (i := 4) (by kernel_rfl) ?_
   refine Dstep.oT (i := 4) rfl rfl rfl rfl (bslZ U51 ti25) rfl (fun v B' H' hΦ hB => ?_)
   obtain ⟨bY0, rfl, hBB, rfl⟩ := hΦ
   have hBB2 := hBB.symm
   subst hBB2
   refine ⟨Jy (Jt) (ldA U25 rfl sz25 rfl (Co (n := 4) Pe (show ((bmc zb).drop 0).take 4 = bmc zb from rfl)) rfl), ?_⟩
   refine Dx.one (i := 6) (by kernel_rfl) ?_
   refine Dstep.oT (i := 6) rfl rfl rfl rfl (appB (et := 25) (A := some ⟨bY0, 0, none⟩) ns.length (ns.flatMap bmc) U51 U51 ti25 rfl rfl (hRm.mono (Fz hBO hBQ)) (bmc_all _) (by omega) (by omega) (by omega) (List.nil_append _)) rfl (fun v B' H' hΦ hB => ?_)
   obtain ⟨AY, cY, rfl, hAY, hcY, hBB, rfl⟩ := hΦ
   have hBB2 := hBB.symm
   subst hBB2
   refine ⟨Jy (Jt) (ldA U25 rfl sz25 rfl (Co (n := 4) Pe (show ((bmc zb).drop 0).take 4 = bmc zb from rfl)) rfl), ?_⟩
   refine Dx.one (i := 9) (by kernel_rfl) ?_
   refine Dstep.oT (i := 9) rfl rfl rfl rfl (appN (et := 25) (A := AY) ((ns ++ [zb]).length) (bmc zb) ((ns ++ [zb]).flatMap bmc) U51 U51 ti25 rfl rfl rfl rfl rfl (by omega) (by omega) (by rw [List.length_append]; rfl) (by simp only [List.flatMap_append, List.flatMap_cons, List.flatMap_nil, List.append_nil])) rfl (fun v B' H' hΦ hB => ?_)
   obtain ⟨AZ, cZ, rfl, hAZ, hlZ, hcZ, hBB, rfl⟩ := hΦ
   have hBB2 := hBB.symm
   subst hBB2
   refine ⟨Jy (Jt) (ldA U25 rfl sz25 rfl (Co (n := 4) Pe (show ((bmc zb).drop 0).take 4 = bmc zb from rfl)) rfl), ?_⟩
   refine Dx.one (i := 10) (by kernel_rfl) ?_
   refine Dstep.oT (i := 10) rfl rfl rfl rfl (Ox.co rfl rfl rfl (same_own_ct ns2 (ns ++ [zb]) A8 AZ c8 cZ _ (fun _ => hR8) hr8 (fun z hz => (List.mem_append.1 hz).elim (fun e => Bm.ro_mono (hro z e) hBu) fun e => by rw [List.mem_singleton.1 e]; exact Bm.ro_mono hR6 (Fz hB7 hBt)) (by rw [hn2, hql, List.map_append, hnm]; rfl) (by omega) hn2b) (PickS.eq)) rfl (fun v B' H' hΦ hB => ?_)
   obtain ⟨rfl, Y, rfl⟩ := hΦ; have E := Y.symm; subst E; clear hB
   refine ⟨Jy (Jt) (ldA U25 rfl sz25 rfl (Co (n := 4) Pe (show ((bmc zb).drop 0).take 4 = bmc zb from rfl)) rfl), ?_⟩
   refine Dx.p (i := 11) rfl (by kernel_rfl) (pickT rfl rfl) rfl ?_
   refine Dx.p (i := 12) rfl (by kernel_rfl) (asg rfl) rfl ?_
   refine Dx.done (by kernel_rfl) ?_
   refine Xx.tn (k25 _ _ _ _ ?_)
   refine Cx.ret ?_
   repeat refine Xx.drop ?_
   exact Xx.rB1 rfl rfl rfl (Fz hB9 hBu) rfl
  refine Dstep.oT (i := 4) rfl rfl rfl rfl (bslZ U51 ti25) rfl (fun v B' H' hΦ hB => ?_)
  obtain ⟨bY0, rfl, hBB, rfl⟩ := hΦ
  have hBB2 := hBB.symm
  subst hBB2
  refine ⟨Jy (Jt) (ldA U25 rfl sz25 rfl (Co (n := 4) Pe (show ((bmc zb).drop 0).take 4 = bmc zb from rfl)) rfl), ?_⟩
  refine Dx.one (i := 3) (by kernel_rfl) ?_
  refine Dstep.oT (i := 3) rfl rfl rfl rfl (Ox.call rfl rfl rfl (All_ct wb q _ hkq) (Pick.eq)) rfl (fun v B' H' hΦ hB => ?_)
  obtain ⟨_, rfl, hΦ⟩ := hΦ
  obtain ⟨rfl, ns2, A8, c8, hn2, rfl, hR8, hr8⟩ := hΦ
  have hBQ := hB
  clear hB
  rename Frag => BQ
  obtain ⟨hn2a, hn2b⟩ := ok_all hkq hn2
  have hkq2 := hkq.2
  have hBt := Fz hB5 (Fz hBO hBQ)
  have hBu := Fz hB4 (Fz hB6 (Fz hB7 hBt))
  refine ⟨Jy (Jt) (ldA U25 rfl sz25 rfl (Co (n := 4) Pe (show ((bmc zb).drop 0).take 4 = bmc zb from rfl)) rfl), ?_⟩
  refine Dx.one (i := 6) (by kernel_rfl) ?_
  refine Dstep.oT (i := 6) rfl rfl rfl rfl (appB (et := 25) (A := some ⟨bY0, 0, none⟩) ns.length (ns.flatMap bmc) U51 U51 ti25 rfl rfl (hRm.mono (Fz hBO hBQ)) (bmc_all _) (by omega) (by omega) (by omega) (List.nil_append _)) rfl (fun v B' H' hΦ hB => ?_)
  obtain ⟨AY, cY, rfl, hAY, hcY, hBB, rfl⟩ := hΦ
  have hBB2 := hBB.symm
  subst hBB2
  refine ⟨Jy (Jt) (ldA U25 rfl sz25 rfl (Co (n := 4) Pe (show ((bmc zb).drop 0).take 4 = bmc zb from rfl)) rfl), ?_⟩
  refine Dx.one (i := 9) (by kernel_rfl) ?_
  refine Dstep.oT (i := 9) rfl rfl rfl rfl (appN (et := 25) (A := AY) ((ns ++ [zb]).length) (bmc zb) ((ns ++ [zb]).flatMap bmc) U51 U51 ti25 rfl rfl rfl rfl rfl (by omega) (by omega) (by rw [List.length_append]; rfl) (by simp only [List.flatMap_append, List.flatMap_cons, List.flatMap_nil, List.append_nil])) rfl (fun v B' H' hΦ hB => ?_)
  obtain ⟨AZ, cZ, rfl, hAZ, hlZ, hcZ, hBB, rfl⟩ := hΦ
  have hBB2 := hBB.symm
  subst hBB2
  refine ⟨Jy (Jt) (ldA U25 rfl sz25 rfl (Co (n := 4) Pe (show ((bmc zb).drop 0).take 4 = bmc zb from rfl)) rfl), ?_⟩
  refine Dx.one (i := 10) (by kernel_rfl) ?_
  refine Dstep.oT (i := 10) rfl rfl rfl rfl (Ox.co rfl rfl rfl (same_own_ct ns2 (ns ++ [zb]) A8 AZ c8 cZ _ (fun _ => hR8) hr8 (fun z hz => (List.mem_append.1 hz).elim (fun e => Bm.ro_mono (hro z e) hBu) fun e => by rw [List.mem_singleton.1 e]; exact Bm.ro_mono hR6 (Fz hB7 hBt)) (by rw [hn2, hql, List.map_append, hnm]; rfl) (by omega) hn2b) (PickS.eq)) rfl (fun v B' H' hΦ hB => ?_)
  obtain ⟨rfl, Y, rfl⟩ := hΦ; have E := Y.symm; subst E; clear hB
  refine ⟨Jy (Jt) (ldA U25 rfl sz25 rfl (Co (n := 4) Pe (show ((bmc zb).drop 0).take 4 = bmc zb from rfl)) rfl), ?_⟩
  refine Dx.p (i := 11) rfl (by kernel_rfl) (pickT rfl rfl) rfl ?_
  refine Dx.p (i := 12) rfl (by kernel_rfl) (asg rfl) rfl ?_
  refine Dx.done (by kernel_rfl) ?_
  refine Xx.tn (k25 _ _ _ _ ?_)
  refine Cx.ret ?_
  repeat refine Xx.drop ?_
  exact Xx.rB1 rfl rfl rfl (Fz hB9 hBu) rfl
end ViO
end Go.Proofs.YthlfffbcligocaaGreat
namespace Go.SL
open Go.RowKit Go.ChangeShapes Go.WideShapes Go.ChangeAt
theorem flatG_len {α : Type} {enc : α → List Value} {size : Nat} (he : ∀ x, (enc x).length = size) (l : List α) : (l.flatMap enc).length = l.length * size := by
  induction l with
  | nil => simp
  | cons x l ih => rw [List.flatMap_cons, List.length_append, ih, he, List.length_cons, Nat.succ_mul]; omega
theorem flatG_at {α : Type} {enc : α → List Value} {size : Nat} (he : ∀ x, (enc x).length = size) : ∀ (k : Nat) (l : List α) (h : k < l.length), ((l.flatMap enc).drop (k * size)).take size = enc l[k] := by
  intro k
  induction k with
  | zero =>
    intro l h
    cases l with
    | nil => simp at h
    | cons x l =>
      rw [Nat.zero_mul, List.drop_zero, List.flatMap_cons, List.take_append_of_le_length (by rw [he]; exact Nat.le_refl _), List.take_of_length_le (by rw [he]; exact Nat.le_refl _)]; rfl
  | succ k ih =>
    intro l h
    cases l with
    | nil => simp at h
    | cons x l =>
      have h' : k < l.length := by simpa using h
      rw [List.flatMap_cons, List.drop_append, he, List.drop_of_length_le (by rw [he, Nat.succ_mul]; omega), List.nil_append, show (k + 1) * size - size = k * size by rw [Nat.succ_mul]; omega]
      exact ih l h'
theorem flat_at {α : Type} {enc : α → List Value} {size : Nat} {B : Frag} {A : Option Addr} {l : List α} {k : Nat} (he : ∀ x, (enc x).length = size) (h : RoS B size A l.length (l.flatMap enc)) (hk : k < l.length) :
    ∃ b o cs et fz, A = some ⟨b, o, none⟩ ∧ B b = some (.cells (List.toArray cs) et fz) ∧ (cs.drop (o + k * size)).take size = enc l[k] := by
  obtain ⟨b, o, cs, et, fz, h1, h2, h3⟩ := h.at (k := k) hk
  exact ⟨b, o, cs, et, fz, h1, h2, by rw [h3, flatG_at he]⟩
def ixF {α : Type} (p : α → Bool) (l : List α) : Int := if l.any p = true then ((l.findIdx p : Nat) : Int) else -1
section
variable {H : Type} {enc : TypeId × Value → H}
theorem weightsAll_mem {P : Program} {e : TypeId} : ∀ {l : List (DataW H)} {d : DataW H} {n : Nat}, d ∈ l → n ∈ d.weights P e → n ∈ DataW.weightsAll P e l := by
  intro l
  induction l with
  | nil => intro d n h; cases h
  | cons x l ih =>
    intro d n h hn
    simp only [DataW.weightsAll, List.mem_append]
    rcases List.mem_cons.1 h with rfl | h
    · exact .inl hn
    · exact .inr (ih h hn)
theorem add_block (a : Addr) (k : Nat) : (a.add k).block = a.block := by unfold Addr.add; split <;> rfl
theorem add_off (a : Addr) (k : Nat) : (a.add k).off = a.off + k := by unfold Addr.add; split <;> simp_all
theorem cells_row {W : World} {b0 : Nat} {a : Addr} {n : Nat} {cs : List Value} (h : W.cells? b0 a n = some cs) (hn : 0 < n) : a.spot = none ∧ ∃ l et fz, W.heap[a.block]? = some (.cells (List.toArray l) et fz) ∧ (l.drop a.off).take n = cs := by
  obtain ⟨_, hl, hc⟩ := World.cells?_some h
  have hb : ∀ k, (a.add k).block = a.block := fun k => by unfold Addr.add; split <;> rfl
  have h0 := cell_obj ((hc 0 hn).trans (List.getElem?_eq_getElem (by omega)))
  have hs : a.spot = none := by have := h0.1; simpa [Addr.add] using this
  obtain ⟨l, et, fz, hh, _⟩ := h0.2
  rw [hb] at hh
  have ho : ∀ k, (a.add k).off = a.off + k := fun k => by unfold Addr.add; split <;> simp_all
  refine ⟨hs, l, et, fz, hh, ?_⟩
  apply List.ext_getElem?
  intro k
  by_cases hk : k < n
  · rw [List.getElem?_take, if_pos hk, List.getElem?_drop]
    obtain ⟨l2, et2, fz2, hh2, hv2⟩ := (cell_obj ((hc k hk).trans (List.getElem?_eq_getElem (by omega)))).2
    rw [hb, hh] at hh2
    rw [ho] at hv2
    injection hh2 with hh2
    injection hh2 with e1
    have e2 : l = l2 := by simpa using congrArg Array.toList e1
    subst e2
    rw [hv2, List.getElem?_eq_getElem]
  · rw [List.getElem?_take, if_neg hk, List.getElem?_eq_none (by omega)]
theorem flat_of {α : Type} {en : α → List Value} {size : Nat} : ∀ (l : List α) (o : Nat) (cs : List Value), (∀ i (h : i < l.length), (cs.drop (o + i * size)).take size = en l[i]) → (cs.drop o).take (l.length * size) = l.flatMap en := by
  intro l
  induction l with
  | nil => intro o cs _; simp
  | cons x l ih =>
    intro o cs h
    have h0 := h 0 (by simp)
    rw [Nat.zero_mul, Nat.add_zero] at h0
    have h1 := ih (o + size) cs (fun i hi => by
      have := h (i + 1) (by simpa using hi)
      rw [Nat.succ_mul, Nat.add_comm (i * size), ← Nat.add_assoc] at this
      exact this)
    rw [List.length_cons, Nat.succ_mul, Nat.add_comm, List.take_add, h0, List.drop_drop, h1, List.flatMap_cons]; rfl
theorem choose_any {α : Type} {n : Nat} {Q : Nat → α → Prop} (h : ∀ i, i < n → ∃ x, Q i x) : ∃ l : List α, l.length = n ∧ ∀ i (hi : i < l.length), Q i l[i] := by
  induction n with
  | zero => exact ⟨[], rfl, fun i hi => by simp at hi⟩
  | succ n ih =>
    obtain ⟨l, hl, hall⟩ := ih (fun i hi => h i (by omega))
    obtain ⟨x, hx⟩ := h n (by omega)
    refine ⟨l ++ [x], by simp [hl], fun i hi => ?_⟩
    by_cases e : i < l.length
    · rw [List.getElem_append_left e]; exact hall i e
    · have hin : i = l.length := by simp at hi; omega
      subst hin
      rw [List.getElem_append_right (Nat.le_refl _)]
      simp only [Nat.sub_self, List.getElem_cons_zero]
      rw [hl]; exact hx
theorem open_list {α : Type} {P : Program} {r : Reach} {b0 base' : Nat} {sp : Nat → Bool} {hd : Bool} {W : World} {t e : TypeId} {v : Value} {d : DataW H} {ps : List MemPlace} {size : Nat} (en : α → List Value) (Q : α → Prop) (he : ∀ x, (en x).length = size) (hz : 0 < size) (ht : P.underlying t = some (.slice e)) (hc : P.cellsOf e = size)
    (hval : Value.okWide P W r b0 t v) (h : DataW.Trod enc P W base' sp hd t v d ps)
    (hel : ∀ n cs y, DataW.trod enc P W base' sp hd n e cs = some y → (∀ k ∈ y.1.weights P e, k ∈ d.weights P t) → ∃ x, cs = en x ∧ Q x) :
    ∃ (A : Option Addr) (c : Nat) (l : List α), v = .slice A l.length c ∧ l.length ≤ 9223372036854775807 ∧ (0 < l.length → RoS (base W) size A l.length (l.flatMap en)) ∧ ∀ x ∈ l, Q x := by
  obtain ⟨a0, len0, cap0, rfl⟩ := okWide_slice ht hval
  obtain ⟨fuel, hf⟩ := h
  rcases DataW.trod_slice ht hf with ⟨hcs, _⟩ | ⟨a, len, cap, elems, rest, n, rfl, hcs, hx4, _, hl4, hm4, hlen4, hev, _, _⟩
  · simp [Value.cells] at hcs
    obtain ⟨rfl, rfl, rfl⟩ := hcs
    exact ⟨none, 0, [], rfl, by simp, fun h => by simp at h, fun x hx => by cases hx⟩
  · simp [Value.cells] at hcs
    obtain ⟨rfl, rfl, rfl⟩ := hcs
    have hdx : d = .slice (elems.map (·.1)) (rest.map (·.1)) := congrArg Prod.fst hx4
    have hex : ∀ i, i < len0 → ∃ x, W.cells? base' (a.add (i * size)) size = some (en x) ∧ Q x := by
      intro i hi
      have h1 := hev i hi
      rw [hc, List.getElem?_eq_getElem (by omega), Option.bind_eq_some_iff] at h1
      obtain ⟨cs', h2, h3⟩ := h1
      obtain ⟨x, rfl, hq⟩ := hel n cs' _ h3 (fun m hm => by
        rw [hdx]
        simp only [DataW.weights, ht, List.mem_cons, List.mem_append]
        exact .inr (.inl (weightsAll_mem (List.mem_map.2 ⟨_, List.getElem_mem (by omega), rfl⟩) hm)))
      exact ⟨x, h2, hq⟩
    obtain ⟨l, hl, hall⟩ := choose_any hex
    subst hl
    have hml : maxLen ≤ 9223372036854775807 := by decide
    refine ⟨some a, cap0, l, rfl, by omega, fun h0 => ?_, fun x hx => ?_⟩
    · obtain ⟨hs, cs, et, fz, hh, hd0⟩ := cells_row (hall 0 h0).1 hz
      rw [add_block] at hh
      have hsa : a.spot = none := by simpa [Addr.add] using hs
      refine ⟨flatG_len he l, .inr ⟨a.block, a.off, cs, et, fz, by rw [← hsa], hh, flat_of l a.off cs fun i hi => ?_⟩⟩
      obtain ⟨_, cs', et', fz', hh', hd'⟩ := cells_row (hall i hi).1 hz
      rw [add_block] at hh'
      rw [add_off] at hd'
      have e1 := hh.symm.trans hh'
      injection e1 with e1
      injection e1 with e1 e2 e3
      have e4 : cs = cs' := by simpa using congrArg Array.toList e1
      rw [e4]; exact hd'
    · obtain ⟨i, hi, rfl⟩ := List.getElem_of_mem hx
      exact (hall i hi).2
theorem open_list0 {α : Type} {P : Program} {base' : Nat} {sp : Nat → Bool} {hd : Bool} {W : World} {t e : TypeId} {cs0 : List Value} {y0 : DataW H × List MemPlace} {fuel : Nat} {size : Nat} (en : α → List Value) (Q : α → Prop) (he : ∀ x, (en x).length = size) (hz : 0 < size) (ht : P.underlying t = some (.slice e)) (hc : P.cellsOf e = size)
    (h : DataW.trod enc P W base' sp hd fuel t cs0 = some y0)
    (hel : ∀ n cs y, DataW.trod enc P W base' sp hd n e cs = some y → ∃ x, cs = en x ∧ Q x) :
    ∃ (A : Option Addr) (c : Nat) (l : List α), cs0 = [.slice A l.length c] ∧ l.length ≤ 9223372036854775807 ∧ (0 < l.length → RoS (base W) size A l.length (l.flatMap en)) ∧ ∀ x ∈ l, Q x := by
  rcases DataW.trod_slice ht h with ⟨hcs, _⟩ | ⟨a, len, cap, elems, rest, n, rfl, hcs, hx4, _, hl4, hm4, hlen4, hev, _, _⟩
  · exact ⟨none, 0, [], hcs, by simp, fun h => by simp at h, fun x hx => by cases hx⟩
  · have hex : ∀ i, i < len → ∃ x, W.cells? base' (a.add (i * size)) size = some (en x) ∧ Q x := by
      intro i hi
      have h1 := hev i hi
      rw [hc, List.getElem?_eq_getElem (by omega), Option.bind_eq_some_iff] at h1
      obtain ⟨cs', h2, h3⟩ := h1
      obtain ⟨x, rfl, hq⟩ := hel n cs' _ h3
      exact ⟨x, h2, hq⟩
    obtain ⟨l, hl, hall⟩ := choose_any hex
    subst hl
    have hml : maxLen ≤ 9223372036854775807 := by decide
    refine ⟨some a, cap, l, hcs, by omega, fun h0 => ?_, fun x hx => ?_⟩
    · obtain ⟨hs, cs, et, fz, hh, hd0⟩ := cells_row (hall 0 h0).1 hz
      rw [add_block] at hh
      have hsa : a.spot = none := by simpa [Addr.add] using hs
      refine ⟨flatG_len he l, .inr ⟨a.block, a.off, cs, et, fz, by rw [← hsa], hh, flat_of l a.off cs fun i hi => ?_⟩⟩
      obtain ⟨_, cs', et', fz', hh', hd'⟩ := cells_row (hall i hi).1 hz
      rw [add_block] at hh'
      rw [add_off] at hd'
      have e1 := hh.symm.trans hh'
      injection e1 with e1
      injection e1 with e1 e2 e3
      have e4 : cs = cs' := by simpa using congrArg Array.toList e1
      rw [e4]; exact hd'
    · obtain ⟨i, hi, rfl⟩ := List.getElem_of_mem hx
      exact (hall i hi).2
def s1 (s : List UInt8) : List Value := [str s]
end
end Go.SL
namespace Go.Proofs.YthlfffbcligocaaGreat
open Go.SL Go.RowKit
set_option maxRecDepth 100000
open VhA VhB VhC VhD VhE VhF VhG VhH VhI VhJ VhK VhL VhM VhN VhO VhP VhQ VhR VhS VhT VhU VhV VhW VhX VhY VhZ ViA ViB ViC ViE ViF ViG ViH ViI
open Go.ChangeShapes Go.WideShapes Go.ChangeAt
namespace ViX
section
variable {H : Type} {enc : TypeId × Value → H}
def i1 (n : Int) : List Value := [i64 n]
theorem i1_flat (l : List Int) : l.flatMap i1 = ints l := by
  induction l with
  | nil => rfl
  | cons x l ih => rw [List.flatMap_cons, ih]; rfl
end
end ViX
end Go.Proofs.YthlfffbcligocaaGreat
namespace Go.Proofs.YthlfffbcligocaaGreat
open Go.SL Go.RowKit
set_option maxRecDepth 100000
open VhA VhB VhC VhD VhE VhF VhG VhH VhI VhJ VhK VhL VhM VhN VhO VhP VhQ VhR VhS VhT VhU VhV ViO ViX
open Go.ChangeShapes Go.WideShapes Go.ChangeAt
namespace ViY
section
variable {H : Type} {enc : TypeId × Value → H}
theorem open_sizes {r : Reach} {b0 base' : Nat} {sp : Nat → Bool} {hd : Bool} {W : World} {v : Value} {d : DataW H} {ps : List MemPlace} (hval : Value.okWide Tryz.prog W r b0 54 v) (h : DataW.Trod enc Tryz.prog W base' sp hd 54 v d ps) :
    ∃ (A : Option Addr) (c : Nat) (l : List Sz), v = .slice A l.length c ∧ l.length ≤ 9223372036854775807 ∧ (0 < l.length → RoS (base W) 1 A l.length (l.flatMap szc)) ∧ ∀ x ∈ l, SzOk (base W) x :=
  open_list (size := 1) szc (SzOk (base W)) szc_len (by decide) U54 (by kernel_rfl) hval h fun n cs y hy _ => by
    obtain ⟨A, c, l, h1, h2, h3, _⟩ := open_list0 i1 (fun _ => True) (fun _ => rfl) (by decide) U26 (by kernel_rfl) hy (fun n cs y hy => by
      obtain ⟨m, q, _, _⟩ := DataW.trod_int U3 hy
      exact ⟨m, q, trivial⟩)
    exact ⟨⟨l, A, c⟩, h1, fun h0 => by rw [← i1_flat]; exact h3 h0, h2⟩
end
end ViY
end Go.Proofs.YthlfffbcligocaaGreat
