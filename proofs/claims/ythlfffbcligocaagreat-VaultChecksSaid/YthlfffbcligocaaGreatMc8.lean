/-
  Texts of this seat, one behind the other: ViJ, ViL, Sly, ViX.
-/
import Derived.Test.YthlfffbcligocaaGreatProg
import Derived.SizedLaws
import Derived.Deep.Strs
import Derived.Test.YthlfffbcligocaaGreatMc7
set_option linter.unusedSimpArgs false
set_option linter.unusedVariables false
namespace Go.Proofs.YthlfffbcligocaaGreat
open Go.SL Go.RowKit
set_option maxRecDepth 100000
open VhA VhB VhC VhD VhE VhF VhG VhH VhI VhJ VhK VhL VhM VhN VhO VhP VhQ VhR VhS VhT VhU VhV VhW VhX VhY VhZ ViA ViB ViC ViE ViF ViG ViH ViI
open Jn1 (Rc rcc Jn jnH atV)
open DkB (Dm Dk dkH findM)
open Jn4 (Ck Holds Fits recsOf lastLen Still)
open Jn3 (addD allF recsAt fileOf)
open ViD (Put_ct)
open DkA (sec)
namespace ViJ
theorem sz3 : (Tryz.prog.info? 3).map (·.size) = some 1 := by kernel_rfl
theorem sz4 : (Tryz.prog.info? 4).map (·.size) = some 1 := by kernel_rfl
theorem sz5 : (Tryz.prog.info? 5).map (·.size) = some 1 := by kernel_rfl
theorem sz9 : (Tryz.prog.info? 9).map (·.size) = some 1 := by kernel_rfl
theorem sz22 : (Tryz.prog.info? 22).map (·.size) = some 1 := by kernel_rfl
theorem sz23 : (Tryz.prog.info? 23).map (·.size) = some 1 := by kernel_rfl
theorem sz25 : (Tryz.prog.info? 25).map (·.size) = some 4 := by kernel_rfl
theorem sz40 : (Tryz.prog.info? 40).map (·.size) = some 8 := by kernel_rfl
theorem sz51 : (Tryz.prog.info? 51).map (·.size) = some 1 := by kernel_rfl
theorem ti3 : TI Tryz.prog 3 [.int .i64 0] 1 8 := TI.of (by kernel_rfl) rfl rfl
theorem ti5 : TI Tryz.prog 5 [.int .u8 0] 1 1 := TI.of (by kernel_rfl) rfl rfl
theorem ti25 : TI Tryz.prog 25 [.int .u64 0, str [], .int .u64 0, .slice none 0 0] 4 56 := TI.of (by kernel_rfl) rfl rfl
theorem ti40 : TI Tryz.prog 40 [.int .i64 0, str [], str [], .int .u64 0, .int .u64 0, str [], str [], .bool false] 8 96 := TI.of (by kernel_rfl) rfl rfl
theorem PutS_ct (vb : Nat) (x : Vm) (j : Jn) (d : Dk) (bm : Bm) (fb : List (List Ck)) (l : List Bk) (K L C : Nat) (B : Frag) (hk : VmOk B x) (hR : bm.ro B) (hl : x.vs.l = l) (hfo : followsF bm.b (BitVec.ofInt 64 (l.length : Nat)) (prevF l) = 0) (hfr : Fresh bm.b)
    (hs : Sd K L C d.abs fb l) (hf : Fits d.abs j fb) (hdb : j.db = x.db) (hK : K ≤ 900000) (hL : L ≤ 1000000) (hC : C ≤ 1000000000) (hll : l.length ≤ 10000) (hroom : ((sec (L + (allF (blkR bm.b)).length) + K * sec L : Nat) : Int) ≤ d.abs.room) :
    Ct Tryz.prog 13 [.pointer (some ⟨vb, 0, none⟩), .agg (bmc bm).toArray] B (vH vb x * (jnH x.jb j * dkH x.db d)) (fun v B' H' => ∃ x' j' d' fb', v = i64 0 ∧ H' = vH vb x' * (jnH x'.jb j' * dkH x'.db d') ∧ VmOk B' x' ∧ x'.db = x.db ∧ x'.jb = x.jb ∧ x'.vs.l = l ++ [bm.b] ∧ j'.db = x'.db ∧ j'.most = j.most ∧
      Sd (K + 2) (L + (allF (blkR bm.b)).length) (C + 2) d'.abs fb' (l ++ [bm.b]) ∧ Fits d'.abs j' fb' ∧ d'.abs.room = d.abs.room) := by
  have ho := (follows_ok hfo (prevF_len _)).1
  have hml : x.ms.length = l.length := by rw [← hl]; exact (List.length_map ..).symm
  have hjl : j.l.length ≤ 650000 := by rw [hf.l]; have := sd_count hs; omega
  have hjla : j.last ≤ 1000000 := by rw [hf.last]; have := sd_len hs; omega
  have ha := Jn12.add_room hs.calm (file := fileOf j) hroom
  refine Ct.mono (Put_ct vb x j d bm K L C B hk hR (ok_in ho) (by omega) hdb hs.calm hK (by omega) hC (by omega) (by omega)) ?_
  rintro v B' H' ⟨x', j', d', rfl, hk', hxd, hxj, h⟩
  rw [hml, hl] at h
  rcases h with ⟨h1, _⟩ | ⟨_, ⟨i, hi, h2⟩, _⟩ | ⟨_, _, ⟨h3, _⟩ | ⟨h3, rfl, hv, hd, Al, cl, hj⟩⟩
  · exact absurd hfo h1
  · obtain ⟨r, hr, _⟩ := mem_bodd.1 hi
    have e : bm.b.revs.getD i zRv = r := by rw [List.getD_eq_getElem?_getD, hr]; rfl
    rw [e, hfr r (List.mem_of_getElem? hr)] at h2
    cases h2
  · exact absurd ha h3
  · obtain ⟨fb', hs', hf'⟩ := sd_put hs hf hfo hfr ha Al cl
    refine ⟨x', j', d', fb', rfl, by rw [hxj, hxd], hk', hxd, hxj, ?_, by rw [hj]; exact hdb.trans hxd.symm, by rw [hj], by rw [hd]; exact hs', by rw [hd, hj]; exact hf', by rw [hd]; exact Jn12.addD_roomy hs.calm _ _⟩
    rw [hv]
    show x.vs.l ++ [bm.b] = _
    rw [hl]
theorem made_all (l : List Bk) (n : Nat) (sizes : List Int) (hn : n < 1000000) : (allF (blkR (madeF l n sizes))).length ≤ 2500 := by
  have ho := (follows_ok (made_ok l n sizes hn).1 (prevF_len _)).1
  have hlen : (madeF l n sizes).revs.length ≤ 5 ∧ ∀ r ∈ (madeF l n sizes).revs, r.body.length ≤ 331 := by
    unfold madeF
    simp only
    split
    · exact ⟨by decide, fun r hr => by rw [List.mem_singleton.1 hr]; decide⟩
    · refine ⟨by rw [mRvs_len]; omega, fun r hr => ?_⟩
      unfold mRvs at hr
      obtain ⟨i, hi, rfl⟩ := List.getElem_of_mem hr
      rw [List.getElem_mapIdx, ← rRv_seal]
      have := rRv_le n i ((List.take 5 sizes)[i]'(by simpa using hi))
      have h2 : ∀ r : Rv, (sealF r).body = r.body := fun r => by unfold sealF; split <;> rfl
      rw [h2]; exact this
  have h := blkR_all3 ho 331 hlen.2
  have : (madeF l n sizes).revs.length * (140 + 331) ≤ 5 * (140 + 331) := Nat.mul_le_mul_right _ hlen.1
  omega
set_option maxHeartbeats 2000000 in
theorem open_ct (db : Nat) (d : Dk) (fb : List (List Ck)) (l : List Bk) (K L C : Nat) (B : Frag) (hs : Sd K L C d.abs fb l) (hK : K ≤ 1000000) (hL : L ≤ 1048576) (hC : C ≤ 1000000000) (hl : l.length ≤ 10000) : Ct Tryz.prog 11 [.pointer (some ⟨db, 0, none⟩)] B (dkH db d) (fun v B' H' => ∃ vb x j, v = .tuple #[.pointer (some ⟨vb, 0, none⟩), .bool true] ∧ x.vs.l = l ∧ x.db = db ∧ VmOk B' x ∧ j.db = x.db ∧ j.most = 2048 ∧ Fits d.abs j fb ∧ H' = vH vb x * (jnH x.jb j * dkH x.db d)) := by
 refine Ct.of_body Tryz.func11 rfl (nt := 18) rfl (by kernel_rfl) rfl ?_
 intro N0 w0 R
 refine Cx.seq (fun K1 k1 => ?_)
 refine Cx.region <| Lx.y (asg rfl) rfl <| Lx.y (asg rfl) rfl <| Lx.nil <| ?_
 refine Xx.tn (k1 _ _ _ _ ?_)
 refine Cx.seq (fun K2 k2 => ?_)
 refine Cx.region <| Lx.y (mv rfl) rfl <| ?_
 refine Lx.c rfl rfl rfl (Open0_ct db d fb l K L C _ hs hK hL hC hl) (rfl) rfl ?_
 rintro v1 B1 H1 ⟨vb, x, j, rfl, hxl, hxd, hk, hjd, hjm, hfit, rfl⟩ hB1
 refine Lx.y (mv rfl) rfl <| Lx.y (ext rfl rfl) rfl <| Lx.y (ext rfl rfl) rfl <| Lx.y (asg rfl) rfl <| Lx.y (asg rfl) rfl <| Lx.nil <| ?_
 refine Xx.tn (k2 _ _ _ _ ?_)
 refine Cx.seq (fun K3 k3 => ?_)
 refine Cx.region <| Lx.y (mv rfl) rfl <| Lx.y (mv rfl) rfl <| Lx.y (Yx.tt (eqI rfl rfl) rfl) rfl <| Lx.y (mv rfl) rfl <| Lx.gT rfl rfl rfl <| Lx.y (mv rfl) rfl <| Lx.gT rfl rfl rfl <| Lx.y (Yx.tt (neNilP U31 rfl rfl) rfl) rfl <| Lx.y (pickT rfl rfl) rfl <| Lx.y (asg rfl) rfl <| Lx.y (asg rfl) rfl <| ?_
 refine Lx.nil ?_
 refine Xx.tn (k3 _ _ _ _ ?_)
 refine Cx.ret ?_
 exact Xx.ret2 rfl rfl rfl ⟨vb, x, j, rfl, hxl, hxd, hk, hjd.trans hxd.symm, hjm, hfit, rfl⟩ hB1 (by rw [hxd])
set_option maxHeartbeats 2000000 in
theorem awake_ct (B : Frag) : CtB Tryz.prog 12 [] B (fun v B' => v = .bool true) := by
 have hmo := made_ok [] 0 [4] (by decide)
 have hma := made_all [] 0 [4] (by decide)
 refine CtB.of_body Tryz.func12 rfl (nt := 54) rfl (by kernel_rfl) rfl ?_
 intro N0 w0 R
 refine Cx.seq (fun K1 k1 => ?_)
 refine Cx.region <| Lx.y (asg rfl) rfl <| Lx.nil <| ?_
 refine Xx.tn (k1 _ _ _ _ ?_)
 refine Cx.seq (fun K2 k2 => ?_)
 refine Cx.region ?_
 refine Lx.c rfl rfl rfl (Jn5.New2_ct 100 _ (by decide)) ((one_star _).symm) rfl ?_
 rintro v1 B1 H1 ⟨hBB, db, d, rfl, hd, rfl⟩ hB1
 have hBB2 := hBB.symm
 subst hBB2
 clear hB1
 have hs0 : Sd 0 0 0 d.abs [] [] := by rw [hd]; exact sd_new 100 (by decide)
 refine Lx.y (mv rfl) rfl <| Lx.y (ext rfl rfl) rfl <| Lx.y (ext rfl rfl) rfl <| Lx.y (asg rfl) rfl <| Lx.y (asg rfl) rfl <| Lx.nil <| ?_
 refine Xx.tn (k2 _ _ _ _ ?_)
 refine Cx.seq (fun K3 k3 => ?_)
 refine Cx.region <| Lx.y (mv rfl) rfl <| ?_
 refine Lx.c rfl rfl rfl (open_ct db d [] [] 0 0 0 _ hs0 (by decide) (by decide) (by decide) (by decide)) (rfl) rfl ?_
 rintro v2 B2 H2 ⟨vb, x, j, rfl, hxl, hxd, hk, hjd, hjm, hfit, rfl⟩ hB2
 simp only [star_assoc]
 refine Lx.y (mv rfl) rfl <| Lx.y (ext rfl rfl) rfl <| Lx.y (ext rfl rfl) rfl <| Lx.y (asg rfl) rfl <| Lx.y (asg rfl) rfl <| Lx.nil <| ?_
 refine Xx.tn (k3 _ _ _ _ ?_)
 refine Cx.seq (fun K4 k4 => ?_)
 refine Cx.seq (fun K5 k5 => ?_)
 refine Cx.region <| Lx.y (mv rfl) rfl <| Lx.y (not' rfl) rfl <| Lx.y (mv rfl) rfl <| Lx.gT rfl rfl rfl <| Lx.y (mv rfl) rfl <| Lx.gT rfl rfl rfl <| Lx.y (mv rfl) rfl <| Lx.gT rfl rfl rfl <| ?_
 refine Lx.bsl (bsl1 U26 ti3 rfl rfl rfl (by decide)) rfl (fun bs => ?_)
 refine Xx.closeT bs [i64 4] [] 1 1 1 rfl rfl (Nat.le_refl _) rfl ?_
 refine Xx.freezeT (some ⟨bs, 0, none⟩) fun B3 hB3 hRs hnc _ => ?_
 refine Lx.gT rfl rfl rfl ?_
 refine Lx.c rfl rfl rfl (made_ct vb x 0 [4] (some ⟨bs, 0, none⟩) 1 _ (hk.mono hB3) (fun _ => hRs) (by decide) (by decide)) (Pick.eq) rfl ?_
 rintro v6 B6 H6 ⟨rfl, A6, c6, rfl, hR6⟩ hB6
 rw [hxl] at hR6 ⊢
 refine Lx.gT rfl rfl rfl ?_
 refine Lx.c rfl rfl rfl (PutS_ct vb x j d ⟨(madeF [] 0 [4]), A6, c6⟩ [] [] 0 0 0 _ (hk.mono (Frag.le_trans hB3 hB6)) hR6 hxl hmo.1 hmo.2 hs0 hfit hjd (by decide) (by decide) (by decide) (by decide) (by rw [hd]; show ((sec (0 + (allF (blkR (madeF [] 0 [4]))).length) + 0 * sec 0 : Nat) : Int) ≤ 100; unfold DkA.sec; omega)) (show _ = (vH vb x * (jnH x.jb j * dkH x.db d)) * R by ac_rfl) rfl ?_
 rintro v7 B7 H7 ⟨x', j', d', fb', rfl, rfl, hk', hxd', hxj', hxl', hjd', hjm', hs', hf', hrm⟩ hB7
 simp only [star_assoc]
 rw [← hxd, ← hxd']
 have hma2 : (allF (blkR (⟨(madeF [] 0 [4]), A6, c6⟩ : Bm).b)).length ≤ 2500 := hma
 refine Lx.gT rfl rfl rfl <| Lx.y (Yx.ff (neI rfl rfl) rfl) rfl <| Lx.y (pickF rfl rfl) rfl <| Lx.nil <| ?_
 refine Xx.tn (k5 _ _ _ _ ?_)
 refine Cx.condF rfl <| Cx.skip <| ?_
 refine Xx.tn (k4 _ _ _ _ ?_)
 refine Cx.seq (fun K6 k6 => ?_)
 refine Cx.region <| Lx.y (mv rfl) rfl <| ?_
 refine Lx.c rfl rfl rfl (DkE.Crash_ct d' x'.db 0#64 0 _ (hs'.calm.fit (by decide) (by omega) (by decide))) (Pick.eq) rfl ?_
 rintro v8 B8 H8 ⟨rfl, d5, hd5, rfl⟩ hB8
 rw [Jn4.crash_still hs'.still hs'.calm.dead] at hd5
 refine Lx.nil ?_
 refine Xx.tn (k6 _ _ _ _ ?_)
 refine Cx.seq (fun K7 k7 => ?_)
 refine Cx.region <| Lx.y (mv rfl) rfl <| ?_
 refine Lx.co rfl rfl rfl (DkB.Up_ct d5 x'.db _) (Pick.eq) rfl ?_
 obtain ⟨d6, hd6⟩ : ∃ d6 : Dk, d6 = { d5 with dead := false } := ⟨_, rfl⟩
 rw [← hd6]
 have hab : d6.abs = d'.abs := by
  rw [hd6]
  show ({ d5.abs with dead := false } : Dm) = d'.abs
  rw [hd5]
  have h9 := hs'.calm.dead
  cases hq : d'.abs with | mk a b c e f => rw [hq] at h9; simp only at h9; rw [h9]
 refine Lx.nil ?_
 refine Xx.tn (k7 _ _ _ _ ?_)
 refine Cx.seq (fun K8 k8 => ?_)
 refine Cx.region <| Lx.y (mv rfl) rfl <| ?_
 refine Lx.c rfl rfl rfl (open_ct x'.db d6 fb' ([] ++ [(madeF [] 0 [4])]) (0 + 2) _ (0 + 2) _ (by rw [hab]; exact hs') (by decide) (by omega) (by decide) (by decide)) (Pick.eq) rfl ?_
 rintro v9 B9 H9 ⟨wb, y, k, rfl, hyl, hyd, hky, hkd, hkm, hkf, rfl⟩ hB9
 simp only [star_assoc]
 have hyn : y.ms.length = 1 := by have h9 := congrArg List.length hyl; rw [show y.vs.l.length = y.ms.length from List.length_map ..] at h9; exact h9
 have hpy : prevF y.vs.l = hashB (madeF [] 0 [4]) := by rw [hyl]; exact prevF_snoc [] _
 have hpx : prevF x'.vs.l = hashB (madeF [] 0 [4]) := by rw [hxl']; exact prevF_snoc [] _
 refine Lx.y (mv rfl) rfl <| Lx.y (ext rfl rfl) rfl <| Lx.y (ext rfl rfl) rfl <| Lx.y (asg rfl) rfl <| Lx.y (asg rfl) rfl <| Lx.nil <| ?_
 refine Xx.tn (k8 _ _ _ _ ?_)
 refine Cx.seq (fun K9 k9 => ?_)
 refine Cx.region <| Lx.y (mv rfl) rfl <| Lx.y (mv rfl) rfl <| Lx.gT rfl rfl rfl <| Lx.y (mv rfl) rfl <| Lx.gT rfl rfl rfl <| ?_
 refine Lx.co rfl rfl rfl (CtC.of (VLen_ct wb y _) (show _ = u64 1#64 from by rw [hyn]; rfl) rfl) (Pick.eq) rfl ?_
 refine Lx.gT rfl rfl rfl <| Lx.y (Yx.tt (eqI rfl rfl) rfl) rfl <| Lx.y (pickT rfl rfl) rfl <| Lx.y (mv rfl) rfl <| Lx.gT rfl rfl rfl <| Lx.y (mv rfl) rfl <| Lx.gT rfl rfl rfl <| ?_
 refine Lx.co rfl rfl rfl (CtC.of (Prev_ct wb y _ hky) (show _ = str (hashB (madeF [] 0 [4])) from by rw [hpy]) rfl) (Pick.eq) rfl ?_
 refine Lx.gT rfl rfl rfl <| Lx.y (mv rfl) rfl <| Lx.gT rfl rfl rfl <| ?_
 refine Lx.co rfl rfl rfl (CtC.of (Prev_ct vb x' _ (hk'.mono (Frag.le_trans hB8 hB9))) (show _ = str (hashB (madeF [] 0 [4])) from by rw [hpx]) rfl) (Pick.eq) rfl ?_
 refine Lx.gT rfl rfl rfl <| Lx.y (Yx.tt (eqS rfl rfl) (by simp)) rfl <| Lx.y (pickT rfl rfl) rfl <| Lx.y (mv rfl) rfl <| Lx.gT rfl rfl rfl <| Lx.y (mv rfl) rfl <| Lx.gT rfl rfl rfl <| ?_
 refine Lx.co rfl rfl rfl (CtC.of (Prev_ct wb y _ hky) (show _ = str (hashB (madeF [] 0 [4])) from by rw [hpy]) rfl) (Pick.eq) rfl ?_
 refine Lx.gT rfl rfl rfl <| Lx.y (lenS U9 rfl) rfl <| Lx.gT rfl rfl rfl <| Lx.y (Yx.tt (eqI rfl rfl) (by rw [hashB_len]; rfl)) rfl <| Lx.y (pickT rfl rfl) rfl <| Lx.y (asg rfl) rfl <| Lx.nil <| ?_
 refine Xx.tn (k9 _ _ _ _ ?_)
 refine Cx.ret ?_
 repeat refine Xx.drop ?_
 exact Xx.rB1 rfl rfl rfl (Frag.le_trans hB2 (Frag.le_trans hB3 (Frag.le_trans hB6 (Frag.le_trans hB7 (Frag.le_trans hB8 hB9))))) rfl
end ViJ
end Go.Proofs.YthlfffbcligocaaGreat
namespace Go.Proofs.YthlfffbcligocaaGreat
open Go.SL Go.RowKit
set_option maxRecDepth 100000
open VhA VhB VhC VhD VhE VhF VhG VhH VhI VhJ VhK VhL VhM VhN VhO VhP VhQ VhR VhS VhT VhU VhV VhW VhX VhY VhZ ViA ViB ViC ViE ViF ViG ViH ViI ViJ
open Jn1 (Rc rcc Jn jnH atV)
open DkB (Dm Dk dkH findM)
open Jn4 (Ck Holds Fits recsOf lastLen Still)
open Jn3 (addD allF recsAt fileOf)
open ViD (Put_ct)
open DkA (sec)
namespace ViL
theorem sz3 : (Tryz.prog.info? 3).map (·.size) = some 1 := by kernel_rfl
theorem sz4 : (Tryz.prog.info? 4).map (·.size) = some 1 := by kernel_rfl
theorem sz5 : (Tryz.prog.info? 5).map (·.size) = some 1 := by kernel_rfl
theorem sz9 : (Tryz.prog.info? 9).map (·.size) = some 1 := by kernel_rfl
theorem sz22 : (Tryz.prog.info? 22).map (·.size) = some 1 := by kernel_rfl
theorem sz23 : (Tryz.prog.info? 23).map (·.size) = some 1 := by kernel_rfl
theorem sz25 : (Tryz.prog.info? 25).map (·.size) = some 4 := by kernel_rfl
theorem sz40 : (Tryz.prog.info? 40).map (·.size) = some 8 := by kernel_rfl
theorem sz51 : (Tryz.prog.info? 51).map (·.size) = some 1 := by kernel_rfl
theorem ti3 : TI Tryz.prog 3 [.int .i64 0] 1 8 := TI.of (by kernel_rfl) rfl rfl
theorem ti5 : TI Tryz.prog 5 [.int .u8 0] 1 1 := TI.of (by kernel_rfl) rfl rfl
theorem ti25 : TI Tryz.prog 25 [.int .u64 0, str [], .int .u64 0, .slice none 0 0] 4 56 := TI.of (by kernel_rfl) rfl rfl
theorem ti40 : TI Tryz.prog 40 [.int .i64 0, str [], str [], .int .u64 0, .int .u64 0, str [], str [], .bool false] 8 96 := TI.of (by kernel_rfl) rfl rfl
theorem fo25_3 : FO Tryz.prog 25 3 3 1 false := FO.of U25 rfl rfl (by kernel_rfl) U23 rfl rfl
theorem fo40_7 : FO Tryz.prog 40 7 7 1 false := FO.of U40 rfl rfl (by kernel_rfl) U4 rfl rfl
theorem flat_take {α : Type} {enc : α → List Value} {size : Nat} (he : ∀ x, (enc x).length = size) : ∀ (l : List α) (k : Nat), (l.take k).flatMap enc = (l.flatMap enc).take (k * size) := by
  intro l
  induction l with
  | nil => intro k; simp
  | cons x l ih =>
    intro k
    cases k with
    | zero => simp
    | succ k => rw [List.take_succ_cons, List.flatMap_cons, List.flatMap_cons, ih, List.take_append, he, List.take_of_length_le (l := enc x) (by rw [he, Nat.succ_mul]; omega), show (k + 1) * size - size = k * size by rw [Nat.succ_mul]; omega]
noncomputable def wantF (b : Bk) (l : List Bk) : Int := if followsF b (BitVec.ofInt 64 (l.length : Nat)) (prevF l) ≠ 0 then followsF b (BitVec.ofInt 64 (l.length : Nat)) (prevF l) else if b.revs.any (·.gone) = true then 230 else 0
theorem want_bad {b : Bk} {l : List Bk} (h : ¬ followsF b (BitVec.ofInt 64 (l.length : Nat)) (prevF l) = 0) : wantF b l = followsF b (BitVec.ofInt 64 (l.length : Nat)) (prevF l) := by unfold wantF; rw [if_pos h]
theorem want_bad2 {b : Bk} {l : List Bk} {n : BitVec 64} (hn : BitVec.ofInt 64 (l.length : Nat) = n) (h : ¬ followsF b n (prevF l) = 0) : wantF b l = followsF b n (prevF l) := by subst hn; exact want_bad h
theorem want_ok {b : Bk} {l : List Bk} {w : Int} (h : followsF b (BitVec.ofInt 64 (l.length : Nat)) (prevF l) = 0) (hw : (w = 230 ∧ b.revs.any (·.gone) = true) ∨ (w = 0 ∧ ∀ q (hq : q < b.revs.length), q < b.revs.length → b.revs[q].gone = false)) : w = wantF b l := by
  unfold wantF
  rw [if_neg (fun e => e h)]
  rcases hw with ⟨w1, w2⟩ | ⟨w1, w2⟩
  · rw [if_pos w2, w1]
  · rw [if_neg (fun e => by obtain ⟨r, hr, hg⟩ := List.any_eq_true.1 e; obtain ⟨q, hq, rfl⟩ := List.getElem_of_mem hr; rw [w2 q hq hq] at hg; cases hg), w1]
theorem sd_mono {K L C K' L' C' : Nat} {D : Dm} {fb : List (List Ck)} {l : List Bk} (h : Sd K L C D fb l) (hK : K ≤ K') (hL : L ≤ L') (hC : C ≤ C') : Sd K' L' C' D fb l :=
  ⟨h.calm.mono hK hL hC, h.still, h.holds, h.puts, h.chain, h.only, h.last⟩
theorem gone_bodd {b : Bk} (ho : b.Ok) : (∃ i ∈ bodd b.revs, (b.revs.getD i zRv).gone = true) ↔ b.revs.any (·.gone) = true := by
  constructor
  · rintro ⟨i, hi, h⟩
    obtain ⟨r, hr, _⟩ := mem_bodd.1 hi
    have e : b.revs.getD i zRv = r := by rw [List.getD_eq_getElem?_getD, hr]; rfl
    rw [e] at h
    exact List.any_eq_true.2 ⟨r, List.mem_of_getElem? hr, h⟩
  · intro h
    obtain ⟨r, hr, hg⟩ := List.any_eq_true.1 h
    obtain ⟨i, hi, rfl⟩ := List.getElem_of_mem hr
    have hok := List.all_eq_true.1 ho.2.2.2 _ hr
    refine ⟨i, mem_bodd.2 ⟨_, List.getElem?_eq_getElem hi, ?_⟩, ?_⟩
    · obtain ⟨_, _, _, _, _, h6⟩ := okR_and hok
      unfold bytR at h6
      by_cases hb : bodB b.revs[i].op = true
      · exact hb
      · rw [if_neg hb] at h6
        simp only [Bool.and_eq_true, Bool.not_eq_true'] at h6
        rw [h6.2] at hg; cases hg
    · rw [List.getD_eq_getElem?_getD, List.getElem?_eq_getElem hi]; exact hg
theorem PutW_ct (vb : Nat) (x : Vm) (j : Jn) (d : Dk) (bm : Bm) (fb : List (List Ck)) (l : List Bk) (K L C : Nat) (B : Frag) (hk : VmOk B x) (hR : bm.ro B) (hin : BkIn bm.b) (hl : x.vs.l = l)
    (hs : Sd K L C d.abs fb l) (hf : Fits d.abs j fb) (hdb : j.db = x.db) (hK : K ≤ 900000) (hL : L ≤ 900000) (hC : C ≤ 1000000000) (hll : l.length ≤ 10000) (hroom : ((sec (L + 75000) + K * sec L : Nat) : Int) ≤ d.abs.room) :
    Ct Tryz.prog 13 [.pointer (some ⟨vb, 0, none⟩), .agg (bmc bm).toArray] B (vH vb x * (jnH x.jb j * dkH x.db d)) (fun v B' H' => ∃ x' j' d' fb' l', v = i64 (wantF bm.b l) ∧ H' = vH vb x' * (jnH x'.jb j' * dkH x'.db d') ∧ VmOk B' x' ∧ x'.db = x.db ∧ x'.jb = x.jb ∧ x'.vs.l = l' ∧ l' = (if wantF bm.b l = 0 then l ++ [bm.b] else l) ∧ j'.db = x'.db ∧ j'.most = j.most ∧
      Sd (K + 2) (L + 75000) (C + 2) d'.abs fb' l' ∧ Fits d'.abs j' fb' ∧ d'.abs.room = d.abs.room) := by
  have hml : x.ms.length = l.length := by rw [← hl]; exact (List.length_map ..).symm
  have hjl : j.l.length ≤ 650000 := by rw [hf.l]; have := sd_count hs; omega
  have hjla : j.last ≤ 1000000 := by rw [hf.last]; have := sd_len hs; omega
  have hs2 := sd_mono hs (show K ≤ K + 2 by omega) (show L ≤ L + 75000 by omega) (show C ≤ C + 2 by omega)
  refine Ct.mono (Put_ct vb x j d bm K L C B hk hR hin (by omega) hdb hs.calm hK (by omega) hC (by omega) (by omega)) ?_
  rintro v B' H' ⟨x', j', d', rfl, hk', hxd, hxj, h⟩
  rw [hml, hl] at h
  rcases h with ⟨h1, rfl, rfl, rfl, rfl⟩ | ⟨h1, h2, rfl, rfl, rfl, rfl⟩ | ⟨h1, h2, h3⟩
  · have hw : wantF bm.b l = followsF bm.b (BitVec.ofInt 64 (l.length : Nat)) (prevF l) := by unfold wantF; rw [if_pos h1]
    exact ⟨x', j', d', fb, l, by rw [hw], rfl, hk', rfl, rfl, hl, by rw [hw, if_neg h1], hdb, rfl, hs2, hf, rfl⟩
  · have ho := (follows_ok h1 (prevF_len _)).1
    have hw : wantF bm.b l = 230 := by unfold wantF; rw [if_neg (fun e => e h1), if_pos ((gone_bodd ho).1 h2)]
    exact ⟨x', j', d', fb, l, by rw [hw], rfl, hk', rfl, rfl, hl, by rw [hw, if_neg (by decide)], hdb, rfl, hs2, hf, rfl⟩
  · have ho := (follows_ok h1 (prevF_len _)).1
    have hng : ¬ bm.b.revs.any (·.gone) = true := fun e => by
      obtain ⟨i, hi, hg⟩ := (gone_bodd ho).2 e
      rw [h2 i hi] at hg; cases hg
    have hw : wantF bm.b l = 0 := by unfold wantF; rw [if_neg (fun e => e h1), if_neg hng]
    have hfr : Fresh bm.b := fun r hr => by
      cases hg : r.gone with
      | false => rfl
      | true => exact absurd (List.any_eq_true.2 ⟨r, hr, hg⟩) hng
    have hall : (allF (blkR bm.b)).length ≤ 75000 := by
      have h9 := blkR_all3 ho 1024 fun r hr => (okR_le (List.all_eq_true.1 ho.2.2.2 r hr)).1
      have : bm.b.revs.length * (140 + 1024) ≤ 64 * (140 + 1024) := Nat.mul_le_mul_right _ ho.2.2.1
      omega
    have hsec : sec (L + (allF (blkR bm.b)).length) ≤ sec (L + 75000) := DkN.sec_mono (by omega)
    have ha := Jn12.add_room hs.calm (file := fileOf j) (all := allF (blkR bm.b)) (by omega)
    rcases h3 with ⟨h3, _⟩ | ⟨_, rfl, hv, hd, Al, cl, hj⟩
    · exact absurd ha h3
    · obtain ⟨fb', hs', hf'⟩ := sd_put hs hf h1 hfr ha Al cl
      refine ⟨x', j', d', fb', l ++ [bm.b], by rw [hw], by rw [hxj, hxd], hk', hxd, hxj, ?_, by rw [hw, if_pos rfl], by rw [hj]; exact hdb.trans hxd.symm, by rw [hj], by rw [hd]; exact sd_mono hs' (Nat.le_refl _) (by omega) (Nat.le_refl _), by rw [hd, hj]; exact hf', by rw [hd]; exact Jn12.addD_roomy hs.calm _ _⟩
      rw [hv]
      show x.vs.l ++ [bm.b] = _
      rw [hl]
set_option maxHeartbeats 1500000 in
theorem VaultChecks_ct (bm : Bm) (sizes : List Int) (As : Option Addr) (cs : Nat) (B : Frag) (hRx : bm.ro B) (hin : BkIn bm.b) (hcap : bm.b.revs.length ≤ bm.c) (hRs : 0 < sizes.length → RoS B 1 As sizes.length (ints sizes)) (hsl : sizes.length ≤ 9223372036854775807) : CtB Tryz.prog 3 [.agg (bmc bm).toArray, .slice As sizes.length cs] B (fun v B' => v = .bool true) := by
 have hmo := made_ok [] 0 sizes (by decide)
 have hma := made_all [] 0 sizes (by decide)
 refine CtB.of_body Tryz.func3 rfl (nt := 93) rfl (by kernel_rfl) rfl ?_
 intro N0 w0 R
 refine Cx.seq (fun K1 k1 => ?_)
 refine Cx.region ?_
 refine Lx.new (boxA rfl) rfl (fun b2 => ?_)
 refine Lx.y (asg rfl) rfl <| Lx.nil <| ?_
 refine Xx.tn (k1 _ _ _ _ ?_)
 refine Cx.seq (fun K2 k2 => ?_)
 refine Cx.region ?_
 refine Lx.c rfl rfl rfl (Jn5.New2_ct 10000 _ (by decide)) ((one_star _).symm) rfl ?_
 rintro v1 B1 H1 ⟨hBB, db, d, rfl, hd, rfl⟩ hB1
 have hBB2 := hBB.symm
 subst hBB2
 clear hB1
 have hs0 : Sd 0 0 0 d.abs [] [] := by rw [hd]; exact sd_new 10000 (by decide)
 refine Lx.y (mv rfl) rfl <| Lx.y (ext rfl rfl) rfl <| Lx.y (ext rfl rfl) rfl <| Lx.y (asg rfl) rfl <| Lx.y (asg rfl) rfl <| Lx.nil <| ?_
 refine Xx.tn (k2 _ _ _ _ ?_)
 refine Cx.seq (fun K3 k3 => ?_)
 refine Cx.region <| Lx.y (mv rfl) rfl <| ?_
 refine Lx.c rfl rfl rfl (open_ct db d [] [] 0 0 0 _ hs0 (by decide) (by decide) (by decide) (by decide)) (Pick.eq) rfl ?_
 rintro v2 B2 H2 ⟨vb, x, j, rfl, hxl, hxd, hk, hjd, hjm, hfit, rfl⟩ hB2
 simp only [star_assoc]
 refine Lx.y (mv rfl) rfl <| Lx.y (ext rfl rfl) rfl <| Lx.y (ext rfl rfl) rfl <| Lx.y (asg rfl) rfl <| Lx.y (asg rfl) rfl <| Lx.nil <| ?_
 refine Xx.tn (k3 _ _ _ _ ?_)
 refine Cx.seq (fun K4 k4 => ?_)
 refine Cx.seq (fun K5 k5 => ?_)
 refine Cx.region ?_
 refine Lx.cb rfl rfl rfl (awake_ct _) rfl ?_
 rintro v3 B3 rfl hB3
 refine Lx.y (not' rfl) rfl <| Lx.y (mv rfl) rfl <| Lx.gT rfl rfl rfl <| Lx.y (mv rfl) rfl <| Lx.gT rfl rfl rfl <| Lx.y (not' rfl) rfl <| Lx.y (pickF rfl rfl) rfl <| Lx.y (mv rfl) rfl <| Lx.gT rfl rfl rfl <| Lx.y (mv rfl) rfl <| Lx.gT rfl rfl rfl <| Lx.y (mv rfl) rfl <| ?_
 refine Lx.gT rfl rfl rfl <| Lx.y (mv rfl) rfl <| Lx.gT rfl rfl rfl <| ?_
 refine Lx.c rfl rfl rfl (made_ct vb x 0 sizes As cs _ (hk.mono hB3) (fun h0 => (hRs h0).mono (Frag.le_trans hB2 hB3)) (by decide) hsl) (Pick.eq) rfl ?_
 rintro v6 B6 H6 ⟨rfl, A6, c6, rfl, hR6⟩ hB6
 rw [hxl] at hR6 ⊢
 refine Lx.gT rfl rfl rfl ?_
 refine Lx.c rfl rfl rfl (PutS_ct vb x j d ⟨(madeF [] 0 sizes), A6, c6⟩ [] [] 0 0 0 _ (hk.mono (Frag.le_trans hB3 hB6)) hR6 hxl hmo.1 hmo.2 hs0 hfit hjd (by decide) (by decide) (by decide) (by decide) (by rw [hd]; show ((sec (0 + (allF (blkR (madeF [] 0 sizes))).length) + 0 * sec 0 : Nat) : Int) ≤ 10000; unfold DkA.sec; omega)) (show _ = (vH vb x * (jnH x.jb j * dkH x.db d)) * (row b2 25 (bmc bm) * R) by ac_rfl) rfl ?_
 rintro v7 B7 H7 ⟨x', j', d', fb', rfl, rfl, hk', hxd', hxj', hxl', hjd', hjm', hs', hf', hrm⟩ hB7
 simp only [star_assoc]
 rw [← hxd, ← hxd']
 have hma2 : (allF (blkR (⟨(madeF [] 0 sizes), A6, c6⟩ : Bm).b)).length ≤ 2500 := hma
 have hs' : Sd 2 2500 2 d'.abs fb' ([] ++ [(madeF [] 0 sizes)]) := sd_mono hs' (by decide) (by omega) (by decide)
 have hB27 := Frag.le_trans hB2 (Frag.le_trans hB3 (Frag.le_trans hB6 hB7))
 have hRx7 := Bm.ro_mono hRx hB27
 refine Lx.gT rfl rfl rfl <| Lx.y (Yx.ff (neI rfl rfl) rfl) rfl <| Lx.y (pickF rfl rfl) rfl <| Lx.nil <| ?_
 refine Xx.tn (k5 _ _ _ _ ?_)
 refine Cx.condF rfl <| Cx.skip <| ?_
 refine Xx.tn (k4 _ _ _ _ ?_)
 refine Cx.cutK (ds' := []) (Sc 0 rfl (Sc 1 rfl (Sc 2 rfl (Sc 4 rfl (Sc 5 rfl (Sc 7 rfl (Sc 8 rfl (Sc 15 rfl (Sc 16 rfl (Sc 17 rfl (Sc 18 rfl (Sc 19 rfl (Sc 20 rfl (Sc 21 rfl (Sc 22 rfl (Sc 23 rfl (Sc 24 rfl (Sc 25 rfl (Sc 26 rfl (Sc 27 rfl (Sc 28 rfl (Sc 29 rfl (Sc 30 rfl (Sc 31 rfl (Sc 32 rfl (Sc 33 rfl (Sc 34 rfl (Sc 35 rfl (Sc 36 rfl (Sc 37 rfl (Sub.nil _))))))))))))))))))))))))))))))) (fun ρ' B' H' => ∃ z : Bm, ρ' = [] ∧ B7 = B' ∧ row b2 25 (bmc z) * (vH vb x' * (jnH x'.jb j' * (dkH x'.db d' * R))) = H' ∧ z.ro B' ∧ BkIn z.b) ?_ ?_
 ·
  refine Cx.seq (fun K7 k7 => ?_)
  refine Cx.region <| Lx.y (fa' fo25_3 rfl) rfl <| Lx.y (ld U23 rfl rfl rfl) rfl <| Lx.y (lenV (ty' := 0) U23 rfl) rfl <| Lx.y (gtr rfl rfl) rfl <| Lx.nil <| ?_
  refine Xx.tn (k7 _ _ _ _ ?_)
  refine Cx.condD rfl (fun h8 => ?_) (fun h8 => ?_)
  ·
   have g1 := h8
   refine Cx.region <| Lx.y (fa' fo25_3 rfl) rfl <| Lx.y (ld U23 rfl rfl rfl) rfl <| Lx.y (sl2V (j := 66) U23 sz40 rfl rfl rfl (by omega) (by omega)) rfl <| Lx.y (fa' fo25_3 rfl) rfl <| ?_
   refine Lx.st (stO U23 sz23 rfl rfl rfl (by show 3 < 4; omega) rfl) ?_
   refine Lx.nil ?_
   exact Xx.mkK (⟨⟨{ bm.b with revs := bm.b.revs.take 66 }, bm.A, bm.c⟩, rfl, rfl, by show row b2 _ [u64 bm.b.seq, str bm.b.prev, u64 bm.b.tx, .slice bm.A (bm.b.revs.take 66).length bm.c] * _ = _; rw [List.length_take, Nat.min_eq_left (by omega)], fun h0 => by show RoS B7 8 bm.A (bm.b.revs.take 66).length ((bm.b.revs.take 66).flatMap rvc); rw [flat_take rvc_len, List.length_take, Nat.min_eq_left (by omega)]; exact (hRx7 (by omega)).take (by omega), ⟨by show (bm.b.revs.take 66).length ≤ _; rw [List.length_take]; omega, fun r hr => hin.revs r (List.mem_of_mem_take hr)⟩⟩) (Sc 0 rfl (Sc 1 rfl (Sc 2 rfl (Sc 4 rfl (Sc 5 rfl (Sc 7 rfl (Sc 8 rfl (Sc 15 rfl (Sc 16 rfl (Sc 17 rfl (Sc 18 rfl (Sc 19 rfl (Sc 20 rfl (Sc 21 rfl (Sc 22 rfl (Sc 23 rfl (Sc 24 rfl (Sc 25 rfl (Sc 26 rfl (Sc 27 rfl (Sc 28 rfl (Sc 29 rfl (Sc 30 rfl (Sc 31 rfl (Sc 32 rfl (Sc 33 rfl (Sc 34 rfl (Sc 35 rfl (Sc 36 rfl (Sc 37 rfl (Sub.nil _)))))))))))))))))))))))))))))))
  ·
   have g1 := h8
   refine Cx.skip ?_
   exact Xx.mkK (⟨bm, rfl, rfl, by ac_rfl, hRx7, hin⟩) (Sc 0 rfl (Sc 1 rfl (Sc 2 rfl (Sc 4 rfl (Sc 5 rfl (Sc 7 rfl (Sc 8 rfl (Sc 15 rfl (Sc 16 rfl (Sc 17 rfl (Sc 18 rfl (Sc 19 rfl (Sc 20 rfl (Sc 21 rfl (Sc 22 rfl (Sc 23 rfl (Sc 24 rfl (Sc 25 rfl (Sc 26 rfl (Sc 27 rfl (Sc 28 rfl (Sc 29 rfl (Sc 30 rfl (Sc 31 rfl (Sc 32 rfl (Sc 33 rfl (Sc 34 rfl (Sc 35 rfl (Sc 36 rfl (Sc 37 rfl (Sub.nil _)))))))))))))))))))))))))))))))
 ·rintro ρ' B' H' ⟨z, rfl, hBB, rfl, hRz, hinz⟩
  subst hBB
  rename Frag => B5
  refine Cx.seq (fun K9 k9 => ?_)
  refine Cx.drawn (by kernel_rfl) ?_
  refine Dx.r (i := 0) rfl (by kernel_rfl) (ldA U25 rfl sz25 rfl (Cells.own (n := 4) PickB.eq (show ((bmc z).drop 0).take 4 = bmc z from rfl)) rfl) rfl ?_
  refine Dx.p (i := 1) rfl (by kernel_rfl) (mv rfl) rfl ?_
  refine Dx.one (i := 2) (by kernel_rfl) ?_
  refine Dstep.o (i := 2) rfl (Ox.co rfl rfl rfl (CtC.of (Prev_ct vb x' _ hk') (show _ = str (prevF ([] ++ [(madeF [] 0 sizes)])) from by rw [hxl']) rfl) (Pick.eq)) rfl (fun v B' H' hΦ hB => ?_)
  obtain ⟨rfl, hBB, rfl⟩ := hΦ; have hBB2 := hBB.symm; subst hBB2; clear hB
  refine ⟨JOk.yes (JOk.top) (ldA U25 rfl sz25 rfl (Cells.own (n := 4) PickB.eq (show ((bmc z).drop 0).take 4 = bmc z from rfl)) rfl), ?_⟩
  refine Dx.one (i := 3) (by kernel_rfl) ?_
  refine Dstep.o (i := 3) rfl (Ox.cb rfl rfl rfl (Follows_ct z 1#64 (prevF ([] ++ [(madeF [] 0 sizes)])) _ hRz hinz)) rfl (fun v B' H' hΦ hB => ?_)
  obtain ⟨rfl, rfl, hBB⟩ := hΦ; have hBB2 := hBB.symm; subst hBB2; clear hB
  refine ⟨JOk.edge (JOk.top) (by kernel_rfl), ?_⟩
  refine Dx.p (i := 4) rfl (by kernel_rfl) (asg rfl) rfl ?_
  refine Dx.done (by kernel_rfl) ?_
  refine Xx.tn (k9 _ _ _ _ ?_)
  refine Cx.cutK (ds' := []) (Sc 0 rfl (Sc 1 rfl (Sc 2 rfl (Sc 4 rfl (Sc 5 rfl (Sc 7 rfl (Sc 8 rfl (Sc 15 rfl (Sc 16 rfl (Sc 17 rfl (Sc 18 rfl (Sc 19 rfl (Sc 20 rfl (Sc 21 rfl (Sc 22 rfl (Sc 23 rfl (Sc 24 rfl (Sc 25 rfl (Sc 26 rfl (Sc 27 rfl (Sc 28 rfl (Sc 29 rfl (Sc 30 rfl (Sc 31 rfl (Sc 32 rfl (Sc 33 rfl (Sc 34 rfl (Sc 35 rfl (Sc 36 rfl (Sc 37 rfl (Sc 46 rfl (Sc 47 rfl (Sc 48 rfl (Sc 49 rfl (Sub.nil _))))))))))))))))))))))))))))))))))) (fun ρ' B' H' => ρ' = [(9, i64 (wantF z.b ([] ++ [(madeF [] 0 sizes)])))] ∧ B5 = B' ∧ row b2 25 (bmc z) * (vH vb x' * (jnH x'.jb j' * (dkH x'.db d' * R))) = H') ?_ ?_
  ·
   refine Cx.seq (fun K10 k10 => ?_)
   refine Cx.region <| Lx.y (mv rfl) rfl <| Lx.y (eqI rfl rfl) rfl <| Lx.nil <| ?_
   refine Xx.tn (k10 _ _ _ _ ?_)
   refine Cx.condD rfl (fun h11 => ?_) (fun h11 => ?_)
   ·
    have hfo0 : followsF z.b 1#64 (prevF ([] ++ [(madeF [] 0 sizes)])) = 0 := h11
    refine Cx.seq (fun K12 k12 => ?_)
    refine Cx.region <| Lx.y (asg rfl) rfl <| Lx.nil <| ?_
    refine Xx.tn (k12 _ _ _ _ ?_)
    refine Cx.block ?_
    refine Cx.loopK (Sc 0 rfl (Sc 1 rfl (Sc 2 rfl (Sc 4 rfl (Sc 5 rfl (Sc 7 rfl (Sc 8 rfl (Sc 15 rfl (Sc 16 rfl (Sc 17 rfl (Sc 18 rfl (Sc 19 rfl (Sc 20 rfl (Sc 21 rfl (Sc 22 rfl (Sc 23 rfl (Sc 24 rfl (Sc 25 rfl (Sc 26 rfl (Sc 27 rfl (Sc 28 rfl (Sc 29 rfl (Sc 30 rfl (Sc 31 rfl (Sc 32 rfl (Sc 33 rfl (Sc 34 rfl (Sc 35 rfl (Sc 36 rfl (Sc 37 rfl (Sc 46 rfl (Sc 47 rfl (Sc 48 rfl (Sc 49 rfl (Sc 50 rfl (Sc 51 rfl (Sub.nil _))))))))))))))))))))))))))))))))))))) (fun m ρ' B' H' => ∃ (i : Nat) (w : Int), (i ≤ z.b.revs.length ∧ ((w = 230 ∧ z.b.revs.any (·.gone) = true) ∨ (w = 0 ∧ ∀ q (hq : q < z.b.revs.length), q < i → z.b.revs[q].gone = false))) ∧ m = z.b.revs.length - i ∧ ρ' = [(9, i64 w), (10, i64 (i : Int))] ∧ B5 = B' ∧ row b2 25 (bmc z) * (vH vb x' * (jnH x'.jb j' * (dkH x'.db d' * R))) = H') ⟨0, 0, ⟨Nat.zero_le _, .inr ⟨rfl, fun q _ h => absurd h (Nat.not_lt_zero q)⟩⟩, rfl, rfl, rfl, by ac_rfl⟩ (Sub.consE (s := 9) rfl (by rw [hfo0]) (Sc 10 rfl (Sc 0 rfl (Sc 1 rfl (Sc 2 rfl (Sc 4 rfl (Sc 5 rfl (Sc 7 rfl (Sc 8 rfl (Sc 15 rfl (Sc 16 rfl (Sc 17 rfl (Sc 18 rfl (Sc 19 rfl (Sc 20 rfl (Sc 21 rfl (Sc 22 rfl (Sc 23 rfl (Sc 24 rfl (Sc 25 rfl (Sc 26 rfl (Sc 27 rfl (Sc 28 rfl (Sc 29 rfl (Sc 30 rfl (Sc 31 rfl (Sc 32 rfl (Sc 33 rfl (Sc 34 rfl (Sc 35 rfl (Sc 36 rfl (Sc 37 rfl (Sc 46 rfl (Sc 47 rfl (Sc 48 rfl (Sc 49 rfl (Sc 50 rfl (Sc 51 rfl (Sub.nil _))))))))))))))))))))))))))))))))))))))) ?_
    rintro m ρ' B' H' ⟨i, w, ⟨hi, hw⟩, rfl, rfl, rfl, rfl⟩
    refine Cx.seq (fun K13 k13 => ?_)
    refine Cx.seq (fun K14 k14 => ?_)
    refine Cx.region <| Lx.y (mv rfl) rfl <| Lx.y (fa' fo25_3 rfl) rfl <| Lx.y (ld U23 rfl rfl rfl) rfl <| Lx.y (lenV (ty' := 0) U23 rfl) rfl <| Lx.y (lss rfl rfl) rfl <| Lx.nil <| ?_
    refine Xx.tn (k14 _ _ _ _ ?_)
    refine Cx.condD rfl (fun h15 => ?_) (fun h15 => ?_)
    ·
     have hlt := h15
     have hlt : i < z.b.revs.length := by omega
     have hzn := hinz.n
     obtain ⟨b9, o9, cs9, et9, fz9, hA9, hB9, hc9⟩ := flat_at rvc_len (hRz (by omega)) hlt
     refine Cx.skip ?_
     refine Xx.tn (k13 _ _ _ _ ?_)
     refine Cx.seq (fun K16 k16 => ?_)
     refine Cx.block ?_
     refine Cx.seq (fun K17 k17 => ?_)
     refine Cx.region <| Lx.y (fa' fo25_3 rfl) rfl <| Lx.y (ld U23 rfl rfl rfl) rfl <| Lx.y (mv rfl) rfl <| Lx.y (Yx.val (ia (b := b9) (o := o9) U23 sz40 (by rw [← hA9]; rfl) rfl (Int.toNat_natCast _) (by omega) (by omega)) rfl) rfl <| Lx.y (fa' fo40_7 rfl) rfl <| Lx.y (ldB U4 rfl rfl hB9 (cell_of hc9 7 (by omega) rfl)) rfl <| Lx.nil <| ?_
     refine Xx.tn (k17 _ _ _ _ ?_)
     refine Cx.condB rfl (fun h18 => ?_) (fun h18 => ?_)
     ·
      have g5 : (z.b.revs[i]'hlt).gone = true := h18
      refine Cx.region <| Lx.y (asg rfl) rfl <| Lx.nil <| Xx.bn <| ?_
      refine Xx.tn (k16 _ _ _ _ ?_)
      refine Cx.region <| Lx.y (mv rfl) rfl <| Lx.y (Yx.val (add rfl rfl (by first | exact wrap64 (by omega) (by omega) | rfl)) (show _ = i64 ((i + 1 : Nat) : Int) from rfl)) rfl <| Lx.y (asg rfl) rfl <| Lx.nil <| ?_
      exact Xx.againK ⟨i + 1, 230, ⟨hlt, .inl ⟨rfl, List.any_eq_true.2 ⟨_, List.getElem_mem hlt, g5⟩⟩⟩, rfl, rfl, rfl, rfl⟩ (by omega) (Sc 9 rfl (Sc 10 rfl (Sc 0 rfl (Sc 1 rfl (Sc 2 rfl (Sc 4 rfl (Sc 5 rfl (Sc 7 rfl (Sc 8 rfl (Sc 15 rfl (Sc 16 rfl (Sc 17 rfl (Sc 18 rfl (Sc 19 rfl (Sc 20 rfl (Sc 21 rfl (Sc 22 rfl (Sc 23 rfl (Sc 24 rfl (Sc 25 rfl (Sc 26 rfl (Sc 27 rfl (Sc 28 rfl (Sc 29 rfl (Sc 30 rfl (Sc 31 rfl (Sc 32 rfl (Sc 33 rfl (Sc 34 rfl (Sc 35 rfl (Sc 36 rfl (Sc 37 rfl (Sc 46 rfl (Sc 47 rfl (Sc 48 rfl (Sc 49 rfl (Sc 50 rfl (Sc 51 rfl (Sub.nil _)))))))))))))))))))))))))))))))))))))))
     ·
      have g5 : (z.b.revs[i]'hlt).gone = false := h18
      refine Cx.skip <| Xx.bn <| ?_
      refine Xx.tn (k16 _ _ _ _ ?_)
      refine Cx.region <| Lx.y (mv rfl) rfl <| Lx.y (Yx.val (add rfl rfl (by first | exact wrap64 (by omega) (by omega) | rfl)) (show _ = i64 ((i + 1 : Nat) : Int) from rfl)) rfl <| Lx.y (asg rfl) rfl <| Lx.nil <| ?_
      exact Xx.againK ⟨i + 1, w, ⟨hlt, hw.elim .inl fun e => .inr ⟨e.1, fun q hq h => (Nat.lt_succ_iff_lt_or_eq.1 h).elim (e.2 q hq) fun e2 => by subst e2; exact g5⟩⟩, rfl, rfl, rfl, rfl⟩ (by omega) (Sc 9 rfl (Sc 10 rfl (Sc 0 rfl (Sc 1 rfl (Sc 2 rfl (Sc 4 rfl (Sc 5 rfl (Sc 7 rfl (Sc 8 rfl (Sc 15 rfl (Sc 16 rfl (Sc 17 rfl (Sc 18 rfl (Sc 19 rfl (Sc 20 rfl (Sc 21 rfl (Sc 22 rfl (Sc 23 rfl (Sc 24 rfl (Sc 25 rfl (Sc 26 rfl (Sc 27 rfl (Sc 28 rfl (Sc 29 rfl (Sc 30 rfl (Sc 31 rfl (Sc 32 rfl (Sc 33 rfl (Sc 34 rfl (Sc 35 rfl (Sc 36 rfl (Sc 37 rfl (Sc 46 rfl (Sc 47 rfl (Sc 48 rfl (Sc 49 rfl (Sc 50 rfl (Sc 51 rfl (Sub.nil _)))))))))))))))))))))))))))))))))))))))
    ·
     have hge := h15
     obtain rfl : i = z.b.revs.length := by omega
     refine Cx.exit <| Xx.te <| Xx.te <| Xx.bh <| ?_
     exact Xx.mkK (⟨rfl, rfl, by ac_rfl⟩) (Sub.consE (s := 9) rfl (congrArg (fun q : Int => i64 q) (want_ok (b := z.b) (l := ([] ++ [(madeF [] 0 sizes)])) hfo0 hw)) (Sc 0 rfl (Sc 1 rfl (Sc 2 rfl (Sc 4 rfl (Sc 5 rfl (Sc 7 rfl (Sc 8 rfl (Sc 15 rfl (Sc 16 rfl (Sc 17 rfl (Sc 18 rfl (Sc 19 rfl (Sc 20 rfl (Sc 21 rfl (Sc 22 rfl (Sc 23 rfl (Sc 24 rfl (Sc 25 rfl (Sc 26 rfl (Sc 27 rfl (Sc 28 rfl (Sc 29 rfl (Sc 30 rfl (Sc 31 rfl (Sc 32 rfl (Sc 33 rfl (Sc 34 rfl (Sc 35 rfl (Sc 36 rfl (Sc 37 rfl (Sc 46 rfl (Sc 47 rfl (Sc 48 rfl (Sc 49 rfl (Sub.nil _))))))))))))))))))))))))))))))))))))
   ·
    have hfo1 : ¬ followsF z.b 1#64 (prevF ([] ++ [(madeF [] 0 sizes)])) = 0 := h11
    refine Cx.skip ?_
    exact Xx.mkK (⟨rfl, rfl, by ac_rfl⟩) (Sub.consE (s := 9) rfl (congrArg (fun q : Int => i64 q) (want_bad2 (b := z.b) (l := ([] ++ [(madeF [] 0 sizes)])) (n := 1#64) rfl hfo1).symm) (Sc 0 rfl (Sc 1 rfl (Sc 2 rfl (Sc 4 rfl (Sc 5 rfl (Sc 7 rfl (Sc 8 rfl (Sc 15 rfl (Sc 16 rfl (Sc 17 rfl (Sc 18 rfl (Sc 19 rfl (Sc 20 rfl (Sc 21 rfl (Sc 22 rfl (Sc 23 rfl (Sc 24 rfl (Sc 25 rfl (Sc 26 rfl (Sc 27 rfl (Sc 28 rfl (Sc 29 rfl (Sc 30 rfl (Sc 31 rfl (Sc 32 rfl (Sc 33 rfl (Sc 34 rfl (Sc 35 rfl (Sc 36 rfl (Sc 37 rfl (Sc 46 rfl (Sc 47 rfl (Sc 48 rfl (Sc 49 rfl (Sub.nil _))))))))))))))))))))))))))))))))))))
  ·rintro ρ' B' H' ⟨rfl, hBB, rfl⟩
   subst hBB
   rename Frag => B5
   refine Cx.seq (fun K19 k19 => ?_)
   refine Cx.region <| Lx.y (mv rfl) rfl <| Lx.y (ldA U25 rfl sz25 rfl (Cells.own (n := 4) PickB.eq (show ((bmc z).drop 0).take 4 = bmc z from rfl)) rfl) rfl <| ?_
   refine Lx.c rfl rfl rfl (PutW_ct vb x' j' d' z fb' ([] ++ [(madeF [] 0 sizes)]) 2 2500 2 _ hk' hRz hinz hxl' hs' hf' hjd' (by decide) (by decide) (by decide) (by show 1 ≤ 10000; decide) (by rw [hrm, hd]; decide)) (show _ = (vH vb x' * (jnH x'.jb j' * dkH x'.db d')) * (row b2 25 (bmc z) * R) by ac_rfl) rfl ?_
   rintro v8 B8 H8 ⟨y, k, d2, fb2, l2, rfl, rfl, hky, hyd, hyj, hyl, hl2, hkd, hkm, hs2, hf2, hrm2⟩ hB8
   simp only [star_assoc]
   rw [hyd]
   have hl2n : l2.length = (if (wantF z.b ([] ++ [(madeF [] 0 sizes)])) = 0 then 2 else 1) := by rw [hl2]; split <;> rfl
   have hyn : u64 (BitVec.ofInt 64 (y.ms.length : Nat)) = u64 (if (wantF z.b ([] ++ [(madeF [] 0 sizes)])) = 0 then 2#64 else 1#64) := by
    have h9 := congrArg List.length hyl
    rw [show y.vs.l.length = y.ms.length from List.length_map ..] at h9
    rw [h9, hl2n]
    by_cases e : (wantF z.b ([] ++ [(madeF [] 0 sizes)])) = 0
    ·rw [if_pos e, if_pos e]; rfl
    ·rw [if_neg e, if_neg e]; rfl
   refine Lx.y (asg rfl) rfl <| Lx.nil <| ?_
   refine Xx.tn (k19 _ _ _ _ ?_)
   refine Cx.seq (fun K20 k20 => ?_)
   refine Cx.region <| Lx.y (asg rfl) rfl <| Lx.nil <| ?_
   refine Xx.tn (k20 _ _ _ _ ?_)
   refine Cx.cutK (ds' := []) (Sc 0 rfl (Sc 1 rfl (Sc 2 rfl (Sc 4 rfl (Sc 5 rfl (Sc 7 rfl (Sc 8 rfl (Sc 9 rfl (Sc 11 rfl (Sc 15 rfl (Sc 16 rfl (Sc 17 rfl (Sc 18 rfl (Sc 19 rfl (Sc 20 rfl (Sc 21 rfl (Sc 22 rfl (Sc 23 rfl (Sc 24 rfl (Sc 25 rfl (Sc 26 rfl (Sc 27 rfl (Sc 28 rfl (Sc 29 rfl (Sc 30 rfl (Sc 31 rfl (Sc 32 rfl (Sc 33 rfl (Sc 34 rfl (Sc 35 rfl (Sc 36 rfl (Sc 37 rfl (Sc 46 rfl (Sc 47 rfl (Sc 48 rfl (Sc 49 rfl (Sc 65 rfl (Sc 66 rfl (Sc 67 rfl (Sub.nil _)))))))))))))))))))))))))))))))))))))))) (fun ρ' B' H' => ρ' = [(12, u64 (if (wantF z.b ([] ++ [(madeF [] 0 sizes)])) = 0 then 2#64 else 1#64))] ∧ B8 = B' ∧ vH vb y * (jnH y.jb k * (dkH x'.db d2 * (row b2 25 (bmc z) * R))) = H') ?_ ?_
   ·
    refine Cx.seq (fun K21 k21 => ?_)
    refine Cx.region <| Lx.y (mv rfl) rfl <| Lx.y (eqI rfl rfl) rfl <| Lx.nil <| ?_
    refine Xx.tn (k21 _ _ _ _ ?_)
    refine Cx.condD rfl (fun h22 => ?_) (fun h22 => ?_)
    ·
     have g7 : (wantF z.b ([] ++ [(madeF [] 0 sizes)])) = 0 := h22
     refine Cx.region <| Lx.y (asg rfl) rfl <| Lx.nil <| ?_
     exact Xx.mkK (⟨rfl, rfl, by ac_rfl⟩) (Sub.consE (s := 12) rfl (by rw [if_pos g7]; rfl) (Sc 0 rfl (Sc 1 rfl (Sc 2 rfl (Sc 4 rfl (Sc 5 rfl (Sc 7 rfl (Sc 8 rfl (Sc 9 rfl (Sc 11 rfl (Sc 15 rfl (Sc 16 rfl (Sc 17 rfl (Sc 18 rfl (Sc 19 rfl (Sc 20 rfl (Sc 21 rfl (Sc 22 rfl (Sc 23 rfl (Sc 24 rfl (Sc 25 rfl (Sc 26 rfl (Sc 27 rfl (Sc 28 rfl (Sc 29 rfl (Sc 30 rfl (Sc 31 rfl (Sc 32 rfl (Sc 33 rfl (Sc 34 rfl (Sc 35 rfl (Sc 36 rfl (Sc 37 rfl (Sc 46 rfl (Sc 47 rfl (Sc 48 rfl (Sc 49 rfl (Sc 65 rfl (Sc 66 rfl (Sc 67 rfl (Sub.nil _)))))))))))))))))))))))))))))))))))))))))
    ·
     have g7 : ¬ (wantF z.b ([] ++ [(madeF [] 0 sizes)])) = 0 := h22
     refine Cx.skip ?_
     exact Xx.mkK (⟨rfl, rfl, by ac_rfl⟩) (Sub.consE (s := 12) rfl (by rw [if_neg g7]; rfl) (Sc 0 rfl (Sc 1 rfl (Sc 2 rfl (Sc 4 rfl (Sc 5 rfl (Sc 7 rfl (Sc 8 rfl (Sc 9 rfl (Sc 11 rfl (Sc 15 rfl (Sc 16 rfl (Sc 17 rfl (Sc 18 rfl (Sc 19 rfl (Sc 20 rfl (Sc 21 rfl (Sc 22 rfl (Sc 23 rfl (Sc 24 rfl (Sc 25 rfl (Sc 26 rfl (Sc 27 rfl (Sc 28 rfl (Sc 29 rfl (Sc 30 rfl (Sc 31 rfl (Sc 32 rfl (Sc 33 rfl (Sc 34 rfl (Sc 35 rfl (Sc 36 rfl (Sc 37 rfl (Sc 46 rfl (Sc 47 rfl (Sc 48 rfl (Sc 49 rfl (Sc 65 rfl (Sc 66 rfl (Sc 67 rfl (Sub.nil _)))))))))))))))))))))))))))))))))))))))))
   ·rintro ρ' B' H' ⟨rfl, hBB, rfl⟩
    subst hBB
    rename Frag => B8
    refine Cx.seq (fun K23 k23 => ?_)
    refine Cx.region <| Lx.y (mv rfl) rfl <| ?_
    refine Lx.c rfl rfl rfl (open_ct x'.db d2 fb2 l2 (2 + 2) (2500 + 75000) (2 + 2) _ hs2 (by decide) (by decide) (by decide) (by rw [hl2n]; split <;> decide)) (Pick.eq) rfl ?_
    rintro v9 B9 H9 ⟨wb, q, u, rfl, hql, hqd, hkq, hud, hum, huf, rfl⟩ hB9
    simp only [star_assoc]
    have hqn : u64 (BitVec.ofInt 64 (q.ms.length : Nat)) = u64 (if (wantF z.b ([] ++ [(madeF [] 0 sizes)])) = 0 then 2#64 else 1#64) := by
     rw [← hyn]
     have h9 := congrArg List.length hql
     have h8 := congrArg List.length hyl
     rw [show q.vs.l.length = q.ms.length from List.length_map ..] at h9
     rw [show y.vs.l.length = y.ms.length from List.length_map ..] at h8
     rw [h9, h8]
    refine Lx.y (mv rfl) rfl <| Lx.y (ext rfl rfl) rfl <| Lx.y (ext rfl rfl) rfl <| Lx.y (asg rfl) rfl <| Lx.y (asg rfl) rfl <| Lx.nil <| ?_
    refine Xx.tn (k23 _ _ _ _ ?_)
    refine Cx.seq (fun K24 k24 => ?_)
    refine Cx.region <| Lx.y (mv rfl) rfl <| Lx.y (mv rfl) rfl <| Lx.y (Yx.tt (eqI rfl rfl) (by simp)) rfl <| Lx.y (mv rfl) rfl <| Lx.gT rfl rfl rfl <| Lx.y (mv rfl) rfl <| Lx.gT rfl rfl rfl <| ?_
    refine Lx.co rfl rfl rfl (CtC.of (VLen_ct vb y _) hyn rfl) (Pick.eq) rfl ?_
    refine Lx.gT rfl rfl rfl <| Lx.y (mv rfl) rfl <| Lx.gT rfl rfl rfl <| Lx.y (Yx.tt (eqI rfl rfl) (by simp)) rfl <| Lx.y (pickT rfl rfl) rfl <| Lx.y (mv rfl) rfl <| Lx.gT rfl rfl rfl <| Lx.y (mv rfl) rfl <| Lx.y (pickT rfl rfl) rfl <| Lx.y (mv rfl) rfl <| Lx.gT rfl rfl rfl <| Lx.y (mv rfl) rfl <| ?_
    refine Lx.gT rfl rfl rfl ?_
    refine Lx.co rfl rfl rfl (CtC.of (VLen_ct wb q _) hqn rfl) (Pick.eq) rfl ?_
    refine Lx.gT rfl rfl rfl <| Lx.y (mv rfl) rfl <| Lx.gT rfl rfl rfl <| Lx.y (Yx.tt (eqI rfl rfl) (by simp)) rfl <| Lx.y (pickT rfl rfl) rfl <| Lx.y (asg rfl) rfl <| Lx.nil <| ?_
    refine Xx.tn (k24 _ _ _ _ ?_)
    refine Cx.ret ?_
    repeat refine Xx.drop ?_
    exact Xx.rB1 rfl rfl rfl (Frag.le_trans hB27 (Frag.le_trans hB8 hB9)) rfl
end ViL
end Go.Proofs.YthlfffbcligocaaGreat
namespace Go.SL
open Go.RowKit Go.ChangeShapes Go.WideShapes Go.ChangeAt
theorem flatG_len {α : Type} {enc : α → List Value} {size : Nat} (he : ∀ x, (enc x).length = size) (l : List α) : (l.flatMap enc).length = l.length * size := by
  induction l with
  | nil => simp
  | cons x l ih => rw [List.flatMap_cons, List.length_append, ih, he, List.length_cons, Nat.succ_mul]; omega
theorem flatG_at {α : Type} {enc : α → List Value} {size : Nat} (he : ∀ x, (enc x).length = size) : ∀ (k : Nat) (l : List α) (h : k < l.length), ((l.flatMap enc).drop (k * size)).take size = enc l[k] := by
  intro k
  induction k with
  | zero =>
    intro l h
    cases l with
    | nil => simp at h
    | cons x l =>
      rw [Nat.zero_mul, List.drop_zero, List.flatMap_cons, List.take_append_of_le_length (by rw [he]; exact Nat.le_refl _), List.take_of_length_le (by rw [he]; exact Nat.le_refl _)]; rfl
  | succ k ih =>
    intro l h
    cases l with
    | nil => simp at h
    | cons x l =>
      have h' : k < l.length := by simpa using h
      rw [List.flatMap_cons, List.drop_append, he, List.drop_of_length_le (by rw [he, Nat.succ_mul]; omega), List.nil_append, show (k + 1) * size - size = k * size by rw [Nat.succ_mul]; omega]
      exact ih l h'
theorem flat_at {α : Type} {enc : α → List Value} {size : Nat} {B : Frag} {A : Option Addr} {l : List α} {k : Nat} (he : ∀ x, (enc x).length = size) (h : RoS B size A l.length (l.flatMap enc)) (hk : k < l.length) :
    ∃ b o cs et fz, A = some ⟨b, o, none⟩ ∧ B b = some (.cells (List.toArray cs) et fz) ∧ (cs.drop (o + k * size)).take size = enc l[k] := by
  obtain ⟨b, o, cs, et, fz, h1, h2, h3⟩ := h.at (k := k) hk
  exact ⟨b, o, cs, et, fz, h1, h2, by rw [h3, flatG_at he]⟩
def ixF {α : Type} (p : α → Bool) (l : List α) : Int := if l.any p = true then ((l.findIdx p : Nat) : Int) else -1
section
variable {H : Type} {enc : TypeId × Value → H}
theorem weightsAll_mem {P : Program} {e : TypeId} : ∀ {l : List (DataW H)} {d : DataW H} {n : Nat}, d ∈ l → n ∈ d.weights P e → n ∈ DataW.weightsAll P e l := by
  intro l
  induction l with
  | nil => intro d n h; cases h
  | cons x l ih =>
    intro d n h hn
    simp only [DataW.weightsAll, List.mem_append]
    rcases List.mem_cons.1 h with rfl | h
    · exact .inl hn
    · exact .inr (ih h hn)
theorem add_block (a : Addr) (k : Nat) : (a.add k).block = a.block := by unfold Addr.add; split <;> rfl
theorem add_off (a : Addr) (k : Nat) : (a.add k).off = a.off + k := by unfold Addr.add; split <;> simp_all
theorem cells_row {W : World} {b0 : Nat} {a : Addr} {n : Nat} {cs : List Value} (h : W.cells? b0 a n = some cs) (hn : 0 < n) : a.spot = none ∧ ∃ l et fz, W.heap[a.block]? = some (.cells (List.toArray l) et fz) ∧ (l.drop a.off).take n = cs := by
  obtain ⟨_, hl, hc⟩ := World.cells?_some h
  have hb : ∀ k, (a.add k).block = a.block := fun k => by unfold Addr.add; split <;> rfl
  have h0 := cell_obj ((hc 0 hn).trans (List.getElem?_eq_getElem (by omega)))
  have hs : a.spot = none := by have := h0.1; simpa [Addr.add] using this
  obtain ⟨l, et, fz, hh, _⟩ := h0.2
  rw [hb] at hh
  have ho : ∀ k, (a.add k).off = a.off + k := fun k => by unfold Addr.add; split <;> simp_all
  refine ⟨hs, l, et, fz, hh, ?_⟩
  apply List.ext_getElem?
  intro k
  by_cases hk : k < n
  · rw [List.getElem?_take, if_pos hk, List.getElem?_drop]
    obtain ⟨l2, et2, fz2, hh2, hv2⟩ := (cell_obj ((hc k hk).trans (List.getElem?_eq_getElem (by omega)))).2
    rw [hb, hh] at hh2
    rw [ho] at hv2
    injection hh2 with hh2
    injection hh2 with e1
    have e2 : l = l2 := by simpa using congrArg Array.toList e1
    subst e2
    rw [hv2, List.getElem?_eq_getElem]
  · rw [List.getElem?_take, if_neg hk, List.getElem?_eq_none (by omega)]
theorem wf_u64 {n : Int} (h : (Lit.int .u64 n).wf = true) : 0 ≤ n ∧ n ≤ 18446744073709551615 := by
  unfold Lit.wf at h
  rw [Bool.and_eq_true] at h
  exact ⟨of_decide_eq_true h.1, of_decide_eq_true h.2⟩
theorem u64_of {n : Int} (h : (Lit.int .u64 n).wf = true) : ∃ b : BitVec 64, Value.int .u64 n = u64 b := by
  obtain ⟨h1, h2⟩ := wf_u64 h
  refine ⟨BitVec.ofNat 64 n.toNat, ?_⟩
  show _ = Value.int .u64 _
  congr 1
  rw [BitVec.toNat_ofNat]
  omega
theorem flat_of {α : Type} {en : α → List Value} {size : Nat} : ∀ (l : List α) (o : Nat) (cs : List Value), (∀ i (h : i < l.length), (cs.drop (o + i * size)).take size = en l[i]) → (cs.drop o).take (l.length * size) = l.flatMap en := by
  intro l
  induction l with
  | nil => intro o cs _; simp
  | cons x l ih =>
    intro o cs h
    have h0 := h 0 (by simp)
    rw [Nat.zero_mul, Nat.add_zero] at h0
    have h1 := ih (o + size) cs (fun i hi => by
      have := h (i + 1) (by simpa using hi)
      rw [Nat.succ_mul, Nat.add_comm (i * size), ← Nat.add_assoc] at this
      exact this)
    rw [List.length_cons, Nat.succ_mul, Nat.add_comm, List.take_add, h0, List.drop_drop, h1, List.flatMap_cons]; rfl
theorem choose_any {α : Type} {n : Nat} {Q : Nat → α → Prop} (h : ∀ i, i < n → ∃ x, Q i x) : ∃ l : List α, l.length = n ∧ ∀ i (hi : i < l.length), Q i l[i] := by
  induction n with
  | zero => exact ⟨[], rfl, fun i hi => by simp at hi⟩
  | succ n ih =>
    obtain ⟨l, hl, hall⟩ := ih (fun i hi => h i (by omega))
    obtain ⟨x, hx⟩ := h n (by omega)
    refine ⟨l ++ [x], by simp [hl], fun i hi => ?_⟩
    by_cases e : i < l.length
    · rw [List.getElem_append_left e]; exact hall i e
    · have hin : i = l.length := by simp at hi; omega
      subst hin
      rw [List.getElem_append_right (Nat.le_refl _)]
      simp only [Nat.sub_self, List.getElem_cons_zero]
      rw [hl]; exact hx
theorem open_list {α : Type} {P : Program} {r : Reach} {b0 base' : Nat} {sp : Nat → Bool} {hd : Bool} {W : World} {t e : TypeId} {v : Value} {d : DataW H} {ps : List MemPlace} {size : Nat} (en : α → List Value) (Q : α → Prop) (he : ∀ x, (en x).length = size) (hz : 0 < size) (ht : P.underlying t = some (.slice e)) (hc : P.cellsOf e = size)
    (hval : Value.okWide P W r b0 t v) (h : DataW.Trod enc P W base' sp hd t v d ps)
    (hel : ∀ n cs y, DataW.trod enc P W base' sp hd n e cs = some y → (∀ k ∈ y.1.weights P e, k ∈ d.weights P t) → ∃ x, cs = en x ∧ Q x) :
    ∃ (A : Option Addr) (c : Nat) (l : List α), v = .slice A l.length c ∧ l.length ≤ 9223372036854775807 ∧ (0 < l.length → RoS (base W) size A l.length (l.flatMap en)) ∧ ∀ x ∈ l, Q x := by
  obtain ⟨a0, len0, cap0, rfl⟩ := okWide_slice ht hval
  obtain ⟨fuel, hf⟩ := h
  rcases DataW.trod_slice ht hf with ⟨hcs, _⟩ | ⟨a, len, cap, elems, rest, n, rfl, hcs, hx4, _, hl4, hm4, hlen4, hev, _, _⟩
  · simp [Value.cells] at hcs
    obtain ⟨rfl, rfl, rfl⟩ := hcs
    exact ⟨none, 0, [], rfl, by simp, fun h => by simp at h, fun x hx => by cases hx⟩
  · simp [Value.cells] at hcs
    obtain ⟨rfl, rfl, rfl⟩ := hcs
    have hdx : d = .slice (elems.map (·.1)) (rest.map (·.1)) := congrArg Prod.fst hx4
    have hex : ∀ i, i < len0 → ∃ x, W.cells? base' (a.add (i * size)) size = some (en x) ∧ Q x := by
      intro i hi
      have h1 := hev i hi
      rw [hc, List.getElem?_eq_getElem (by omega), Option.bind_eq_some_iff] at h1
      obtain ⟨cs', h2, h3⟩ := h1
      obtain ⟨x, rfl, hq⟩ := hel n cs' _ h3 (fun m hm => by
        rw [hdx]
        simp only [DataW.weights, ht, List.mem_cons, List.mem_append]
        exact .inr (.inl (weightsAll_mem (List.mem_map.2 ⟨_, List.getElem_mem (by omega), rfl⟩) hm)))
      exact ⟨x, h2, hq⟩
    obtain ⟨l, hl, hall⟩ := choose_any hex
    subst hl
    have hml : maxLen ≤ 9223372036854775807 := by decide
    refine ⟨some a, cap0, l, rfl, by omega, fun h0 => ?_, fun x hx => ?_⟩
    · obtain ⟨hs, cs, et, fz, hh, hd0⟩ := cells_row (hall 0 h0).1 hz
      rw [add_block] at hh
      have hsa : a.spot = none := by simpa [Addr.add] using hs
      refine ⟨flatG_len he l, .inr ⟨a.block, a.off, cs, et, fz, by rw [← hsa], hh, flat_of l a.off cs fun i hi => ?_⟩⟩
      obtain ⟨_, cs', et', fz', hh', hd'⟩ := cells_row (hall i hi).1 hz
      rw [add_block] at hh'
      rw [add_off] at hd'
      have e1 := hh.symm.trans hh'
      injection e1 with e1
      injection e1 with e1 e2 e3
      have e4 : cs = cs' := by simpa using congrArg Array.toList e1
      rw [e4]; exact hd'
    · obtain ⟨i, hi, rfl⟩ := List.getElem_of_mem hx
      exact (hall i hi).2
def s1 (s : List UInt8) : List Value := [str s]
end
end Go.SL
namespace Go.Proofs.YthlfffbcligocaaGreat
open Go.SL Go.RowKit
set_option maxRecDepth 100000
open VhA VhB VhC VhD VhE VhF VhG VhH VhI VhJ VhK VhL VhM VhN VhO VhP VhQ VhR VhS VhT VhU VhV VhW VhX VhY VhZ ViA ViB ViC ViE ViF ViG ViH ViI
open Go.ChangeShapes Go.WideShapes Go.ChangeAt
namespace ViX
section
variable {H : Type} {enc : TypeId × Value → H}
theorem weights_at {P : Program} {ts : List TypeId} {ds : List (DataW H)} (h : (DataW.weightsEach P ts ds).all (· ≤ reachBytes) = true) {j : Nat} {t : TypeId} {d : DataW H} (ht : ts[j]? = some t) (hd : ds[j]? = some d) : ∀ n ∈ d.weights P t, n ≤ reachBytes := fun n hn => by
  have := List.all_eq_true.1 h _ (DataW.weights_mem_each ht hd n hn)
  simpa using this
theorem reach_le : reachBytes ≤ 140737488355327 := by decide
theorem open_listW0 {α : Type} {P : Program} {base' : Nat} {sp : Nat → Bool} {hd : Bool} {W : World} {t e : TypeId} {cs0 : List Value} {y0 : DataW H × List MemPlace} {fuel : Nat} {size : Nat} (en : α → List Value) (Q : α → Prop) (he : ∀ x, (en x).length = size) (hz : 0 < size) (ht : P.underlying t = some (.slice e)) (hc : P.cellsOf e = size)
    (h : DataW.trod enc P W base' sp hd fuel t cs0 = some y0) (hw : ∀ m ∈ y0.1.weights P t, m ≤ reachBytes)
    (hel : ∀ n cs y, DataW.trod enc P W base' sp hd n e cs = some y → (∀ m ∈ y.1.weights P e, m ≤ reachBytes) → ∃ x, cs = en x ∧ Q x) :
    ∃ (A : Option Addr) (c : Nat) (l : List α), cs0 = [.slice A l.length c] ∧ l.length ≤ c ∧ l.length * P.bytesOf e ≤ reachBytes ∧ (0 < l.length → RoS (base W) size A l.length (l.flatMap en)) ∧ ∀ x ∈ l, Q x := by
  rcases DataW.trod_slice ht h with ⟨hcs, _⟩ | ⟨a, len, cap, elems, rest, n, rfl, hcs, hx4, _, hl4, hm4, hlen4, hev, _, _⟩
  · exact ⟨none, 0, [], hcs, Nat.le_refl _, by simp, fun h => by simp at h, fun x hx => by cases hx⟩
  · rw [hx4] at hw
    have hwl : ((elems.map (·.1)).length + (rest.map (·.1)).length) * P.bytesOf e ≤ reachBytes := hw _ (by simp [DataW.weights, ht])
    rw [List.length_map] at hwl
    have hex : ∀ i, i < len → ∃ x, W.cells? base' (a.add (i * size)) size = some (en x) ∧ Q x := by
      intro i hi
      have h1 := hev i hi
      rw [hc, List.getElem?_eq_getElem (by omega), Option.bind_eq_some_iff] at h1
      obtain ⟨cs', h2, h3⟩ := h1
      obtain ⟨x, rfl, hq⟩ := hel n cs' _ h3 (fun m hm => hw m (by
        simp only [DataW.weights, ht, List.mem_cons, List.mem_append]
        exact .inr (.inl (weightsAll_mem (List.mem_map.2 ⟨_, List.getElem_mem (by omega), rfl⟩) hm))))
      exact ⟨x, h2, hq⟩
    obtain ⟨l, hl, hall⟩ := choose_any hex
    subst hl
    refine ⟨some a, cap, l, hcs, by omega, Nat.le_trans (Nat.mul_le_mul_right _ (by omega)) hwl, fun h0 => ?_, fun x hx => ?_⟩
    · obtain ⟨hs, cs, et, fz, hh, hd0⟩ := cells_row (hall 0 h0).1 hz
      rw [add_block] at hh
      have hsa : a.spot = none := by simpa [Addr.add] using hs
      refine ⟨SL.flatG_len he l, .inr ⟨a.block, a.off, cs, et, fz, by rw [← hsa], hh, flat_of l a.off cs fun i hi => ?_⟩⟩
      obtain ⟨_, cs', et', fz', hh', hd'⟩ := cells_row (hall i hi).1 hz
      rw [add_block] at hh'
      rw [add_off] at hd'
      have e1 := hh.symm.trans hh'
      injection e1 with e1
      injection e1 with e1 e2 e3
      have e4 : cs = cs' := by simpa using congrArg Array.toList e1
      rw [e4]; exact hd'
    · obtain ⟨i, hi, rfl⟩ := List.getElem_of_mem hx
      exact (hall i hi).2
theorem open_rv0 {W : World} {b0 : Nat} {sp : Nat → Bool} {hd : Bool} {fuel : Nat} {cs : List Value} {x : DataW H × List MemPlace} (h : DataW.trod enc Tryz.prog W b0 sp hd fuel 40 cs = some x) (hw : ∀ n ∈ x.1.weights Tryz.prog 40, n ≤ reachBytes) : ∃ r : Rv, cs = rvc r ∧ RvLe reachBytes r := by
  have cI : Tryz.prog.cellsOf 3 = 1 := by kernel_rfl
  have cT : Tryz.prog.cellsOf 9 = 1 := by kernel_rfl
  have cU : Tryz.prog.cellsOf 22 = 1 := by kernel_rfl
  have cB : Tryz.prog.cellsOf 4 = 1 := by kernel_rfl
  have cR : Tryz.prog.cellsOf 40 = 8 := by kernel_rfl
  obtain ⟨xs, n, rfl, rfl, hl, hlen, hf⟩ := DataW.trod_struct U40 h
  rw [cR] at hl
  match cs, hl, xs, hlen with
  | [k0, k1, k2, k3, k4, k5, k6, k7], _, [y0, y1, y2, y3, y4, y5, y6, y7], _ =>
    have hwe : ∀ (j : Nat) (t : TypeId) (d : DataW H), [3, 9, 9, 22, 22, 9, 9, 4][j]? = some t → [y0.1, y1.1, y2.1, y3.1, y4.1, y5.1, y6.1, y7.1][j]? = some d → ∀ m ∈ d.weights Tryz.prog t, m ≤ reachBytes := fun j t d ht hd' m hm => hw m (by
      have : (DataW.agg (List.map (·.1) [y0, y1, y2, y3, y4, y5, y6, y7])).weights Tryz.prog 40 = DataW.weightsEach Tryz.prog [3, 9, 9, 22, 22, 9, 9, 4] [y0.1, y1.1, y2.1, y3.1, y4.1, y5.1, y6.1, y7.1] := by
        simp [DataW.weights, U40]
      rw [this]
      exact DataW.weights_mem_each ht hd' m hm)
    have g0 : DataW.trod enc Tryz.prog W b0 sp hd n 3 (List.take (Tryz.prog.cellsOf 3) [k0, k1, k2, k3, k4, k5, k6, k7]) = some y0 := hf 0 _ rfl
    have g1 : DataW.trod enc Tryz.prog W b0 sp hd n 9 (List.take (Tryz.prog.cellsOf 9) [k1, k2, k3, k4, k5, k6, k7]) = some y1 := hf 1 _ rfl
    have g2 : DataW.trod enc Tryz.prog W b0 sp hd n 9 (List.take (Tryz.prog.cellsOf 9) [k2, k3, k4, k5, k6, k7]) = some y2 := hf 2 _ rfl
    have g3 : DataW.trod enc Tryz.prog W b0 sp hd n 22 (List.take (Tryz.prog.cellsOf 22) [k3, k4, k5, k6, k7]) = some y3 := hf 3 _ rfl
    have g4 : DataW.trod enc Tryz.prog W b0 sp hd n 22 (List.take (Tryz.prog.cellsOf 22) [k4, k5, k6, k7]) = some y4 := hf 4 _ rfl
    have g5 : DataW.trod enc Tryz.prog W b0 sp hd n 9 (List.take (Tryz.prog.cellsOf 9) [k5, k6, k7]) = some y5 := hf 5 _ rfl
    have g6 : DataW.trod enc Tryz.prog W b0 sp hd n 9 (List.take (Tryz.prog.cellsOf 9) [k6, k7]) = some y6 := hf 6 _ rfl
    have g7 : DataW.trod enc Tryz.prog W b0 sp hd n 4 (List.take (Tryz.prog.cellsOf 4) [k7]) = some y7 := hf 7 _ rfl
    rw [cI] at g0
    rw [cT] at g1 g2 g5 g6
    rw [cU] at g3 g4
    rw [cB] at g7
    obtain ⟨m0, q0, _, _⟩ := DataW.trod_int U3 g0
    obtain ⟨m1, q1, x1, _⟩ := DataW.trod_string U9 g1
    obtain ⟨m2, q2, x2, _⟩ := DataW.trod_string U9 g2
    obtain ⟨m3, q3, _, w3⟩ := DataW.trod_int U22 g3
    obtain ⟨m4, q4, _, w4⟩ := DataW.trod_int U22 g4
    obtain ⟨m5, q5, x5, _⟩ := DataW.trod_string U9 g5
    obtain ⟨m6, q6, x6, _⟩ := DataW.trod_string U9 g6
    obtain ⟨m7, q7, _⟩ := DataW.trod_bool U4 g7
    have v1 : m1.data.toList.length ≤ reachBytes := hwe 1 9 _ rfl rfl _ (by rw [x1]; simp [DataW.weights])
    have v2 : m2.data.toList.length ≤ reachBytes := hwe 2 9 _ rfl rfl _ (by rw [x2]; simp [DataW.weights])
    have v5 : m5.data.toList.length ≤ reachBytes := hwe 5 9 _ rfl rfl _ (by rw [x5]; simp [DataW.weights])
    have v6 : m6.data.toList.length ≤ reachBytes := hwe 6 9 _ rfl rfl _ (by rw [x6]; simp [DataW.weights])
    injection q0 with q0 _
    injection q1 with q1 _
    injection q2 with q2 _
    injection q3 with q3 _
    injection q4 with q4 _
    injection q5 with q5 _
    injection q6 with q6 _
    injection q7 with q7 _
    obtain ⟨u3, hu3⟩ := u64_of w3
    obtain ⟨u4, hu4⟩ := u64_of w4
    subst q0 q1 q2 q5 q6 q7
    rw [q3, hu3, q4, hu4]
    exact ⟨⟨m0, m1.data.toList, m2.data.toList, u3, u4, m5.data.toList, m6.data.toList, m7⟩, rfl, v6, v5, v1, v2⟩
theorem open_block0 {base' : Nat} {sp : Nat → Bool} {hd : Bool} {W : World} {fuel : Nat} {cs : List Value} {x : DataW H × List MemPlace} (hf0 : DataW.trod enc Tryz.prog W base' sp hd fuel 25 cs = some x) (hw : ∀ n ∈ x.1.weights Tryz.prog 25, n ≤ reachBytes) :
    ∃ bm : Bm, cs = bmc bm ∧ bm.ro (base W) ∧ BkIn bm.b ∧ bm.b.revs.length ≤ bm.c := by
  have hrl := reach_le
  have cT : Tryz.prog.cellsOf 9 = 1 := by kernel_rfl
  have cU : Tryz.prog.cellsOf 22 = 1 := by kernel_rfl
  have cS : Tryz.prog.cellsOf 23 = 1 := by kernel_rfl
  have cB : Tryz.prog.cellsOf 25 = 4 := by kernel_rfl
  have cR : Tryz.prog.cellsOf 40 = 8 := by kernel_rfl
  have bR : 1 ≤ Tryz.prog.bytesOf 40 := by decide +kernel
  obtain ⟨xs, n, rfl, rfl, hl, hlen, hf⟩ := DataW.trod_struct U25 hf0
  rw [cB] at hl
  match cs, hl, xs, hlen with
  | [k0, k1, k2, k3], _, [y0, y1, y2, y3], _ =>
    have hwe : ∀ (j : Nat) (t : TypeId) (d : DataW H), [22, 9, 22, 23][j]? = some t → [y0.1, y1.1, y2.1, y3.1][j]? = some d → ∀ m ∈ d.weights Tryz.prog t, m ≤ reachBytes := fun j t d ht hd' m hm => hw m (by
      have : (DataW.agg (List.map (·.1) [y0, y1, y2, y3])).weights Tryz.prog 25 = DataW.weightsEach Tryz.prog [22, 9, 22, 23] [y0.1, y1.1, y2.1, y3.1] := by
        simp [DataW.weights, U25]
      rw [this]
      exact DataW.weights_mem_each ht hd' m hm)
    have g0 : DataW.trod enc Tryz.prog W base' sp hd n 22 (List.take (Tryz.prog.cellsOf 22) [k0, k1, k2, k3]) = some y0 := hf 0 _ rfl
    have g1 : DataW.trod enc Tryz.prog W base' sp hd n 9 (List.take (Tryz.prog.cellsOf 9) [k1, k2, k3]) = some y1 := hf 1 _ rfl
    have g2 : DataW.trod enc Tryz.prog W base' sp hd n 22 (List.take (Tryz.prog.cellsOf 22) [k2, k3]) = some y2 := hf 2 _ rfl
    have g3 : DataW.trod enc Tryz.prog W base' sp hd n 23 (List.take (Tryz.prog.cellsOf 23) [k3]) = some y3 := hf 3 _ rfl
    rw [cU] at g0 g2
    rw [cT] at g1
    rw [cS] at g3
    obtain ⟨m0, q0, _, w0⟩ := DataW.trod_int U22 g0
    obtain ⟨m1, q1, x1, _⟩ := DataW.trod_string U9 g1
    obtain ⟨m2, q2, _, w2⟩ := DataW.trod_int U22 g2
    obtain ⟨A, c, rv, q3, hcap, hnl, hro, hall⟩ := open_listW0 rvc (fun r => RvLe reachBytes r) rvc_len (by decide) U23 cR g3 (fun m hm => hwe 3 23 _ rfl rfl m hm) (fun n cs y hy hwy => open_rv0 hy hwy)
    injection q0 with q0 _
    injection q1 with q1 _
    injection q2 with q2 _
    injection q3 with q3 _
    obtain ⟨u0, hu0⟩ := u64_of w0
    obtain ⟨u2, hu2⟩ := u64_of w2
    subst q1 q3
    rw [q0, hu0, q2, hu2]
    have hnl2 : rv.length ≤ reachBytes := Nat.le_trans (Nat.le_mul_of_pos_right _ bR) hnl
    refine ⟨⟨⟨u0, m1.data.toList, u2, rv⟩, A, c⟩, rfl, hro, ⟨by show rv.length ≤ _; omega, fun r hr => ?_⟩, hcap⟩
    obtain ⟨a1, a2, a3, a4⟩ := hall r hr
    exact ⟨by omega, by omega, by omega, by omega⟩
theorem open_block {r : Reach} {b0 base' : Nat} {sp : Nat → Bool} {hd : Bool} {W : World} {v : Value} {d : DataW H} {ps : List MemPlace} (hval : Value.okWide Tryz.prog W r b0 25 v) (h : DataW.Trod enc Tryz.prog W base' sp hd 25 v d ps) (hw : ∀ n ∈ d.weights Tryz.prog 25, n ≤ reachBytes) :
    ∃ bm : Bm, v = .agg (bmc bm).toArray ∧ bm.ro (base W) ∧ BkIn bm.b ∧ bm.b.revs.length ≤ bm.c := by
  obtain ⟨cs, rfl, _⟩ := okWide_struct U25 hval
  obtain ⟨fuel, hf⟩ := h
  obtain ⟨q, hq, h2, h3, h4⟩ := open_block0 hf hw
  have hq' : cs.toList = bmc q := by simpa [Value.cells] using hq
  exact ⟨q, by rw [← hq'], h2, h3, h4⟩
def i1 (n : Int) : List Value := [i64 n]
theorem i1_flat (l : List Int) : l.flatMap i1 = ints l := by
  induction l with
  | nil => rfl
  | cons x l ih => rw [List.flatMap_cons, ih]; rfl
theorem open_ints {P : Program} {r : Reach} {b0 base' : Nat} {sp : Nat → Bool} {hd : Bool} {W : World} {t e : TypeId} {v : Value} {d : DataW H} {ps : List MemPlace} (ht : P.underlying t = some (.slice e)) (he : P.underlying e = some (.int .i64)) (hc : P.cellsOf e = 1) (hval : Value.okWide P W r b0 t v) (h : DataW.Trod enc P W base' sp hd t v d ps) :
    ∃ (A : Option Addr) (c : Nat) (l : List Int), v = .slice A l.length c ∧ l.length ≤ 9223372036854775807 ∧ (0 < l.length → RoS (base W) 1 A l.length (ints l)) := by
  obtain ⟨A, c, l, h1, h2, h3, _⟩ := open_list i1 (fun _ => True) (fun _ => rfl) (by decide) ht hc hval h (fun n cs y hy _ => by
    obtain ⟨m, q, _, _⟩ := DataW.trod_int he hy
    exact ⟨m, q, trivial⟩)
  exact ⟨A, c, l, h1, h2, fun h0 => by rw [← i1_flat]; exact h3 h0⟩
end
end ViX
end Go.Proofs.YthlfffbcligocaaGreat
