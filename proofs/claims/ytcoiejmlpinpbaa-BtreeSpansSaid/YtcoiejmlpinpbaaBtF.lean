/-
  Put into a node: one step.
-/
import Derived.Test.YtcoiejmlpinpbaaProg
import Derived.Test.YtcoiejmlpinpbaaSlj
import Derived.Test.YtcoiejmlpinpbaaBtI
namespace Go.Proofs.Ytcoiejmlpinpbaa
open Go.SL Go.RowKit
set_option linter.unusedVariables false
set_option linter.unusedSimpArgs false
set_option maxRecDepth 100000
open BtA BtB BtC BtD BtE BtG BtH BtI
namespace BtF
theorem sz9 : (Try.prog.info? 9).map (·.size) = some 1 := by kernel_rfl
theorem sz22 : (Try.prog.info? 22).map (·.size) = some 1 := by kernel_rfl
theorem sz67 : (Try.prog.info? 67).map (·.size) = some 1 := by kernel_rfl
theorem ti9 : TI Try.prog 9 [str []] 1 16 := TI.of (by kernel_rfl) rfl rfl
theorem fo70_0 : FO Try.prog 70 0 0 1 false := FO.of Try.underlying70 rfl rfl (by kernel_rfl) Try.underlying22 rfl rfl
theorem fo70_1 : FO Try.prog 70 1 1 1 false := FO.of Try.underlying70 rfl rfl (by kernel_rfl) Try.underlying22 rfl rfl
theorem fo70_2 : FO Try.prog 70 2 2 1 false := FO.of Try.underlying70 rfl rfl (by kernel_rfl) Try.underlying68 rfl rfl

def PutQ (N d : Nat) (c : C) (k v : Str8) (B : Frag) (r : Value) (B' : Frag) (H' : HP) : Prop := B' = B ∧ ∃ c', H' = tr (d + 1) c' ∧ c'.b = c.b ∧ PutR N d c k v c' r
abbrev PutC (N d : Nat) (c : C) (k v : Str8) (B : Frag) : Prop := Ct Try.prog 35 [.pointer (some ⟨c.b, 0, none⟩), str k, str v] B (tr (d + 1) c) (PutQ N d c k v B)
theorem lb_le : ∀ (ks : List Str8) (t : Str8), lb ks t ≤ ks.length := by
  intro ks t
  induction ks with
  | nil => exact Nat.le_refl _
  | cons x ks ih => unfold lb; split; simpa using ih; exact Nat.zero_le _
theorem lb_mem {ks : List Str8} {t : Str8} (hs : Srt ks) (hm : t ∈ ks) : ∃ h : lb ks t < ks.length, ks[lb ks t] = t := by
  obtain ⟨j, hj, rfl⟩ := List.getElem_of_mem hm
  have e : lb ks ks[j] = j := lb_eq ks ks[j] j (by omega) (fun i hi hij => hs.lt hj hij) (fun _ => bless_irrefl _)
  exact ⟨by omega, by simp [e]⟩
theorem set_str {vs : List Str8} {sp : List Value} {i : Nat} {v : Str8} (h : i < vs.length) : (vs.map str ++ sp).set (0 + i * 1) (str v) = (vs.set i v).map str ++ sp := by
  rw [Nat.zero_add, Nat.mul_one, List.set_append_left _ _ (by simpa using h), List.map_set]
theorem kid_at {cs : List C} {i : Nat} (h : i < cs.length) : ((cs.map pt).drop (0 + i * 1)).take 1 = [.pointer (some ⟨cs[i].b, 0, none⟩)] := by
  rw [Nat.zero_add, Nat.mul_one, take1 _ (by simpa using h)]; simp [pt]
theorem tr_succ (d : Nat) (c : C) : tr (d + 1) c = nrow c * (kbuf c * (vbuf c * (cbuf c * trs (tr d) c.cs))) := rfl
theorem pts_set {cs : List C} {i : Nat} {kid2 : C} {h : i < cs.length} (hb : kid2.b = cs[i].b) : (cs.set i kid2).map pt = cs.map pt := by
  rw [List.map_set]
  have e : pt kid2 = (cs.map pt)[i]'(by simpa using h) := by simp [pt, hb]
  rw [e, List.set_getElem_self]
theorem trs_set (f : C → HP) {cs : List C} {i : Nat} {kid2 : C} (h : i < cs.length) : trs f (cs.set i kid2) = f kid2 * (trs f (cs.take i) * trs f (cs.drop (i + 1))) := by
  rw [trs_at f (cs.set i kid2) i (by rw [List.length_set]; exact h), List.getElem_set_self, List.take_set_of_le (by omega), List.drop_set_of_lt (by omega)]
theorem under {N0 : Nat} {B : Frag} {y H : HP} {b o : Nat} {vs : List Value} (h : Cells N0 B H b o vs) : Cells N0 B (y * H) b o vs := fun w s => h w s.drop
theorem kid_keys {N0 d : Nat} {B : Frag} {R : HP} {cs : List C} {i : Nat} (h : i < cs.length) : Cells N0 B (trs (tr (d + 1)) cs * R) cs[i].b (0 + 0) [.slice cs[i].Ak cs[i].ks.length cs[i].ck] := by
  rw [trs_at _ _ _ h, tr_succ, star_assoc, star_assoc]
  exact Cells.own (n := 1) rfl rfl
theorem fold_tr {d b ck cv cc : Nat} {Ak Av Ac : Option Addr} {ks vs : List Str8} {cs : List C} {R : HP} : sbuf 9 1 Ak ks.length ck (ks.map str) * (row b 70 [.slice Ak ks.length ck, .slice Av vs.length cv, .slice Ac cs.length cc] * (sbuf 9 1 Av vs.length cv (vs.map str) * (sbuf 67 1 Ac cs.length cc (cs.map pt) * (trs (tr d) cs * R)))) = tr (d + 1) (.mk b Ak ck Av cv Ac cc ks vs cs) * R := by
  rw [tr_succ]
  simp only [nrow, kbuf, vbuf, cbuf, ncells, C.b, C.Ak, C.ck, C.Av, C.cv, C.Ac, C.cc, C.ks, C.vs, C.cs]
  ac_rfl
theorem fold_kid {d i : Nat} {cs : List C} {p q r s R : HP} (h : i < cs.length) : p * (q * (r * (s * (trs (tr d) cs * R)))) = tr d cs[i] * (p * (q * (r * (s * (trs (tr d) (cs.take i) * (trs (tr d) (cs.drop (i + 1)) * R)))))) := by
  rw [trs_at _ _ _ h]; ac_rfl

set_option maxHeartbeats 4000000 in
theorem put_step (N d : Nat) (hN : N ≤ 90) (c : C) (k v : Str8) (B : Frag) (hok : Ok N (d + 1) c) (ho : Ord (io (d + 1) c)) (hsk : Srt c.ks) (hl7 : c.cs = [] → c.ks.length < N) (ih : ∀ (h : lb c.ks k < c.cs.length), k ∉ c.ks → c.cs[lb c.ks k].ks.length ≠ 7 → ∃ d2, d = d2 + 1 ∧ PutC 7 d2 c.cs[lb c.ks k] k v B) (again : ∀ (h : lb c.ks k < c.cs.length), k ∉ c.ks → c.cs[lb c.ks k].ks.length = 7 → ∀ c', Halved c (lb c.ks k) c.cs[lb c.ks k] c' → Ct Try.prog 35 [.pointer (some ⟨c.b, 0, none⟩), str k, str v] B (tr (d + 1) c') (PutQ N d c k v B)) : PutC N d c k v B := by
  have hlbn : lb c.ks k ≤ c.ks.length := lb_le _ _
  have hvl := hok.1
  have hcl := hok.2.2.1
  have h7 := hok.2.1
  obtain ⟨b, Ak, ck, Av, cv, Ac, cc, ks, vs, cs⟩ := c
  unfold PutC
  simp only [C.b, C.ks, C.vs, C.cs] at h7 hl7 hlbn hvl hcl hsk ih again ⊢
  refine Ct.of_body Try.func35 rfl (nt := 83) rfl (by kernel_rfl) rfl ?_
  intro N0 w0 R
  rw [tr_succ]
  simp only [star_assoc, nrow, kbuf, vbuf, cbuf, ncells, C.b, C.Ak, C.ck, C.Av, C.cv, C.Ac, C.cc, C.ks, C.vs, C.cs]
  refine Cx.seq (fun K1 k1 => ?_)
  refine Cx.region ?_
  refine Lx.y (asg rfl) rfl ?_
  refine Lx.nil ?_
  refine Xx.tn (k1 _ _ _ _ ?_)
  refine Cx.seq (fun K2 k2 => ?_)
  refine Cx.region ?_
  refine Lx.y (mv rfl) rfl ?_
  refine Lx.y (nilc rfl) rfl ?_
  refine Lx.y (fa' fo70_0 rfl) rfl ?_
  refine Lx.y (ld Try.underlying22 rfl rfl rfl) rfl ?_
  refine Lx.y (mv rfl) rfl ?_
  refine Lx.co rfl rfl rfl (BSo_ct ks k Ak ck ks.length _ rfl hsk (by omega)) (pickS _) rfl ?_
  refine Lx.y (mv rfl) rfl ?_
  refine Lx.y (ext rfl rfl) rfl ?_
  refine Lx.y (ext rfl rfl) rfl ?_
  refine Lx.y (asg rfl) rfl ?_
  refine Lx.y (asg rfl) rfl ?_
  refine Lx.nil ?_
  refine Xx.tn (k2 _ _ _ _ ?_)
  refine Cx.seq (fun K3 k3 => ?_)
  refine Cx.seq (fun K4 k4 => ?_)
  refine Cx.region ?_
  refine Lx.y (mv rfl) rfl ?_
  refine Lx.nil ?_
  refine Xx.tn (k4 _ _ _ _ ?_)
  refine Cx.condB rfl (fun h5 => ?_) (fun h5 => ?_)
  · skip
    have hin : k ∈ ks := of_decide_eq_true h5
    obtain ⟨hlt, hat⟩ := lb_mem hsk hin
    refine Cx.seq (fun K6 k6 => ?_)
    refine Xx.openT Av (by omega) (fun bV sp hAv hvx hvc hvcl => ?_)
    subst hAv
    refine Cx.region ?_
    refine Lx.y (mv rfl) rfl ?_
    refine Lx.y (nilc rfl) rfl ?_
    refine Lx.y (fa' fo70_1 rfl) rfl ?_
    refine Lx.y (ld Try.underlying22 rfl rfl rfl) rfl ?_
    refine Lx.y (mv rfl) rfl ?_
    refine Lx.y (mv rfl) rfl ?_
    refine Lx.y (ia Try.underlying22 sz9 rfl rfl (Int.toNat_natCast _) (by omega) (by omega)) rfl ?_
    refine Lx.st (stO Try.underlying9 sz9 rfl rfl rfl (by rw [List.length_append, List.length_map]; omega) (frc_gen _ _)) ?_
    refine Lx.nil ?_
    refine Xx.tn (k6 _ _ _ _ ?_)
    refine Cx.seq (fun K7 k7 => ?_)
    refine Xx.closeT bV ((vs.set (lb ks k) v).map str) sp 1 vs.length cv (set_str (by omega)) (by simp) hvc (by rw [List.length_append, List.length_map, List.length_set]; rw [List.length_append, List.length_map] at hvcl; exact hvcl) ?_
    refine Cx.region ?_
    refine Lx.y (asg rfl) rfl ?_
    refine Lx.nil ?_
    refine Xx.tn (k7 _ _ _ _ ?_)
    refine Cx.ret ?_
    refine Xx.tr ?_
    exact Xx.ret1 rfl rfl ⟨rfl, .mk b Ak ck (some ⟨bV, 0, none⟩) cv Ac cc ks (vs.set (lb ks k) v) cs, rfl, rfl, put_found hok ho hsk hin hlt hat⟩ (Frag.le_refl _) (by rw [tr_succ]; simp only [nrow, kbuf, vbuf, cbuf, ncells, C.b, C.Ak, C.ck, C.Av, C.cv, C.Ac, C.cc, C.ks, C.vs, C.cs, List.length_set]; ac_rfl)
  · skip
    have hin : k ∉ ks := of_decide_eq_false h5
    refine Cx.skip ?_
    refine Xx.tn (k3 _ _ _ _ ?_)
    refine Cx.seq (fun K8 k8 => ?_)
    refine Cx.seq (fun K9 k9 => ?_)
    refine Cx.region ?_
    refine Lx.y (mv rfl) rfl ?_
    refine Lx.y (nilc rfl) rfl ?_
    refine Lx.y (fa' fo70_2 rfl) rfl ?_
    refine Lx.y (ld Try.underlying68 rfl rfl rfl) rfl ?_
    refine Lx.y (lenV (ty' := 0) Try.underlying68 rfl) rfl ?_
    refine Lx.y (eqI rfl rfl) rfl ?_
    refine Lx.nil ?_
    refine Xx.tn (k9 _ _ _ _ ?_)
    refine Cx.condD rfl (fun h10 => ?_) (fun h10 => ?_)
    · skip
      have hz := h10
      have hc0 : cs = [] := List.length_eq_zero_iff.1 (by omega)
      subst hc0
      have hm1 : (ks.take (lb ks k) ++ [k] ++ ks.drop (lb ks k)).length = ks.length + 1 := by simp; omega
      have hm2 : (vs.take (lb ks k) ++ [v] ++ vs.drop (lb ks k)).length = vs.length + 1 := by simp; omega
      refine Cx.seq (fun K11 k11 => ?_)
      refine Cx.drawn (by kernel_rfl) ?_
      refine Dx.p (i := 0) rfl (by kernel_rfl) (mv rfl) rfl ?_
      refine Dx.p (i := 1) rfl (by kernel_rfl) (mv rfl) rfl ?_
      refine Dx.p (i := 2) rfl (by kernel_rfl) (mv rfl) rfl ?_
      refine Dx.p (i := 3) rfl (by kernel_rfl) (nilc rfl) rfl ?_
      refine Dx.p (i := 4) rfl (by kernel_rfl) (fa' fo70_0 rfl) rfl ?_
      refine Dx.r (i := 5) rfl (by kernel_rfl) (ld Try.underlying22 rfl rfl rfl) rfl ?_
      refine Dx.p (i := 6) rfl (by kernel_rfl) (mv rfl) rfl ?_
      refine Dx.p (i := 7) rfl (by kernel_rfl) (mv rfl) rfl ?_
      refine Dx.p (i := 10) rfl (by kernel_rfl) (mv rfl) rfl ?_
      refine Dx.p (i := 11) rfl (by kernel_rfl) (nilc rfl) rfl ?_
      refine Dx.p (i := 12) rfl (by kernel_rfl) (fa' fo70_1 rfl) rfl ?_
      refine Dx.r (i := 13) rfl (by kernel_rfl) (ld Try.underlying22 rfl rfl rfl) rfl ?_
      refine Dx.p (i := 14) rfl (by kernel_rfl) (mv rfl) rfl ?_
      refine Dx.p (i := 15) rfl (by kernel_rfl) (mv rfl) rfl ?_
      refine Dx.two (i := 8) (j := 16) (by kernel_rfl) ?_ ?_
      · skip
        refine Dstep.o (i := 8) rfl (bsl1 Try.underlying22 ti9 rfl rfl rfl (by decide)) rfl (fun v B' H' hΦ hB => ?_)
        obtain ⟨b68, rfl, rfl, rfl⟩ := hΦ; clear hB
        refine ⟨JOk.yes (JOk.yes (JOk.top) (ld Try.underlying22 rfl rfl rfl)) (ld Try.underlying22 rfl rfl rfl), ?_⟩
        refine Dx.two (i := 9) (j := 16) (by kernel_rfl) ?_ ?_
        · skip
          refine Dstep.o (i := 9) rfl (Ox.call rfl rfl rfl (InsS_ct Ak (lb ks k) ks.length ck (ks.map str) b68 9 [str k] _ (by omega) (by rw [List.length_map]; omega) (strs_all _) rfl rfl (by omega)) (pickSB _ _)) rfl (fun v B' H' hΦ hB => ?_)
          obtain ⟨_, rfl, hΦ⟩ := hΦ
          obtain ⟨Ak9, ck9, rfl, hBB, rfl, ⟨_, hAck9⟩, hck9⟩ := hΦ
          subst hBB
          rename Frag => B
          clear hB
          refine ⟨JOk.yes (JOk.edge (JOk.top) (by kernel_rfl)) (ld Try.underlying22 rfl rfl rfl), ?_⟩
          refine Dx.one (i := 16) (by kernel_rfl) ?_
          refine Dstep.o (i := 16) rfl (bsl1 Try.underlying22 ti9 rfl rfl rfl (by decide)) rfl (fun v B' H' hΦ hB => ?_)
          obtain ⟨b616, rfl, rfl, rfl⟩ := hΦ; clear hB
          refine ⟨JOk.yes (JOk.yes (JOk.top) (ld Try.underlying22 rfl rfl rfl)) (ld Try.underlying22 rfl rfl rfl), ?_⟩
          refine Dx.one (i := 17) (by kernel_rfl) ?_
          refine Dstep.o (i := 17) rfl (Ox.call rfl rfl rfl (InsS_ct Av (lb ks k) vs.length cv (vs.map str) b616 9 [str v] _ (by omega) (by rw [List.length_map]; omega) (strs_all _) rfl rfl (by omega)) (pickSB _ _)) rfl (fun v B' H' hΦ hB => ?_)
          obtain ⟨_, rfl, hΦ⟩ := hΦ
          obtain ⟨Av9, cv9, rfl, hBB, rfl, ⟨_, hAcv9⟩, hcv9⟩ := hΦ
          subst hBB
          rename Frag => B
          clear hB
          refine ⟨JOk.edge (JOk.yes (JOk.top) (ld Try.underlying22 rfl rfl rfl)) (by kernel_rfl), ?_⟩
          refine Dx.p (i := 18) rfl (by kernel_rfl) (nilc rfl) rfl ?_
          refine Dx.p (i := 19) rfl (by kernel_rfl) (fa' fo70_0 rfl) rfl ?_
          refine Dx.one (i := 20) (by kernel_rfl) ?_
          refine Dstep.o0 (i := 20) rfl (stO Try.underlying22 sz22 rfl rfl rfl (by simp) rfl) (fun v B' H' hΦ hB => ?_)
          obtain ⟨rfl, rfl⟩ := hΦ; clear hB v
          refine ⟨JOk.edge (JOk.edge (JOk.top) (by kernel_rfl)) (by kernel_rfl), ?_⟩
          refine Dx.p (i := 21) rfl (by kernel_rfl) (nilc rfl) rfl ?_
          refine Dx.p (i := 22) rfl (by kernel_rfl) (fa' fo70_1 rfl) rfl ?_
          refine Dx.one (i := 23) (by kernel_rfl) ?_
          refine Dstep.o0 (i := 23) rfl (stO Try.underlying22 sz22 rfl rfl rfl (by simp) rfl) (fun v B' H' hΦ hB => ?_)
          obtain ⟨rfl, rfl⟩ := hΦ; clear hB v
          refine ⟨JOk.edge (JOk.edge (JOk.top) (by kernel_rfl)) (by kernel_rfl), ?_⟩
          refine Dx.done (by kernel_rfl) ?_
          refine Xx.tn (k11 _ _ _ _ ?_)
          refine Cx.seq (fun K12 k12 => ?_)
          refine Cx.region ?_
          refine Lx.y (asg rfl) rfl ?_
          refine Lx.nil ?_
          refine Xx.tn (k12 _ _ _ _ ?_)
          refine Cx.ret ?_
          refine Xx.tr ?_
          exact Xx.ret1 rfl rfl ⟨rfl, .mk b Ak9 ck9 Av9 cv9 Ac cc (ks.take (lb ks k) ++ [k] ++ ks.drop (lb ks k)) (vs.take (lb ks k) ++ [v] ++ vs.drop (lb ks k)) [], rfl, rfl, put_leaf hok hsk hin (hl7 rfl)⟩ (Frag.le_refl _) (by rw [tr_succ]; simp only [nrow, kbuf, vbuf, cbuf, ncells, C.b, C.Ak, C.ck, C.Av, C.cv, C.Ac, C.cc, C.ks, C.vs, C.cs, hm1, hm2]; simp only [List.map_append, List.map_take, List.map_drop, List.map_cons, List.map_nil, Nat.mul_one]; ac_rfl)
        refine Dstep.o (i := 16) rfl (bsl1 Try.underlying22 ti9 rfl rfl rfl (by decide)) rfl (fun v B' H' hΦ hB => ?_)
        obtain ⟨b616, rfl, rfl, rfl⟩ := hΦ; clear hB
        refine ⟨JOk.yes (JOk.yes (JOk.top) (ld Try.underlying22 rfl rfl rfl)) (ld Try.underlying22 rfl rfl rfl), ?_⟩
        refine Dx.one (i := 9) (by kernel_rfl) ?_
        refine Dstep.o (i := 9) rfl (Ox.call rfl rfl rfl (InsS_ct Ak (lb ks k) ks.length ck (ks.map str) b68 9 [str k] _ (by omega) (by rw [List.length_map]; omega) (strs_all _) rfl rfl (by omega)) (pickSB _ _)) rfl (fun v B' H' hΦ hB => ?_)
        obtain ⟨_, rfl, hΦ⟩ := hΦ
        obtain ⟨Ak9, ck9, rfl, hBB, rfl, ⟨_, hAck9⟩, hck9⟩ := hΦ
        subst hBB
        rename Frag => B
        clear hB
        refine ⟨JOk.yes (JOk.edge (JOk.top) (by kernel_rfl)) (ld Try.underlying22 rfl rfl rfl), ?_⟩
        refine Dx.one (i := 17) (by kernel_rfl) ?_
        refine Dstep.o (i := 17) rfl (Ox.call rfl rfl rfl (InsS_ct Av (lb ks k) vs.length cv (vs.map str) b616 9 [str v] _ (by omega) (by rw [List.length_map]; omega) (strs_all _) rfl rfl (by omega)) (pickSB _ _)) rfl (fun v B' H' hΦ hB => ?_)
        obtain ⟨_, rfl, hΦ⟩ := hΦ
        obtain ⟨Av9, cv9, rfl, hBB, rfl, ⟨_, hAcv9⟩, hcv9⟩ := hΦ
        subst hBB
        rename Frag => B
        clear hB
        refine ⟨JOk.edge (JOk.yes (JOk.top) (ld Try.underlying22 rfl rfl rfl)) (by kernel_rfl), ?_⟩
        refine Dx.p (i := 18) rfl (by kernel_rfl) (nilc rfl) rfl ?_
        refine Dx.p (i := 19) rfl (by kernel_rfl) (fa' fo70_0 rfl) rfl ?_
        refine Dx.one (i := 20) (by kernel_rfl) ?_
        refine Dstep.o0 (i := 20) rfl (stO Try.underlying22 sz22 rfl rfl rfl (by simp) rfl) (fun v B' H' hΦ hB => ?_)
        obtain ⟨rfl, rfl⟩ := hΦ; clear hB v
        refine ⟨JOk.edge (JOk.edge (JOk.top) (by kernel_rfl)) (by kernel_rfl), ?_⟩
        refine Dx.p (i := 21) rfl (by kernel_rfl) (nilc rfl) rfl ?_
        refine Dx.p (i := 22) rfl (by kernel_rfl) (fa' fo70_1 rfl) rfl ?_
        refine Dx.one (i := 23) (by kernel_rfl) ?_
        refine Dstep.o0 (i := 23) rfl (stO Try.underlying22 sz22 rfl rfl rfl (by simp) rfl) (fun v B' H' hΦ hB => ?_)
        obtain ⟨rfl, rfl⟩ := hΦ; clear hB v
        refine ⟨JOk.edge (JOk.edge (JOk.top) (by kernel_rfl)) (by kernel_rfl), ?_⟩
        refine Dx.done (by kernel_rfl) ?_
        refine Xx.tn (k11 _ _ _ _ ?_)
        refine Cx.seq (fun K13 k13 => ?_)
        refine Cx.region ?_
        refine Lx.y (asg rfl) rfl ?_
        refine Lx.nil ?_
        refine Xx.tn (k13 _ _ _ _ ?_)
        refine Cx.ret ?_
        refine Xx.tr ?_
        exact Xx.ret1 rfl rfl ⟨rfl, .mk b Ak9 ck9 Av9 cv9 Ac cc (ks.take (lb ks k) ++ [k] ++ ks.drop (lb ks k)) (vs.take (lb ks k) ++ [v] ++ vs.drop (lb ks k)) [], rfl, rfl, put_leaf hok hsk hin (hl7 rfl)⟩ (Frag.le_refl _) (by rw [tr_succ]; simp only [nrow, kbuf, vbuf, cbuf, ncells, C.b, C.Ak, C.ck, C.Av, C.cv, C.Ac, C.cc, C.ks, C.vs, C.cs, hm1, hm2]; simp only [List.map_append, List.map_take, List.map_drop, List.map_cons, List.map_nil, Nat.mul_one]; ac_rfl)
      refine Dstep.o (i := 16) rfl (bsl1 Try.underlying22 ti9 rfl rfl rfl (by decide)) rfl (fun v B' H' hΦ hB => ?_)
      obtain ⟨b616, rfl, rfl, rfl⟩ := hΦ; clear hB
      refine ⟨JOk.yes (JOk.yes (JOk.top) (ld Try.underlying22 rfl rfl rfl)) (ld Try.underlying22 rfl rfl rfl), ?_⟩
      refine Dx.one (i := 8) (by kernel_rfl) ?_
      refine Dstep.o (i := 8) rfl (bsl1 Try.underlying22 ti9 rfl rfl rfl (by decide)) rfl (fun v B' H' hΦ hB => ?_)
      obtain ⟨b68, rfl, rfl, rfl⟩ := hΦ; clear hB
      refine ⟨JOk.yes (JOk.yes (JOk.top) (ld Try.underlying22 rfl rfl rfl)) (ld Try.underlying22 rfl rfl rfl), ?_⟩
      refine Dx.one (i := 9) (by kernel_rfl) ?_
      refine Dstep.o (i := 9) rfl (Ox.call rfl rfl rfl (InsS_ct Ak (lb ks k) ks.length ck (ks.map str) b68 9 [str k] _ (by omega) (by rw [List.length_map]; omega) (strs_all _) rfl rfl (by omega)) (pickSB _ _)) rfl (fun v B' H' hΦ hB => ?_)
      obtain ⟨_, rfl, hΦ⟩ := hΦ
      obtain ⟨Ak9, ck9, rfl, hBB, rfl, ⟨_, hAck9⟩, hck9⟩ := hΦ
      subst hBB
      rename Frag => B
      clear hB
      refine ⟨JOk.yes (JOk.edge (JOk.top) (by kernel_rfl)) (ld Try.underlying22 rfl rfl rfl), ?_⟩
      refine Dx.one (i := 17) (by kernel_rfl) ?_
      refine Dstep.o (i := 17) rfl (Ox.call rfl rfl rfl (InsS_ct Av (lb ks k) vs.length cv (vs.map str) b616 9 [str v] _ (by omega) (by rw [List.length_map]; omega) (strs_all _) rfl rfl (by omega)) (pickSB _ _)) rfl (fun v B' H' hΦ hB => ?_)
      obtain ⟨_, rfl, hΦ⟩ := hΦ
      obtain ⟨Av9, cv9, rfl, hBB, rfl, ⟨_, hAcv9⟩, hcv9⟩ := hΦ
      subst hBB
      rename Frag => B
      clear hB
      refine ⟨JOk.edge (JOk.yes (JOk.top) (ld Try.underlying22 rfl rfl rfl)) (by kernel_rfl), ?_⟩
      refine Dx.p (i := 18) rfl (by kernel_rfl) (nilc rfl) rfl ?_
      refine Dx.p (i := 19) rfl (by kernel_rfl) (fa' fo70_0 rfl) rfl ?_
      refine Dx.one (i := 20) (by kernel_rfl) ?_
      refine Dstep.o0 (i := 20) rfl (stO Try.underlying22 sz22 rfl rfl rfl (by simp) rfl) (fun v B' H' hΦ hB => ?_)
      obtain ⟨rfl, rfl⟩ := hΦ; clear hB v
      refine ⟨JOk.edge (JOk.edge (JOk.top) (by kernel_rfl)) (by kernel_rfl), ?_⟩
      refine Dx.p (i := 21) rfl (by kernel_rfl) (nilc rfl) rfl ?_
      refine Dx.p (i := 22) rfl (by kernel_rfl) (fa' fo70_1 rfl) rfl ?_
      refine Dx.one (i := 23) (by kernel_rfl) ?_
      refine Dstep.o0 (i := 23) rfl (stO Try.underlying22 sz22 rfl rfl rfl (by simp) rfl) (fun v B' H' hΦ hB => ?_)
      obtain ⟨rfl, rfl⟩ := hΦ; clear hB v
      refine ⟨JOk.edge (JOk.edge (JOk.top) (by kernel_rfl)) (by kernel_rfl), ?_⟩
      refine Dx.done (by kernel_rfl) ?_
      refine Xx.tn (k11 _ _ _ _ ?_)
      refine Cx.seq (fun K14 k14 => ?_)
      refine Cx.region ?_
      refine Lx.y (asg rfl) rfl ?_
      refine Lx.nil ?_
      refine Xx.tn (k14 _ _ _ _ ?_)
      refine Cx.ret ?_
      refine Xx.tr ?_
      exact Xx.ret1 rfl rfl ⟨rfl, .mk b Ak9 ck9 Av9 cv9 Ac cc (ks.take (lb ks k) ++ [k] ++ ks.drop (lb ks k)) (vs.take (lb ks k) ++ [v] ++ vs.drop (lb ks k)) [], rfl, rfl, put_leaf hok hsk hin (hl7 rfl)⟩ (Frag.le_refl _) (by rw [tr_succ]; simp only [nrow, kbuf, vbuf, cbuf, ncells, C.b, C.Ak, C.ck, C.Av, C.cv, C.Ac, C.cc, C.ks, C.vs, C.cs, hm1, hm2]; simp only [List.map_append, List.map_take, List.map_drop, List.map_cons, List.map_nil, Nat.mul_one]; ac_rfl)
    · skip
      have hz := h10
      have hcl2 : cs.length = ks.length + 1 := by rcases hcl with h | h; rw [h] at hz; simp at hz; exact h
      have hci : lb ks k < cs.length := by omega
      obtain ⟨d, rfl⟩ : ∃ d2, d = d2 + 1 := ⟨d - 1, by have hkk := hok.2.2.2 _ (List.getElem_mem hci); cases d with | zero => exact hkk.elim | succ d => rfl⟩
      refine Cx.skip ?_
      refine Xx.tn (k8 _ _ _ _ ?_)
      refine Cx.seq (fun K15 k15 => ?_)
      refine Cx.seq (fun K16 k16 => ?_)
      refine Xx.addrT Ac (by omega) (fun bC hAc hcx hcc => ?_)
      subst hAc
      refine Cx.region ?_
      refine Lx.y (mv rfl) rfl ?_
      refine Lx.y (nilc rfl) rfl ?_
      refine Lx.y (fa' fo70_2 rfl) rfl ?_
      refine Lx.y (ld Try.underlying68 rfl rfl rfl) rfl ?_
      refine Lx.y (mv rfl) rfl ?_
      refine Lx.y (ia Try.underlying68 sz67 rfl rfl (by first | exact Int.toNat_natCast _ | rfl) (by omega) (by omega)) rfl ?_
      refine Lx.y (ldC Try.underlying67 rfl rfl (Cells.buf (m := 1) (kid_at hci) (by rw [List.length_map]; omega))) rfl ?_
      refine Lx.y (nilc rfl) rfl ?_
      refine Lx.y (fa' fo70_0 rfl) rfl ?_
      refine Lx.y (ldC Try.underlying22 rfl rfl (under (under (under (under (kid_keys hci)))))) rfl ?_
      refine Lx.y (lenV (ty' := 0) Try.underlying22 rfl) rfl ?_
      refine Lx.y (eqI rfl rfl) rfl ?_
      refine Lx.nil ?_
      refine Xx.tn (k16 _ _ _ _ ?_)
      refine Cx.condD rfl (fun h17 => ?_) (fun h17 => ?_)
      · skip
        have h7k := h17
        have h7k : cs[lb ks k].ks.length = 7 := by omega
        refine Cx.seq (fun K18 k18 => ?_)
        refine Cx.region ?_
        refine Lx.y (mv rfl) rfl ?_
        refine Lx.y (mv rfl) rfl ?_
        refine Lx.c rfl rfl rfl (halve_ct N hN d (.mk b Ak ck Av cv (some ⟨bC, 0, none⟩) cc ks vs cs) (lb ks k) hci hok h7k _) (fold_tr) rfl ?_
        rintro v1 B1 H1 ⟨rfl, hBB, c2, rfl, hh⟩ hB1
        subst hBB
        rename Frag => B
        clear hB1
        refine Lx.nil ?_
        refine Xx.tn (k18 _ _ _ _ ?_)
        refine Cx.seq (fun K19 k19 => ?_)
        refine Cx.region ?_
        refine Lx.y (mv rfl) rfl ?_
        refine Lx.y (mv rfl) rfl ?_
        refine Lx.y (mv rfl) rfl ?_
        refine Lx.c rfl rfl rfl (again hci hin h7k c2 hh) (rfl) rfl ?_
        rintro v1 B1 H1 hq hB1
        refine Lx.y (asg rfl) rfl ?_
        refine Lx.nil ?_
        refine Xx.tn (k19 _ _ _ _ ?_)
        refine Cx.ret ?_
        refine Xx.tr ?_
        exact Xx.ret1 rfl rfl hq hB1 rfl
      · skip
        have h7k := h17
        have h7k : cs[lb ks k].ks.length ≠ 7 := by omega
        refine Cx.skip ?_
        refine Xx.tn (k15 _ _ _ _ ?_)
        refine Cx.seq (fun K20 k20 => ?_)
        refine Cx.region ?_
        refine Lx.y (mv rfl) rfl ?_
        refine Lx.y (nilc rfl) rfl ?_
        refine Lx.y (fa' fo70_2 rfl) rfl ?_
        refine Lx.y (ld Try.underlying68 rfl rfl rfl) rfl ?_
        refine Lx.y (mv rfl) rfl ?_
        refine Lx.y (ia Try.underlying68 sz67 rfl rfl (by first | exact Int.toNat_natCast _ | rfl) (by omega) (by omega)) rfl ?_
        refine Lx.y (ldC Try.underlying67 rfl rfl (Cells.buf (m := 1) (kid_at hci) (by rw [List.length_map]; omega))) rfl ?_
        refine Lx.y (mv rfl) rfl ?_
        refine Lx.y (mv rfl) rfl ?_
        obtain ⟨d2, hd2, hput⟩ := ih hci hin h7k
        obtain rfl : d2 = d := by omega
        refine Lx.c rfl rfl rfl (hput) (fold_kid hci) rfl ?_
        rintro v1 B1 H1 ⟨hBB, kid2, rfl, hkb, hkr⟩ hB1
        subst hBB
        rename Frag => B
        clear hB1
        refine Lx.y (asg rfl) rfl ?_
        refine Lx.nil ?_
        refine Xx.tn (k20 _ _ _ _ ?_)
        refine Cx.ret ?_
        exact Xx.ret1 rfl rfl ⟨rfl, .mk b Ak ck Av cv (some ⟨bC, 0, none⟩) cc ks vs (cs.set (lb ks k) kid2), rfl, rfl, put_deep hok ho hin hci hcl2 hkr⟩ (Frag.le_refl _) (by rw [← fold_tr, trs_set _ hci, pts_set hkb, List.length_set]; ac_rfl)
end BtF
end Go.Proofs.Ytcoiejmlpinpbaa
