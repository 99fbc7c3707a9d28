/-
  A set of looks: one more, all of them, a clone, what hits it.
-/
import Derived.Test.YtfnfkoldifpmhaaDoorProg
import Derived.Test.YtfnfkoldifpmhaaDoorSlj
import Derived.Test.YtfnfkoldifpmhaaDoorRgJ
namespace Go.Proofs.YtfnfkoldifpmhaaDoor
open Go.SL Go.RowKit
set_option linter.unusedVariables false
set_option linter.unusedSimpArgs false
set_option maxRecDepth 100000
open Ke1 Ke3 Ke4 Ke5 Ke6 Ke7 Ke8 Ke9 KeA KeB KeC KeD KeE KeF KeG KeI RgA RgB RgC RgD RgE RgG RgI RgJ
namespace RgK
theorem sz26 : (Tryd.prog.info? 26).map (·.size) = some 6 := by kernel_rfl
theorem sz30 : (Tryd.prog.info? 30).map (·.size) = some 16 := by kernel_rfl
theorem sz34 : (Tryd.prog.info? 34).map (·.size) = some 2 := by kernel_rfl
theorem sz36 : (Tryd.prog.info? 36).map (·.size) = some 4 := by kernel_rfl
theorem sz42 : (Tryd.prog.info? 42).map (·.size) = some 1 := by kernel_rfl
theorem ti30 : TI Tryd.prog 30 [str [], .bool false, .int .i64 0, .bool false, .int .i64 0, str [], .slice none 0 0, .slice none 0 0, .int .i64 0, .bool false, .int .i64 0, str [], .slice none 0 0, .slice none 0 0, .bool false, .bool false] 16 208 := TI.of (by kernel_rfl) rfl rfl
theorem ti36 : TI Tryd.prog 36 [str [], str [], str [], str []] 4 64 := TI.of (by kernel_rfl) rfl rfl
theorem ti52 : TI Tryd.prog 52 [.slice none 0 0] 1 24 := TI.of (by kernel_rfl) rfl rfl
theorem fo36_0 : FO Tryd.prog 36 0 0 1 false := FO.of Tryd.underlying36 rfl rfl (by kernel_rfl) Tryd.underlying9 rfl rfl
theorem fo36_1 : FO Tryd.prog 36 1 1 1 false := FO.of Tryd.underlying36 rfl rfl (by kernel_rfl) Tryd.underlying9 rfl rfl
theorem fo52_0 : FO Tryd.prog 52 0 0 1 false := FO.of Tryd.underlying52 rfl rfl (by kernel_rfl) Tryd.underlying42 rfl rfl
theorem pl52 : PL Tryd.prog 52 [(0, 1)] := PL.of Tryd.underlying52 (by kernel_rfl)

def addS (m : List Rd) (r : Rd) : List Rd := if m.any (knownB r) = true then m else if r.f = [] then m.filter (fun x => !decide (x.t = r.t)) ++ [⟨r.t, [], [], []⟩] else m ++ [r]
theorem addS_len (m : List Rd) (r : Rd) : (addS m r).length ≤ m.length + 1 := by
  unfold addS
  have := List.length_filter_le (fun x => !decide (x.t = r.t)) m
  split
  · omega
  · split <;> simp only [List.length_append, List.length_cons, List.length_nil] <;> omega
theorem flat_one (m : List Rd) : (m.flatMap rcs).all (·.oneCell') = true := by
  rw [List.all_eq_true]
  intro v hv
  obtain ⟨x, _, hx⟩ := List.mem_flatMap.1 hv
  exact List.all_eq_true.1 (rcs_one x) v hx

set_option maxHeartbeats 2000000 in
theorem Add_ct (m : List Rd) (r : Rd) (A : Option Addr) (c bs : Nat) (B : Frag) (hn : m.length ≤ 900) : Ct Tryd.prog 14 [.pointer (some ⟨bs, 0, none⟩), .agg (rcs r).toArray] B (row bs 52 [.slice A m.length c] * sbuf 36 4 A m.length c (m.flatMap rcs)) (fun v B' H' => B' = B ∧ v = .bool (!m.any (knownB r)) ∧ ∃ A' c', H' = row bs 52 [.slice A' (addS m r).length c'] * sbuf 36 4 A' (addS m r).length c' ((addS m r).flatMap rcs)) := by
  refine Ct.of_body Tryd.func14 rfl (nt := 42) rfl (by kernel_rfl) rfl ?_
  intro N0 w0 R
  simp only [star_assoc]
  refine Cx.seq (fun K1 k1 => ?_)
  refine Cx.region ?_
  refine Lx.new (boxA rfl) rfl (fun b3 => ?_)
  refine Lx.y (asg rfl) rfl ?_
  refine Lx.nil ?_
  refine Xx.tn (k1 _ _ _ _ ?_)
  refine Cx.seq (fun K2 k2 => ?_)
  refine Cx.region ?_
  refine Lx.y (mkf rfl rfl) rfl ?_
  refine Lx.y (asg rfl) rfl ?_
  refine Lx.nil ?_
  refine Xx.tn (k2 _ _ _ _ ?_)
  refine Cx.seq (fun K3 k3 => ?_)
  refine Cx.seq (fun K4 k4 => ?_)
  refine Cx.region ?_
  refine Lx.y (mv rfl) rfl ?_
  refine Lx.y (Yx.ff (eqNilP Tryd.underlying31 rfl rfl) rfl) rfl ?_
  refine Lx.y (mv rfl) rfl ?_
  refine Lx.gT rfl rfl rfl ?_
  refine Lx.y (mv rfl) rfl ?_
  refine Lx.gT rfl rfl rfl ?_
  refine Lx.y (nilc rfl) rfl ?_
  refine Lx.gT rfl rfl rfl ?_
  refine Lx.y (fa' fo52_0 rfl) rfl ?_
  refine Lx.gT rfl rfl rfl ?_
  refine Lx.y (ld Tryd.underlying42 rfl rfl rfl) rfl ?_
  refine Lx.gT rfl rfl rfl ?_
  refine Lx.y (mv rfl) rfl ?_
  have hcf := CFo m (knownB r) A c 29 [.pointer (some ⟨b3, 0, none⟩)] (row b3 36 (rcs r)) B (by omega) (fun B x _ => Known_ct r x b3 B)
  refine Lx.gT rfl rfl rfl ?_
  refine Lx.co rfl rfl rfl (hcf) (pickSB _ b3) rfl ?_
  simp only [star_assoc]
  refine Lx.y (pickF rfl rfl) rfl ?_
  refine Lx.nil ?_
  refine Xx.tn (k4 _ _ _ _ ?_)
  refine Cx.condB rfl (fun h5 => ?_) (fun h5 => ?_)
  · skip
    have hkn := h5
    refine Cx.seq (fun K6 k6 => ?_)
    refine Cx.region ?_
    refine Lx.y (asg rfl) rfl ?_
    refine Lx.nil ?_
    refine Xx.tn (k6 _ _ _ _ ?_)
    refine Cx.ret ?_
    refine Xx.tr ?_
    refine Xx.dropB b3 ?_
    exact Xx.ret1 rfl rfl ⟨rfl, by rw [hkn]; rfl, A, c, rfl⟩ (Frag.le_refl _) (by unfold addS; rw [if_pos hkn]; ac_rfl)
  · skip
    have hkn := h5
    refine Cx.skip ?_
    refine Xx.tn (k3 _ _ _ _ ?_)
    refine Cx.cutK (ds' := []) (Sub.cons (s := 0) rfl (Sub.cons (s := 1) rfl (Sub.cons (s := 3) rfl (Sub.cons (s := 4) rfl (Sub.cons (s := 5) rfl (Sub.cons (s := 6) rfl (Sub.cons (s := 7) rfl (Sub.cons (s := 8) rfl (Sub.cons (s := 9) rfl (Sub.cons (s := 10) rfl (Sub.cons (s := 11) rfl (Sub.cons (s := 12) rfl (Sub.cons (s := 13) rfl (Sub.cons (s := 14) rfl (Sub.cons (s := 15) rfl (Sub.cons (s := 16) rfl (Sub.nil _))))))))))))))))) (fun ρ' B' H' => ∃ m2 r2 c2, ρ' = [] ∧ B = B' ∧ row b3 36 (rcs r2) * (row bs 52 [.slice A m2.length c2] * (sbuf 36 4 A m2.length c2 (m2.flatMap rcs) * R)) = H' ∧ addS m r = m2 ++ [r2] ∧ m2.length ≤ 900) ?_ ?_
    · skip
      refine Cx.seq (fun K7 k7 => ?_)
      refine Cx.region ?_
      refine Lx.y (fa' fo36_1 rfl) rfl ?_
      refine Lx.y (ld Tryd.underlying9 rfl rfl rfl) rfl ?_
      refine Lx.y (eqS rfl rfl) rfl ?_
      refine Lx.nil ?_
      refine Xx.tn (k7 _ _ _ _ ?_)
      refine Cx.condD rfl (fun h8 => ?_) (fun h8 => ?_)
      · skip
        have hf := h8
        refine Cx.seq (fun K9 k9 => ?_)
        refine Cx.region ?_
        refine Lx.y (fa' fo36_0 rfl) rfl ?_
        refine Lx.y (ld Tryd.underlying9 rfl rfl rfl) rfl ?_
        refine Lx.cp rfl rfl rfl (Whole_ct _ _) rfl ?_
        refine Lx.st (stA (d := .bool) sz36 rfl rfl rfl rfl (by show 0 + 4 ≤ 4; omega) rfl) ?_
        refine Lx.nil ?_
        refine Xx.tn (k9 _ _ _ _ ?_)
        refine Cx.region ?_
        refine Lx.y (mv rfl) rfl ?_
        refine Lx.y (mv rfl) rfl ?_
        refine Lx.y (nilc rfl) rfl ?_
        refine Lx.y (fa' fo52_0 rfl) rfl ?_
        refine Lx.y (ld Tryd.underlying42 rfl rfl rfl) rfl ?_
        refine Lx.y (mkf rfl rfl) rfl ?_
        have hdel := Del_ct m (fun x => decide (x.t = r.t)) A c 32 [.pointer (some ⟨b3, 0, none⟩)] (row b3 36 (rcs ⟨r.t, [], [], []⟩)) B (by omega) (fun B x _ => SameT_ct ⟨r.t, [], [], []⟩ x b3 B)
        refine Lx.c rfl rfl rfl (hdel) ((show _ = (sbuf 36 4 A m.length c (m.flatMap rcs) * row b3 36 (rcs ⟨r.t, [], [], []⟩)) * (row bs 52 [.slice A m.length c] * R) by ac_rfl)) rfl ?_
        rintro v9 B9 H9 ⟨hBB, rfl, rfl⟩ hB9
        have hBB2 := hBB.symm
        subst hBB2
        clear hB9
        simp only [star_assoc]
        refine Lx.y (nilc rfl) rfl ?_
        refine Lx.y (fa' fo52_0 rfl) rfl ?_
        refine Lx.st (stO Tryd.underlying42 sz42 rfl rfl rfl (by simp) rfl) ?_
        refine Lx.nil ?_
        exact Xx.mkK (⟨m.filter (fun x => !decide (x.t = r.t)), ⟨r.t, [], [], []⟩, c, rfl, rfl, by ac_rfl, by unfold addS; rw [if_neg (by rw [hkn]; decide), if_pos hf], Nat.le_trans (List.length_filter_le _ _) hn⟩) (Sub.cons (s := 0) rfl (Sub.cons (s := 1) rfl (Sub.cons (s := 3) rfl (Sub.cons (s := 4) rfl (Sub.cons (s := 5) rfl (Sub.cons (s := 6) rfl (Sub.cons (s := 7) rfl (Sub.cons (s := 8) rfl (Sub.cons (s := 9) rfl (Sub.cons (s := 10) rfl (Sub.cons (s := 11) rfl (Sub.cons (s := 12) rfl (Sub.cons (s := 13) rfl (Sub.cons (s := 14) rfl (Sub.cons (s := 15) rfl (Sub.cons (s := 16) rfl (Sub.nil _)))))))))))))))))
      · skip
        have hf := h8
        refine Cx.skip ?_
        exact Xx.mkK (⟨m, r, c, rfl, rfl, by ac_rfl, by unfold addS; rw [if_neg (by rw [hkn]; decide), if_neg hf], hn⟩) (Sub.cons (s := 0) rfl (Sub.cons (s := 1) rfl (Sub.cons (s := 3) rfl (Sub.cons (s := 4) rfl (Sub.cons (s := 5) rfl (Sub.cons (s := 6) rfl (Sub.cons (s := 7) rfl (Sub.cons (s := 8) rfl (Sub.cons (s := 9) rfl (Sub.cons (s := 10) rfl (Sub.cons (s := 11) rfl (Sub.cons (s := 12) rfl (Sub.cons (s := 13) rfl (Sub.cons (s := 14) rfl (Sub.cons (s := 15) rfl (Sub.cons (s := 16) rfl (Sub.nil _)))))))))))))))))
    · rintro ρ' B' H' ⟨m2, r2, c2, rfl, rfl, rfl, hadd, hm2⟩
      refine Cx.seq (fun K10 k10 => ?_)
      refine Cx.drawn (by kernel_rfl) ?_
      refine Dx.p (i := 0) rfl (by kernel_rfl) (mv rfl) rfl ?_
      refine Dx.p (i := 1) rfl (by kernel_rfl) (mv rfl) rfl ?_
      refine Dx.p (i := 2) rfl (by kernel_rfl) (nilc rfl) rfl ?_
      refine Dx.p (i := 3) rfl (by kernel_rfl) (fa' fo52_0 rfl) rfl ?_
      refine Dx.r (i := 4) rfl (by kernel_rfl) (ld Tryd.underlying42 rfl rfl rfl) rfl ?_
      refine Dx.r (i := 5) rfl (by kernel_rfl) (ldA Tryd.underlying36 rfl sz36 rfl (Cells.own (n := 4) PickB.eq rfl) rfl) rfl ?_
      refine Dx.one (i := 6) (by kernel_rfl) ?_
      refine Dstep.o (i := 6) rfl (bslA Tryd.underlying42 ti36 rfl rfl (by decide)) rfl (fun v B' H' hΦ hB => ?_)
      obtain ⟨bp, rfl, rfl, rfl⟩ := hΦ; clear hB
      refine ⟨JOk.edge (JOk.yes (JOk.top) (ld Tryd.underlying42 rfl rfl rfl)) (by kernel_rfl), ?_⟩
      refine Dx.one (i := 7) (by kernel_rfl) ?_
      refine Dstep.o (i := 7) rfl (appN (A := A) (m2.length + 1) (rcs r2) ((m2 ++ [r2]).flatMap rcs) Tryd.underlying42 Tryd.underlying42 ti36 rfl rfl rfl rfl rfl (by omega) (by omega) rfl (by simp)) rfl (fun v B' H' hΦ hB => ?_)
      obtain ⟨A2, c3, rfl, hA2, hl2, hc2, hBB, rfl⟩ := hΦ
      have hBB2 := hBB.symm
      subst hBB2
      refine ⟨JOk.yes (JOk.edge (JOk.top) (by kernel_rfl)) (ldA Tryd.underlying36 rfl sz36 rfl (Cells.own (n := 4) PickB.eq rfl) rfl), ?_⟩
      refine Dx.p (i := 8) rfl (by kernel_rfl) (nilc rfl) rfl ?_
      refine Dx.p (i := 9) rfl (by kernel_rfl) (fa' fo52_0 rfl) rfl ?_
      refine Dx.one (i := 10) (by kernel_rfl) ?_
      refine Dstep.o0 (i := 10) rfl (stO Tryd.underlying42 sz42 rfl rfl rfl (by simp) rfl) (fun v B' H' hΦ hB => ?_)
      obtain ⟨rfl, rfl⟩ := hΦ; clear hB v
      refine ⟨JOk.edge (JOk.edge (JOk.top) (by kernel_rfl)) (by kernel_rfl), ?_⟩
      refine Dx.done (by kernel_rfl) ?_
      refine Xx.tn (k10 _ _ _ _ ?_)
      refine Cx.seq (fun K11 k11 => ?_)
      refine Cx.region ?_
      refine Lx.y (asg rfl) rfl ?_
      refine Lx.nil ?_
      refine Xx.tn (k11 _ _ _ _ ?_)
      refine Cx.ret ?_
      refine Xx.dropB b3 (Xx.dropB bp ?_)
      exact Xx.ret1 rfl rfl ⟨rfl, by rw [hkn]; rfl, A2, c3, rfl⟩ (Frag.le_refl _) (by rw [hadd, List.length_append]; ac_rfl)

set_option maxHeartbeats 1000000 in
theorem CloneR_ct (m : List Rd) (A : Option Addr) (c : Nat) (B : Frag) (hR : RoS B 4 A m.length (m.flatMap rcs)) (hn : m.length ≤ 900) : CtB Tryd.prog 33 [.slice A m.length c] B (fun v B' => ∃ A' c', v = .slice A' m.length c' ∧ RoS B' 4 A' m.length (m.flatMap rcs)) := by
  refine CtB.of_body Tryd.func33 rfl (nt := 8) rfl (by kernel_rfl) rfl ?_
  intro N0 w0 R
  refine Cx.seq (fun K1 k1 => ?_)
  refine Cx.region ?_
  refine Lx.y (asg rfl) rfl ?_
  refine Lx.nil ?_
  refine Xx.tn (k1 _ _ _ _ ?_)
  refine Cx.seq (fun K2 k2 => ?_)
  refine Cx.seq (fun K3 k3 => ?_)
  refine Cx.region ?_
  refine Lx.y (mv rfl) rfl ?_
  refine Lx.y (eqNilV Tryd.underlying42 rfl rfl) rfl ?_
  refine Lx.nil ?_
  refine Xx.tn (k3 _ _ _ _ ?_)
  refine Cx.condB rfl (fun h4 => ?_) (fun h4 => ?_)
  · skip
    have hA0 : A = none := by cases A with | none => rfl | some a => exact absurd h4 (by simp)
    have hm0 : m = [] := by
      obtain ⟨_, h | ⟨b, o, cs, et, fz, h, _⟩⟩ := hR
      · exact List.length_eq_zero_iff.1 h.2
      · rw [hA0] at h; cases h
    refine Cx.seq (fun K5 k5 => ?_)
    refine Cx.region ?_
    refine Lx.y (asg rfl) rfl ?_
    refine Lx.nil ?_
    refine Xx.tn (k5 _ _ _ _ ?_)
    refine Cx.ret ?_
    refine Xx.tr ?_
    exact Xx.rB1 rfl rfl ⟨none, 0, by rw [hm0]; rfl, by rw [hm0]; exact RoS.nil _ _⟩ (Frag.le_refl _) rfl
  · skip
    refine Cx.skip ?_
    refine Xx.tn (k2 _ _ _ _ ?_)
    refine Cx.seq (fun K6 k6 => ?_)
    refine Cx.region ?_
    refine Lx.o (bslZ Tryd.underlying42 ti36) rfl (fun v B' H' hΦ hB => ?_)
    obtain ⟨b0, rfl, hBB, rfl⟩ := hΦ
    have hBB2 := hBB.symm
    subst hBB2
    clear hB
    refine Lx.y (mv rfl) rfl ?_
    refine Lx.o (appB (A := some ⟨b0, 0, none⟩) m.length (m.flatMap rcs) Tryd.underlying42 Tryd.underlying42 ti36 rfl rfl hR (flat_one m) (by omega) (by omega) (by omega) rfl) rfl (fun v B' H' hΦ hB => ?_)
    obtain ⟨A1, c1, rfl, hA1, hc1, hBB, rfl⟩ := hΦ
    have hBB2 := hBB.symm
    subst hBB2
    clear hB
    refine Lx.y (asg rfl) rfl ?_
    refine Lx.nil ?_
    refine Xx.tn (k6 _ _ _ _ ?_)
    refine Cx.ret ?_
    refine Xx.freezeT A1 fun B3 hB3 hRo hnc3 _ => ?_
    exact Xx.rB1 rfl rfl ⟨A1, c1, rfl, hRo⟩ hB3 rfl

set_option maxHeartbeats 1000000 in
theorem All_ct (m : List Rd) (A : Option Addr) (c bs : Nat) (fz : Nat × Nat) (B : Frag) (hb : B bs = some (.cells [.slice A m.length c].toArray 52 fz)) (hR : RoS B 4 A m.length (m.flatMap rcs)) (hn : m.length ≤ 900) : CtB Tryd.prog 16 [.pointer (some ⟨bs, 0, none⟩)] B (fun v B' => ∃ A' c', v = .slice A' m.length c' ∧ RoS B' 4 A' m.length (m.flatMap rcs)) := by
  refine CtB.of_body Tryd.func16 rfl (nt := 10) rfl (by kernel_rfl) rfl ?_
  intro N0 w0 R
  refine Cx.seq (fun K1 k1 => ?_)
  refine Cx.region ?_
  refine Lx.y (asg rfl) rfl ?_
  refine Lx.nil ?_
  refine Xx.tn (k1 _ _ _ _ ?_)
  refine Cx.seq (fun K2 k2 => ?_)
  refine Cx.seq (fun K3 k3 => ?_)
  refine Cx.region ?_
  refine Lx.y (mv rfl) rfl ?_
  refine Lx.y (Yx.ff (eqNilP Tryd.underlying31 rfl rfl) rfl) rfl ?_
  refine Lx.nil ?_
  refine Xx.tn (k3 _ _ _ _ ?_)
  refine Cx.condF rfl ?_
  refine Cx.skip ?_
  refine Xx.tn (k2 _ _ _ _ ?_)
  refine Cx.seq (fun K4 k4 => ?_)
  refine Cx.region ?_
  refine Lx.y (mv rfl) rfl ?_
  refine Lx.y (nilc rfl) rfl ?_
  refine Lx.y (fa' fo52_0 rfl) rfl ?_
  refine Lx.y (ldB Tryd.underlying42 rfl rfl hb rfl) rfl ?_
  refine Lx.cb rfl rfl rfl (CloneR_ct m A c _ hR hn) rfl ?_
  rintro v1 B1 ⟨A1, c1, rfl, hR1⟩ hB1
  refine Lx.y (asg rfl) rfl ?_
  refine Lx.nil ?_
  refine Xx.tn (k4 _ _ _ _ ?_)
  refine Cx.ret ?_
  exact Xx.rB1 rfl rfl ⟨A1, c1, rfl, hR1⟩ hB1 rfl

set_option maxHeartbeats 1000000 in
theorem Clone_ct (m : List Rd) (A : Option Addr) (c bs : Nat) (fz : Nat × Nat) (B : Frag) (hb : B bs = some (.cells [.slice A m.length c].toArray 52 fz)) (hR : RoS B 4 A m.length (m.flatMap rcs)) (hn : m.length ≤ 900) : CtB Tryd.prog 18 [.pointer (some ⟨bs, 0, none⟩)] B (fun v B' => ∃ b A' c', v = .pointer (some ⟨b, 0, none⟩) ∧ B' b = some (.cells [.slice A' m.length c'].toArray 52 (0, 0)) ∧ RoS B' 4 A' m.length (m.flatMap rcs)) := by
  refine CtB.of_body Tryd.func18 rfl (nt := 7) rfl (by kernel_rfl) rfl ?_
  intro N0 w0 R
  refine Cx.seq (fun K1 k1 => ?_)
  refine Cx.region ?_
  refine Lx.y (asg rfl) rfl ?_
  refine Lx.nil ?_
  refine Xx.tn (k1 _ _ _ _ ?_)
  refine Cx.seq (fun K2 k2 => ?_)
  refine Cx.region ?_
  refine Lx.y (mv rfl) rfl ?_
  refine Lx.cb rfl rfl rfl (All_ct m A c bs fz _ hb hR hn) rfl ?_
  rintro v1 B1 ⟨A1, c1, rfl, hR1⟩ hB1
  refine Lx.y (bld ti52 pl52 rfl rfl) rfl ?_
  refine Lx.new (boxA rfl) rfl (fun b6 => ?_)
  refine Lx.y (asg rfl) rfl ?_
  refine Lx.nil ?_
  refine Xx.tn (k2 _ _ _ _ ?_)
  refine Cx.ret ?_
  refine Xx.freezeB b6 fun B2 hB2 hb6 => ?_
  exact Xx.rB1 rfl rfl ⟨b6, A1, c1, rfl, hb6, hR1.mono hB2⟩ (Frag.le_trans hB1 hB2) rfl

set_option maxHeartbeats 1000000 in
theorem Hit2_ct (x : Rd) (t : Tc) (b : Nat) (B : Frag) (ho : GoodV B 7 t.vo (vcs t.vo t.A1 t.c1 t.N1 t.d1)) (hn : GoodV B 7 t.vn (vcs t.vn t.A2 t.c2 t.N2 t.d2)) (hM : MaxLenIn B) : CtC Tryd.prog 36 [.agg (tcc t).toArray, .pointer (some ⟨b, 0, none⟩)] B (row b 36 (rcs x)) (.bool ((fun t : Tc => hitsB 7 x t.tb t.sh t.vo t.vn t.was t.is) t)) (row b 36 (rcs x)) := by
  have hh := Hits_ct 7 x t.tb t.sh t.was t.is t.vo t.vn _ _ B ho hn hM
  refine Ct.of_body Tryd.func36 rfl (nt := 7) rfl (by kernel_rfl) rfl ?_
  intro N0 w0 R
  refine Cx.seq (fun K1 k1 => ?_)
  refine Cx.region ?_
  refine Lx.new (boxA rfl) rfl (fun b2 => ?_)
  refine Lx.y (asg rfl) rfl ?_
  refine Lx.nil ?_
  refine Xx.tn (k1 _ _ _ _ ?_)
  refine Cx.seq (fun K2 k2 => ?_)
  refine Cx.region ?_
  refine Lx.y (ldA Tryd.underlying36 rfl sz36 rfl (Cells.own (n := 4) PickB.eq rfl) rfl) rfl ?_
  refine Lx.y (ldA Tryd.underlying30 rfl sz30 rfl (Cells.own (n := 16) PickB.eq rfl) rfl) rfl ?_
  refine Lx.cp rfl rfl rfl (hh) rfl ?_
  refine Lx.y (asg rfl) rfl ?_
  refine Lx.nil ?_
  refine Xx.tn (k2 _ _ _ _ ?_)
  refine Cx.ret ?_
  exact Xx.dropB b2 (Xx.ret1 rfl rfl ⟨rfl, rfl, rfl⟩ (Frag.le_refl _) rfl)

set_option maxHeartbeats 1000000 in
theorem Hit1_ct (x : Rd) (ts : List Tc) (Al : Option Addr) (cl b : Nat) (B : Frag) (hR : RoS B 16 Al ts.length (ts.flatMap tcc)) (hn : ts.length ≤ 1000) (hG : ∀ t ∈ ts, GoodV B 7 t.vo (vcs t.vo t.A1 t.c1 t.N1 t.d1) ∧ GoodV B 7 t.vn (vcs t.vn t.A2 t.c2 t.N2 t.d2)) (hM : MaxLenIn B) : CtC Tryd.prog 34 [.agg (rcs x).toArray, .pointer (some ⟨b, 0, none⟩)] B (row b 45 [.slice Al ts.length cl]) (.bool ((fun x : Rd => ts.any (fun t : Tc => hitsB 7 x t.tb t.sh t.vo t.vn t.was t.is)) x)) (row b 45 [.slice Al ts.length cl]) := by
  refine Ct.of_body Tryd.func34 rfl (nt := 7) rfl (by kernel_rfl) rfl ?_
  intro N0 w0 R
  refine Cx.seq (fun K1 k1 => ?_)
  refine Cx.region ?_
  refine Lx.new (boxA rfl) rfl (fun b2 => ?_)
  refine Lx.y (asg rfl) rfl ?_
  refine Lx.nil ?_
  refine Xx.tn (k1 _ _ _ _ ?_)
  refine Cx.seq (fun K2 k2 => ?_)
  refine Cx.region ?_
  refine Lx.y (ld Tryd.underlying45 rfl rfl rfl) rfl ?_
  refine Lx.y (mkf rfl rfl) rfl ?_
  have hcf := CFT_ct ts (fun t : Tc => hitsB 7 x t.tb t.sh t.vo t.vn t.was t.is) Al cl 36 [.pointer (some ⟨b2, 0, none⟩)] (row b2 36 (rcs x)) B hR hn (fun t ht => Hit2_ct x t b2 B (hG t ht).1 (hG t ht).2 hM)
  refine Lx.co rfl rfl rfl (hcf) (rfl) rfl ?_
  refine Lx.y (asg rfl) rfl ?_
  refine Lx.nil ?_
  refine Xx.tn (k2 _ _ _ _ ?_)
  refine Cx.ret ?_
  exact Xx.dropB b2 (Xx.ret1 rfl rfl ⟨rfl, rfl, rfl⟩ (Frag.le_refl _) rfl)

set_option maxHeartbeats 1000000 in
theorem Hit_ct (m : List Rd) (A : Option Addr) (c bs : Nat) (fz : Nat × Nat) (ts : List Tc) (Al : Option Addr) (cl : Nat) (B : Frag) (hb : B bs = some (.cells [.slice A m.length c].toArray 52 fz)) (hR : RoS B 4 A m.length (m.flatMap rcs)) (hn : m.length ≤ 900) (hRt : RoS B 16 Al ts.length (ts.flatMap tcc)) (hnt : ts.length ≤ 1000) (hG : ∀ t ∈ ts, GoodV B 7 t.vo (vcs t.vo t.A1 t.c1 t.N1 t.d1) ∧ GoodV B 7 t.vn (vcs t.vn t.A2 t.c2 t.N2 t.d2)) (hM : MaxLenIn B) : CtB Tryd.prog 17 [.pointer (some ⟨bs, 0, none⟩), .slice Al ts.length cl] B (fun v _ => v = .bool (m.any (fun x : Rd => ts.any (fun t : Tc => hitsB 7 x t.tb t.sh t.vo t.vn t.was t.is)))) := by
  refine CtB.of_body Tryd.func17 rfl (nt := 9) rfl (by kernel_rfl) rfl ?_
  intro N0 w0 R
  refine Cx.seq (fun K1 k1 => ?_)
  refine Cx.region ?_
  refine Lx.new (boxO rfl rfl) rfl (fun b3 => ?_)
  refine Lx.y (asg rfl) rfl ?_
  refine Lx.nil ?_
  refine Xx.tn (k1 _ _ _ _ ?_)
  refine Cx.seq (fun K2 k2 => ?_)
  refine Cx.region ?_
  refine Lx.y (mv rfl) rfl ?_
  refine Lx.cb rfl rfl rfl (All_ct m A c bs fz _ hb hR hn) rfl ?_
  rintro v1 B1 ⟨A1, c1, rfl, hR1⟩ hB1
  have hM1 := hM.mono hB1
  refine Lx.y (mkf rfl rfl) rfl ?_
  have hcf := CF_ct m (fun x : Rd => ts.any (fun t : Tc => hitsB 7 x t.tb t.sh t.vo t.vn t.was t.is)) A1 c1 34 [.pointer (some ⟨b3, 0, none⟩)] (row b3 45 [.slice Al ts.length cl]) B1 hR1 (by omega) (fun x _ => Hit1_ct x ts Al cl b3 B1 (hRt.mono hB1) hnt (fun t ht => ⟨(hG t ht).1.mono hB1, (hG t ht).2.mono hB1⟩) hM1)
  refine Lx.co rfl rfl rfl (hcf) (rfl) rfl ?_
  refine Lx.y (asg rfl) rfl ?_
  refine Lx.nil ?_
  refine Xx.tn (k2 _ _ _ _ ?_)
  refine Cx.ret ?_
  exact Xx.dropB b3 (Xx.rB1 rfl rfl rfl hB1 rfl)
end RgK
end Go.Proofs.YtfnfkoldifpmhaaDoor
