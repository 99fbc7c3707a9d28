/-
  The walk of the law of a journal that is none.
-/
import Derived.Test.YtgcebieihmlaoaaProg
import Derived.Test.YtgcebieihmlaoaaSlj
import Derived.Test.YtgcebieihmlaoaaJn6
namespace Go.Proofs.Ytgcebieihmlaoaa
open Go.SL Go.RowKit
set_option linter.unusedVariables false
set_option linter.unusedSimpArgs false
set_option maxRecDepth 100000
open DkA DkB DkD DkE DkF DkG DkH DkI DkJ DkN Fr1 Jn1 Jn2 Jn3 Jn4 Jn5 Jn6
namespace Jn7
theorem sz3 : (Try.prog.info? 3).map (·.size) = some 1 := by kernel_rfl
theorem sz4 : (Try.prog.info? 4).map (·.size) = some 1 := by kernel_rfl
theorem sz9 : (Try.prog.info? 9).map (·.size) = some 1 := by kernel_rfl
theorem sz62 : (Try.prog.info? 62).map (·.size) = some 1 := by kernel_rfl
theorem sz74 : (Try.prog.info? 74).map (·.size) = some 4 := by kernel_rfl
theorem sz115 : (Try.prog.info? 115).map (·.size) = some 5 := by kernel_rfl
theorem ti5 : TI Try.prog 5 [.int .u8 0] 1 1 := TI.of (by kernel_rfl) rfl rfl
theorem ti9 : TI Try.prog 9 [str []] 1 16 := TI.of (by kernel_rfl) rfl rfl
theorem ti74 : TI Try.prog 74 [.int .i64 0, .int .i64 0, str [], .bool false] 4 40 := TI.of (by kernel_rfl) rfl rfl
theorem ti122 : TI Try.prog 122 [.pointer none, .slice none 0 0] 2 32 := TI.of (by kernel_rfl) rfl rfl
theorem fo115_1 : FO Try.prog 115 1 1 1 false := FO.of Try.underlying115 rfl rfl (by kernel_rfl) Try.underlying3 rfl rfl
theorem fo115_2 : FO Try.prog 115 2 2 1 false := FO.of Try.underlying115 rfl rfl (by kernel_rfl) Try.underlying3 rfl rfl
theorem fo115_3 : FO Try.prog 115 3 3 1 false := FO.of Try.underlying115 rfl rfl (by kernel_rfl) Try.underlying3 rfl rfl

set_option maxHeartbeats 1000000 in
theorem JOpenN_ct (n : Int) (B : Frag) : CtP Try.prog 34 [.pointer none, i64 n] B (.tuple #[.pointer none, i64 1]) := by
  refine CtB.of_body Try.func34 rfl (nt := 87) rfl (by kernel_rfl) rfl ?_
  intro N0 w0 R
  refine Cx.seq (fun K1 k1 => ?_)
  refine Cx.region ?_
  refine Lx.y (asg rfl) rfl ?_
  refine Lx.y (asg rfl) rfl ?_
  refine Lx.nil ?_
  refine Xx.tn (k1 _ _ _ _ ?_)
  refine Cx.seq (fun K2 k2 => ?_)
  refine Cx.seq (fun K3 k3 => ?_)
  refine Cx.region ?_
  refine Lx.y (mv rfl) rfl ?_
  refine Lx.y (Yx.tt (eqNilP Try.underlying26 rfl rfl) rfl) rfl ?_
  refine Lx.y (mv rfl) rfl ?_
  refine Lx.gF rfl rfl rfl rfl ?_
  refine Lx.gF rfl rfl rfl rfl ?_
  refine Lx.y (pickT rfl rfl) rfl ?_
  refine Lx.nil ?_
  refine Xx.tn (k3 _ _ _ _ ?_)
  refine Cx.condT rfl ?_
  refine Cx.seq (fun K4 k4 => ?_)
  refine Cx.region ?_
  refine Lx.y (asg rfl) rfl ?_
  refine Lx.y (asg rfl) rfl ?_
  refine Lx.nil ?_
  refine Xx.tn (k4 _ _ _ _ ?_)
  refine Cx.ret ?_
  refine Xx.tr ?_
  exact Xx.rB2 rfl rfl rfl ⟨rfl, rfl⟩ (Frag.le_refl _) rfl

set_option maxHeartbeats 1000000 in
theorem JOpenD_ct (d : Dk) (db : Nat) (most : Int) (B : Frag) (hm : 1 ≤ most) (hd : d.dead = true) : CtC Try.prog 34 [.pointer (some ⟨db, 0, none⟩), i64 most] B (dkH db d) (.tuple #[.pointer none, i64 7]) (dkH db d) := by
  refine Ct.of_body Try.func34 rfl (nt := 87) rfl (by kernel_rfl) rfl ?_
  intro N0 w0 R
  refine Cx.seq (fun K1 k1 => ?_)
  refine Cx.region ?_
  refine Lx.y (asg rfl) rfl ?_
  refine Lx.y (asg rfl) rfl ?_
  refine Lx.nil ?_
  refine Xx.tn (k1 _ _ _ _ ?_)
  refine Cx.seq (fun K2 k2 => ?_)
  refine Cx.seq (fun K3 k3 => ?_)
  refine Cx.region ?_
  refine Lx.y (mv rfl) rfl ?_
  refine Lx.y (Yx.ff (eqNilP Try.underlying26 rfl rfl) rfl) rfl ?_
  refine Lx.y (mv rfl) rfl ?_
  refine Lx.gT rfl rfl rfl ?_
  refine Lx.y (mv rfl) rfl ?_
  refine Lx.gT rfl rfl rfl ?_
  refine Lx.y (lss rfl rfl) rfl ?_
  refine Lx.y (pickF rfl rfl) rfl ?_
  refine Lx.nil ?_
  refine Xx.tn (k3 _ _ _ _ ?_)
  refine Cx.condD rfl (fun h4 => ?_) (fun h4 => ?_)
  · skip
    have h1 : most < 1 := h4
    omega
  · skip
    refine Cx.skip ?_
    refine Xx.tn (k2 _ _ _ _ ?_)
    refine Cx.seq (fun K5 k5 => ?_)
    refine Cx.seq (fun K6 k6 => ?_)
    refine Cx.region ?_
    refine Lx.y (mv rfl) rfl ?_
    refine Lx.co rfl rfl rfl (Dead_ct d db _) (rfl) rfl ?_
    refine Lx.nil ?_
    refine Xx.tn (k6 _ _ _ _ ?_)
    refine Cx.condB rfl (fun h7 => ?_) (fun h7 => ?_)
    · skip
      refine Cx.seq (fun K8 k8 => ?_)
      refine Cx.region ?_
      refine Lx.y (asg rfl) rfl ?_
      refine Lx.y (asg rfl) rfl ?_
      refine Lx.nil ?_
      refine Xx.tn (k8 _ _ _ _ ?_)
      refine Cx.ret ?_
      refine Xx.tr ?_
      exact Xx.ret2 rfl rfl rfl ⟨rfl, rfl, rfl⟩ (Frag.le_refl _) rfl
    · skip
      have h2 : d.dead = false := h7
      rw [hd] at h2; cases h2

set_option maxHeartbeats 1000000 in
theorem JOpenM_ct (d : Dk) (db : Nat) (most : Int) (B : Frag) (hm : most < 1) : CtC Try.prog 34 [.pointer (some ⟨db, 0, none⟩), i64 most] B (dkH db d) (.tuple #[.pointer none, i64 1]) (dkH db d) := by
  refine Ct.of_body Try.func34 rfl (nt := 87) rfl (by kernel_rfl) rfl ?_
  intro N0 w0 R
  refine Cx.seq (fun K1 k1 => ?_)
  refine Cx.region ?_
  refine Lx.y (asg rfl) rfl ?_
  refine Lx.y (asg rfl) rfl ?_
  refine Lx.nil ?_
  refine Xx.tn (k1 _ _ _ _ ?_)
  refine Cx.seq (fun K2 k2 => ?_)
  refine Cx.seq (fun K3 k3 => ?_)
  refine Cx.region ?_
  refine Lx.y (mv rfl) rfl ?_
  refine Lx.y (Yx.ff (eqNilP Try.underlying26 rfl rfl) rfl) rfl ?_
  refine Lx.y (mv rfl) rfl ?_
  refine Lx.gT rfl rfl rfl ?_
  refine Lx.y (mv rfl) rfl ?_
  refine Lx.gT rfl rfl rfl ?_
  refine Lx.y (lss rfl rfl) rfl ?_
  refine Lx.y (pickF rfl rfl) rfl ?_
  refine Lx.nil ?_
  refine Xx.tn (k3 _ _ _ _ ?_)
  refine Cx.condD rfl (fun h4 => ?_) (fun h4 => ?_)
  · skip
    refine Cx.seq (fun K5 k5 => ?_)
    refine Cx.region ?_
    refine Lx.y (asg rfl) rfl ?_
    refine Lx.y (asg rfl) rfl ?_
    refine Lx.nil ?_
    refine Xx.tn (k5 _ _ _ _ ?_)
    refine Cx.ret ?_
    refine Xx.tr ?_
    exact Xx.ret2 rfl rfl rfl ⟨rfl, rfl, rfl⟩ (Frag.le_refl _) rfl
  · skip
    have h1 : ¬ most < 1 := h4
    omega

set_option maxHeartbeats 4000000 in
theorem JAddBig_ct (jb : Nat) (j : Jn) (s : List UInt8) (Ab : Option Addr) (cb : Nat) (B : Frag) (hRb : RoS B 1 Ab 1 [str s]) (hs : 65536 < s.length) (hs2 : s.length ≤ 1048576) (hjl : j.last ≤ 1000000000) : CtC Try.prog 38 [.pointer (some ⟨jb, 0, none⟩), .slice Ab 1 cb] B (jnH jb j) (.tuple #[i64 0, i64 3]) (jnH jb j) := by
  refine Ct.of_body Try.func38 rfl (nt := 123) rfl (by kernel_rfl) rfl ?_
  intro N0 w0 R
  unfold jnH
  simp only [star_assoc]
  refine Cx.seq (fun K1 k1 => ?_)
  refine Cx.region ?_
  refine Lx.y (asg rfl) rfl ?_
  refine Lx.y (asg rfl) rfl ?_
  refine Lx.nil ?_
  refine Xx.tn (k1 _ _ _ _ ?_)
  refine Cx.seq (fun K2 k2 => ?_)
  refine Cx.seq (fun K3 k3 => ?_)
  refine Cx.region ?_
  refine Lx.y (mv rfl) rfl ?_
  refine Lx.y (Yx.ff (eqNilP Try.underlying70 rfl rfl) rfl) rfl ?_
  refine Lx.nil ?_
  refine Xx.tn (k3 _ _ _ _ ?_)
  refine Cx.condF rfl ?_
  refine Cx.skip ?_
  refine Xx.tn (k2 _ _ _ _ ?_)
  refine Cx.seq (fun K4 k4 => ?_)
  refine Cx.region ?_
  refine Lx.y (mv rfl) rfl ?_
  refine Lx.y (nilc rfl) rfl ?_
  refine Lx.y (fa' fo115_2 rfl) rfl ?_
  refine Lx.y (ld Try.underlying3 rfl rfl rfl) rfl ?_
  refine Lx.y (Yx.val (maxI rfl rfl) (show _ = i64 ((max j.last 1 : Nat) : Int) from by rw [max_val])) rfl ?_
  refine Lx.y (asg rfl) rfl ?_
  refine Lx.nil ?_
  refine Xx.tn (k4 _ _ _ _ ?_)
  refine Cx.cutK (ds' := []) (Sub.cons (s := 0) rfl (Sub.cons (s := 1) rfl (Sub.cons (s := 4) rfl (Sub.cons (s := 5) rfl (Sub.cons (s := 18) rfl (Sub.cons (s := 19) rfl (Sub.cons (s := 20) rfl (Sub.cons (s := 21) rfl (Sub.cons (s := 22) rfl (Sub.cons (s := 23) rfl (Sub.cons (s := 24) rfl (Sub.nil _)))))))))))) (fun ρ' B' H' => ∃ x : Value, ρ' = [(6, x)] ∧ B = B' ∧ row jb 115 (jcs j) * (sbuf 74 4 j.Al j.l.length j.cl (j.l.flatMap rcc) * R) = H') ?_ ?_
  · skip
    refine Cx.seq (fun K5 k5 => ?_)
    refine Cx.drawn (by kernel_rfl) ?_
    refine Dx.p (i := 0) rfl (by kernel_rfl) (mv rfl) rfl ?_
    refine Dx.p (i := 1) rfl (by kernel_rfl) (nilc rfl) rfl ?_
    refine Dx.p (i := 2) rfl (by kernel_rfl) (fa' fo115_3 rfl) rfl ?_
    refine Dx.r (i := 3) rfl (by kernel_rfl) (ld Try.underlying3 rfl rfl rfl) rfl ?_
    refine Dx.p (i := 4) rfl (by kernel_rfl) (mv rfl) rfl ?_
    refine Dx.p (i := 5) rfl (by kernel_rfl) (nilc rfl) rfl ?_
    refine Dx.p (i := 6) rfl (by kernel_rfl) (fa' fo115_1 rfl) rfl ?_
    refine Dx.r (i := 7) rfl (by kernel_rfl) (ld Try.underlying3 rfl rfl rfl) rfl ?_
    refine Dx.p (i := 8) rfl (by kernel_rfl) (geq rfl rfl) rfl ?_
    refine Dx.done (by kernel_rfl) ?_
    refine Xx.tn (k5 _ _ _ _ ?_)
    refine Cx.condD rfl (fun h6 => ?_) (fun h6 => ?_)
    · skip
      skip
      refine Cx.region ?_
      refine Lx.y (mv rfl) rfl ?_
      refine Lx.y (add rfl rfl (by exact wrap64 (by omega) (by omega))) rfl ?_
      refine Lx.y (asg rfl) rfl ?_
      refine Lx.nil ?_
      exact Xx.mkK (⟨_, rfl, rfl, rfl⟩) (Sub.cons (s := 6) rfl (Sub.cons (s := 0) rfl (Sub.cons (s := 1) rfl (Sub.cons (s := 4) rfl (Sub.cons (s := 5) rfl (Sub.cons (s := 18) rfl (Sub.cons (s := 19) rfl (Sub.cons (s := 20) rfl (Sub.cons (s := 21) rfl (Sub.cons (s := 22) rfl (Sub.cons (s := 23) rfl (Sub.cons (s := 24) rfl (Sub.nil _)))))))))))))
    · skip
      skip
      refine Cx.skip ?_
      exact Xx.mkK (⟨_, rfl, rfl, rfl⟩) (Sub.cons (s := 6) rfl (Sub.cons (s := 0) rfl (Sub.cons (s := 1) rfl (Sub.cons (s := 4) rfl (Sub.cons (s := 5) rfl (Sub.cons (s := 18) rfl (Sub.cons (s := 19) rfl (Sub.cons (s := 20) rfl (Sub.cons (s := 21) rfl (Sub.cons (s := 22) rfl (Sub.cons (s := 23) rfl (Sub.cons (s := 24) rfl (Sub.nil _)))))))))))))
  · rintro ρ' B' H' ⟨x, rfl, rfl, rfl⟩
    refine Cx.seq (fun K7 k7 => ?_)
    refine Cx.region ?_
    refine Lx.new (allocO ti122) rfl (fun b7 => ?_)
    refine Lx.nil ?_
    refine Xx.tn (k7 _ _ _ _ ?_)
    refine Cx.seq (fun K8 k8 => ?_)
    refine Cx.region ?_
    refine Lx.y (asg rfl) rfl ?_
    refine Lx.nil ?_
    refine Xx.tn (k8 _ _ _ _ ?_)
    refine Cx.seq (fun K9 k9 => ?_)
    refine Cx.seq (fun K10 k10 => ?_)
    refine Cx.region ?_
    refine Lx.y (mv rfl) rfl ?_
    refine Lx.y (lenV (ty' := 0) Try.underlying62 rfl) rfl ?_
    refine Lx.y (mv rfl) rfl ?_
    refine Lx.nil ?_
    refine Xx.tn (k10 _ _ _ _ ?_)
    refine Cx.block ?_
    refine Cx.unroll (1) ?_
    refine Xx.rn ?_
    refine Cx.seq (fun K11 k11 => ?_)
    refine Cx.region ?_
    refine Lx.y (lss rfl rfl) rfl ?_
    refine Lx.nil ?_
    refine Xx.tn (k11 _ _ _ _ ?_)
    refine Cx.seq (fun K12 k12 => ?_)
    refine Cx.condD rfl (fun h13 => ?_) (fun h13 => ?_)
    · skip
      refine Cx.skip ?_
      refine Xx.tn (k12 _ _ _ _ ?_)
      refine Cx.seq (fun K14 k14 => ?_)
      refine Cx.block ?_
      refine Cx.seq (fun K15 k15 => ?_)
      obtain ⟨b0, o0, cs0, et0, fz0, hA0, hB0, hv0⟩ := hRb.at1 (k := 0) (by omega)
      refine Cx.region ?_
      refine Lx.y (Yx.val (ia (b := b0) (o := o0) (j := 0) Try.underlying62 sz9 (by rw [← hA0]; rfl) rfl rfl (by omega) (by omega)) rfl) rfl ?_
      refine Lx.y (ldB Try.underlying9 rfl rfl hB0 hv0) rfl ?_
      refine Lx.y (asg rfl) rfl ?_
      refine Lx.nil ?_
      refine Xx.tn (k15 _ _ _ _ ?_)
      refine Cx.seq (fun K16 k16 => ?_)
      refine Cx.region ?_
      refine Lx.y (mv rfl) rfl ?_
      refine Lx.cp rfl rfl rfl (Fr7.MakeN_ct s _ hs2 hs) rfl ?_
      refine Lx.y (mv rfl) rfl ?_
      refine Lx.y (ext rfl rfl) rfl ?_
      refine Lx.y (ext rfl rfl) rfl ?_
      refine Lx.y (asg rfl) rfl ?_
      refine Lx.y (asg rfl) rfl ?_
      refine Lx.nil ?_
      refine Xx.tn (k16 _ _ _ _ ?_)
      refine Cx.seq (fun K17 k17 => ?_)
      refine Cx.seq (fun K18 k18 => ?_)
      refine Cx.region ?_
      refine Lx.y (mv rfl) rfl ?_
      refine Lx.y (Yx.tt (neI rfl rfl) rfl) rfl ?_
      refine Lx.nil ?_
      refine Xx.tn (k18 _ _ _ _ ?_)
      refine Cx.condT rfl ?_
      refine Cx.seq (fun K19 k19 => ?_)
      refine Cx.region ?_
      refine Lx.y (mv rfl) rfl ?_
      refine Lx.y (asg rfl) rfl ?_
      refine Lx.y (asg rfl) rfl ?_
      refine Lx.nil ?_
      refine Xx.tn (k19 _ _ _ _ ?_)
      refine Cx.ret ?_
      refine Xx.tr ?_
      refine Xx.br ?_
      refine Xx.tr ?_
      refine Xx.tr ?_
      refine Xx.br ?_
      refine Xx.tr ?_
      refine Xx.dropB b7 ?_
      exact Xx.ret2 rfl rfl rfl ⟨rfl, rfl, rfl⟩ (Frag.le_refl _) (by ac_rfl)
    · skip
      have h9 : ¬ (0 : Int) < ((1 : Nat) : Int) := h13
      omega

theorem JOpenA_ct (d : Dk) (db : Nat) (most : Int) (B : Frag) (hc : DkN.Calm 0 0 0 d.abs) (hh : Holds d.abs.fs []) :
    Ct Try.prog 34 [.pointer (some ⟨db, 0, none⟩), i64 most] B (dkH db d) (fun v B' H' => ∃ (p : Option Addr) (e : Int), v = .tuple #[.pointer p, i64 e] ∧ (e = 0 ↔ 1 ≤ most) ∧ (e = 0 → ∃ (jb : Nat) (j : Jn), p = some ⟨jb, 0, none⟩ ∧ j.l = [] ∧ j.last = 0 ∧ H' = dkH db d * jnH jb j)) := by
  by_cases h : 1 ≤ most
  · refine Ct.mono (JOpenF_ct d db most [] 0 0 0 B hc (by decide) (by decide) (by decide) h hh) ?_
    rintro v B' H' ⟨jb, j, rfl, _, _, hf, rfl⟩
    exact ⟨_, 0, rfl, ⟨fun _ => h, fun _ => rfl⟩, fun _ => ⟨jb, j, rfl, hf.l, hf.last, rfl⟩⟩
  · refine Ct.mono (JOpenM_ct d db most B (by omega)) ?_
    rintro v B' H' ⟨rfl, _, _⟩
    exact ⟨_, 1, rfl, ⟨fun e => absurd e (by decide), fun e => absurd e h⟩, fun e => absurd e (by decide)⟩

set_option maxHeartbeats 16000000 in
theorem JournalNone_ct (most n : Int) (B : Frag) : CtB Try.prog 8 [i64 most, i64 n] B (fun v B' => v = .bool true) := by
  refine CtB.of_body Try.func8 rfl (nt := 122) rfl (by kernel_rfl) rfl ?_
  intro N0 w0 R
  refine Cx.seq (fun K1 k1 => ?_)
  refine Cx.region ?_
  refine Lx.y (asg rfl) rfl ?_
  refine Lx.nil ?_
  refine Xx.tn (k1 _ _ _ _ ?_)
  refine Cx.seq (fun K2 k2 => ?_)
  refine Cx.region ?_
  refine Lx.y (asg rfl) rfl ?_
  refine Lx.nil ?_
  refine Xx.tn (k2 _ _ _ _ ?_)
  refine Cx.seq (fun K3 k3 => ?_)
  refine Cx.region ?_
  refine Lx.c rfl rfl rfl (New2_ct 10 _ (by decide)) ((one_star _).symm) rfl ?_
  rintro v1 B1 H1 ⟨hBB, db, d, rfl, hd, rfl⟩ hB1
  have hBB2 := hBB.symm
  subst hBB2
  clear hB1
  have hcd : DkN.Calm 0 0 0 d.abs := by rw [hd]; exact calm_new 10 (by decide)
  refine Lx.y (mv rfl) rfl ?_
  refine Lx.y (ext rfl rfl) rfl ?_
  refine Lx.y (ext rfl rfl) rfl ?_
  refine Lx.y (asg rfl) rfl ?_
  refine Lx.y (asg rfl) rfl ?_
  refine Lx.nil ?_
  refine Xx.tn (k3 _ _ _ _ ?_)
  refine Cx.seq (fun K4 k4 => ?_)
  refine Cx.region ?_
  refine Lx.y (mv rfl) rfl ?_
  refine Lx.c rfl rfl rfl (Crash_ct d db 0#64 0 _ (hcd.fit (by decide) (by decide) (by decide))) (rfl) rfl ?_
  rintro v2 B2 H2 ⟨rfl, d2, hd2, rfl⟩ hB2
  have hdd : d2.dead = true := by
    have h9 : d2.abs.dead = true := by rw [hd2, hd]; rfl
    exact h9
  refine Lx.nil ?_
  refine Xx.tn (k4 _ _ _ _ ?_)
  refine Cx.seq (fun K5 k5 => ?_)
  refine Cx.region ?_
  refine Lx.c rfl rfl rfl (New2_ct 10 _ (by decide)) ((one_star _).symm) rfl ?_
  rintro v3 B3 H3 ⟨hBB, xb, x, rfl, hx, rfl⟩ hB3
  have hBB2 := hBB.symm
  subst hBB2
  clear hB3
  have hcx : DkN.Calm 0 0 0 x.abs := by rw [hx]; exact calm_new 10 (by decide)
  refine Lx.y (mv rfl) rfl ?_
  refine Lx.y (ext rfl rfl) rfl ?_
  refine Lx.y (ext rfl rfl) rfl ?_
  refine Lx.y (asg rfl) rfl ?_
  refine Lx.y (asg rfl) rfl ?_
  refine Lx.nil ?_
  refine Xx.tn (k5 _ _ _ _ ?_)
  refine Cx.seq (fun K6 k6 => ?_)
  refine Cx.region ?_
  refine Lx.cp rfl rfl rfl (JOpenN_ct 5 _) rfl ?_
  refine Lx.y (mv rfl) rfl ?_
  refine Lx.y (ext rfl rfl) rfl ?_
  refine Lx.y (ext rfl rfl) rfl ?_
  refine Lx.y (asg rfl) rfl ?_
  refine Lx.y (asg rfl) rfl ?_
  refine Lx.nil ?_
  refine Xx.tn (k6 _ _ _ _ ?_)
  refine Cx.seq (fun K7 k7 => ?_)
  refine Cx.region ?_
  refine Lx.y (mv rfl) rfl ?_
  refine Lx.co rfl rfl rfl (JOpenD_ct d2 db 5 _ (by decide) hdd) (Pick.eq) rfl ?_
  refine Lx.y (mv rfl) rfl ?_
  refine Lx.y (ext rfl rfl) rfl ?_
  refine Lx.y (ext rfl rfl) rfl ?_
  refine Lx.y (asg rfl) rfl ?_
  refine Lx.y (asg rfl) rfl ?_
  refine Lx.nil ?_
  refine Xx.tn (k7 _ _ _ _ ?_)
  refine Cx.seq (fun K8 k8 => ?_)
  refine Cx.region ?_
  refine Lx.y (mv rfl) rfl ?_
  refine Lx.y (mv rfl) rfl ?_
  refine Lx.c rfl rfl rfl (JOpenA_ct x xb most _ hcx (by rw [hx]; exact holds_none)) (Pick.eq) rfl ?_
  rintro v4 B4 H4 ⟨p, e, rfl, hE, hop⟩ hB4
  refine Lx.y (mv rfl) rfl ?_
  refine Lx.y (ext rfl rfl) rfl ?_
  refine Lx.y (ext rfl rfl) rfl ?_
  refine Lx.y (asg rfl) rfl ?_
  refine Lx.y (asg rfl) rfl ?_
  refine Lx.nil ?_
  refine Xx.tn (k8 _ _ _ _ ?_)
  refine Cx.seq (fun K9 k9 => ?_)
  refine Cx.region ?_
  refine Lx.y (mv rfl) rfl ?_
  refine Lx.bsl (bsl1 Try.underlying62 ti9 rfl rfl rfl (by decide)) rfl (fun b1 => ?_)
  refine Lx.cp rfl rfl rfl (JAdd_nil _ _) rfl ?_
  refine Lx.y (mv rfl) rfl ?_
  refine Lx.y (ext rfl rfl) rfl ?_
  refine Lx.y (ext rfl rfl) rfl ?_
  refine Lx.y (asg rfl) rfl ?_
  refine Lx.y (asg rfl) rfl ?_
  refine Lx.nil ?_
  refine Xx.tn (k9 _ _ _ _ ?_)
  refine Cx.seq (fun K10 k10 => ?_)
  refine Cx.region ?_
  refine Lx.y (mv rfl) rfl ?_
  refine Lx.y (mv rfl) rfl ?_
  refine Lx.cp rfl rfl rfl (JAt_nil n _) rfl ?_
  refine Lx.y (mv rfl) rfl ?_
  refine Lx.y (ext rfl rfl) rfl ?_
  refine Lx.y (ext rfl rfl) rfl ?_
  refine Lx.new (allocO ti74) rfl (fun b18 => ?_)
  refine Lx.st (stA (d := .bool) sz74 rfl rfl rfl rfl (by show 0 + 4 ≤ 4; omega) rfl) ?_
  refine Lx.y (asg rfl) rfl ?_
  refine Lx.nil ?_
  refine Xx.tn (k10 _ _ _ _ ?_)
  refine Cx.seq (fun K11 k11 => ?_)
  refine Cx.seq (fun K12 k12 => ?_)
  refine Cx.region ?_
  refine Lx.y (mv rfl) rfl ?_
  refine Lx.y (eqI rfl rfl) rfl ?_
  refine Lx.nil ?_
  refine Xx.tn (k12 _ _ _ _ ?_)
  refine Cx.condD rfl (fun h13 => ?_) (fun h13 => ?_)
  · skip
    have he : e = 0 := h13
    obtain ⟨jb, j, rfl, hjl, hjt, rfl⟩ := hop he
    simp only [star_assoc]
    refine Cx.seq (fun K14 k14 => ?_)
    refine Cx.region ?_
    refine Lx.y (mv rfl) rfl ?_
    refine Lx.o (mksO Try.underlying80 ti5 rfl rfl (by decide) (by decide) (by decide) (by decide)) rfl (fun v B' H' hΦ hB => ?_)
    obtain ⟨bm, rfl, hBB, rfl⟩ := hΦ
    have hBB2 := hBB.symm
    subst hBB2
    clear hB
    obtain ⟨k, hk⟩ : ∃ k : Nat, k = (65537 : Int).toNat := ⟨_, rfl⟩
    have hk2 : k = 65537 := by rw [hk]; rfl
    rw [← hk]
    refine Lx.y (b2sR Try.underlying80 Try.underlying5 Try.underlying9 rfl (Fr7.u8s_rep k) (List.length_replicate)) rfl ?_
    refine Lx.bsl (bsl1 Try.underlying62 ti9 rfl rfl rfl (by decide)) rfl (fun bb => ?_)
    refine Xx.dropB bm (Xx.freezeB bb fun B5 hB5 hbb => ?_)
    have hRb : RoS B5 1 (some ⟨bb, 0, none⟩) 1 [str (List.replicate k 0)] := ⟨rfl, .inr ⟨bb, 0, _, _, _, rfl, hbb, rfl⟩⟩
    refine Lx.co rfl rfl rfl (JAddBig_ct jb j (List.replicate k 0) (some ⟨bb, 0, none⟩) 1 _ hRb (by rw [List.length_replicate]; omega) (by rw [List.length_replicate]; omega) (by omega)) (Pick.eq) rfl ?_
    refine Lx.y (mv rfl) rfl ?_
    refine Lx.y (ext rfl rfl) rfl ?_
    refine Lx.y (ext rfl rfl) rfl ?_
    refine Lx.y (asg rfl) rfl ?_
    refine Lx.y (asg rfl) rfl ?_
    refine Lx.nil ?_
    refine Xx.tn (k14 _ _ _ _ ?_)
    refine Cx.seq (fun K15 k15 => ?_)
    refine Cx.region ?_
    refine Lx.y (mv rfl) rfl ?_
    refine Lx.y (Yx.ff (neI rfl rfl) rfl) rfl ?_
    refine Lx.y (mv rfl) rfl ?_
    refine Lx.gT rfl rfl rfl ?_
    refine Lx.y (mv rfl) rfl ?_
    refine Lx.gT rfl rfl rfl ?_
    refine Lx.co rfl rfl rfl (JLen_ct jb j _) (rfl) rfl ?_
    rw [hjl]
    refine Lx.gT rfl rfl rfl ?_
    refine Lx.y (Yx.ff (neI rfl rfl) rfl) rfl ?_
    refine Lx.y (pickF rfl rfl) rfl ?_
    refine Lx.nil ?_
    refine Xx.tn (k15 _ _ _ _ ?_)
    refine Cx.condF rfl ?_
    refine Cx.skip ?_
    refine Xx.tn (k11 _ _ _ _ ?_)
    refine Cx.seq (fun K16 k16 => ?_)
    refine Cx.region ?_
    refine Lx.cb rfl rfl rfl (awake_ct _) rfl ?_
    rintro v9 B9 rfl hB9
    refine Lx.y (mv rfl) rfl ?_
    refine Lx.gT rfl rfl rfl ?_
    refine Lx.y (mv rfl) rfl ?_
    refine Lx.gT rfl rfl rfl ?_
    refine Lx.y (Yx.tt (eqI rfl rfl) rfl) rfl ?_
    refine Lx.y (pickT rfl rfl) rfl ?_
    refine Lx.y (mv rfl) rfl ?_
    refine Lx.gT rfl rfl rfl ?_
    refine Lx.y (mv rfl) rfl ?_
    refine Lx.gT rfl rfl rfl ?_
    refine Lx.y (Yx.tt (eqI rfl rfl) rfl) rfl ?_
    refine Lx.y (pickT rfl rfl) rfl ?_
    refine Lx.y (mv rfl) rfl ?_
    refine Lx.gT rfl rfl rfl ?_
    refine Lx.y (mv rfl) rfl ?_
    refine Lx.gT rfl rfl rfl ?_
    refine Lx.y (eqI rfl rfl) rfl ?_
    refine Lx.gT rfl rfl rfl ?_
    refine Lx.y (mv rfl) rfl ?_
    refine Lx.gT rfl rfl rfl ?_
    refine Lx.y (geq rfl rfl) rfl ?_
    refine Lx.gT rfl rfl rfl ?_
    refine Lx.y (Yx.tt (eqB Try.underlying4 rfl rfl) (beq_iff_eq.2 (decide_eq_decide.2 hE))) rfl ?_
    refine Lx.y (pickT rfl rfl) rfl ?_
    refine Lx.y (mv rfl) rfl ?_
    refine Lx.gT rfl rfl rfl ?_
    refine Lx.y (mv rfl) rfl ?_
    refine Lx.gT rfl rfl rfl ?_
    refine Lx.y (Yx.tt (eqI rfl rfl) rfl) rfl ?_
    refine Lx.y (pickT rfl rfl) rfl ?_
    refine Lx.y (mv rfl) rfl ?_
    refine Lx.gT rfl rfl rfl ?_
    refine Lx.y (mv rfl) rfl ?_
    refine Lx.gT rfl rfl rfl ?_
    refine Lx.y (not' rfl) rfl ?_
    refine Lx.y (pickT rfl rfl) rfl ?_
    refine Lx.y (mv rfl) rfl ?_
    refine Lx.gT rfl rfl rfl ?_
    refine Lx.y (mv rfl) rfl ?_
    refine Lx.gT rfl rfl rfl ?_
    refine Lx.cp rfl rfl rfl (JLen_nil _) rfl ?_
    refine Lx.gT rfl rfl rfl ?_
    refine Lx.y (Yx.tt (eqI rfl rfl) rfl) rfl ?_
    refine Lx.y (pickT rfl rfl) rfl ?_
    refine Lx.y (mv rfl) rfl ?_
    refine Lx.gT rfl rfl rfl ?_
    refine Lx.y (mv rfl) rfl ?_
    refine Lx.gT rfl rfl rfl ?_
    refine Lx.y (mv rfl) rfl ?_
    refine Lx.gT rfl rfl rfl ?_
    refine Lx.cp rfl rfl rfl (JKeep_nil n _) rfl ?_
    refine Lx.gT rfl rfl rfl ?_
    refine Lx.y (Yx.tt (eqI rfl rfl) rfl) rfl ?_
    refine Lx.y (pickT rfl rfl) rfl ?_
    refine Lx.y (mv rfl) rfl ?_
    refine Lx.gT rfl rfl rfl ?_
    refine Lx.y (mv rfl) rfl ?_
    refine Lx.gT rfl rfl rfl ?_
    refine Lx.y (mv rfl) rfl ?_
    refine Lx.gT rfl rfl rfl ?_
    refine Lx.cp rfl rfl rfl (JBlank_nil n 0 0 _) rfl ?_
    refine Lx.gT rfl rfl rfl ?_
    refine Lx.y (Yx.tt (eqI rfl rfl) rfl) rfl ?_
    refine Lx.y (pickT rfl rfl) rfl ?_
    refine Lx.y (mv rfl) rfl ?_
    refine Lx.gT rfl rfl rfl ?_
    refine Lx.y (mv rfl) rfl ?_
    refine Lx.gT rfl rfl rfl ?_
    refine Lx.cp rfl rfl rfl (JFiles_nil _) rfl ?_
    refine Lx.gT rfl rfl rfl ?_
    refine Lx.y (Yx.tt (eqI rfl rfl) rfl) rfl ?_
    refine Lx.y (pickT rfl rfl) rfl ?_
    refine Lx.y (asg rfl) rfl ?_
    refine Lx.nil ?_
    refine Xx.tn (k16 _ _ _ _ ?_)
    refine Cx.ret ?_
    repeat refine Xx.drop ?_
    exact Xx.rB1 rfl rfl rfl (Frag.le_trans hB2 (Frag.le_trans hB4 (Frag.le_trans hB5 hB9))) rfl
  · skip
    skip
    refine Cx.skip ?_
    refine Xx.tn (k11 _ _ _ _ ?_)
    refine Cx.seq (fun K18 k18 => ?_)
    refine Cx.region ?_
    refine Lx.cb rfl rfl rfl (awake_ct _) rfl ?_
    rintro v9 B9 rfl hB9
    refine Lx.y (mv rfl) rfl ?_
    refine Lx.gT rfl rfl rfl ?_
    refine Lx.y (mv rfl) rfl ?_
    refine Lx.gT rfl rfl rfl ?_
    refine Lx.y (Yx.tt (eqI rfl rfl) rfl) rfl ?_
    refine Lx.y (pickT rfl rfl) rfl ?_
    refine Lx.y (mv rfl) rfl ?_
    refine Lx.gT rfl rfl rfl ?_
    refine Lx.y (mv rfl) rfl ?_
    refine Lx.gT rfl rfl rfl ?_
    refine Lx.y (Yx.tt (eqI rfl rfl) rfl) rfl ?_
    refine Lx.y (pickT rfl rfl) rfl ?_
    refine Lx.y (mv rfl) rfl ?_
    refine Lx.gT rfl rfl rfl ?_
    refine Lx.y (mv rfl) rfl ?_
    refine Lx.gT rfl rfl rfl ?_
    refine Lx.y (eqI rfl rfl) rfl ?_
    refine Lx.gT rfl rfl rfl ?_
    refine Lx.y (mv rfl) rfl ?_
    refine Lx.gT rfl rfl rfl ?_
    refine Lx.y (geq rfl rfl) rfl ?_
    refine Lx.gT rfl rfl rfl ?_
    refine Lx.y (Yx.tt (eqB Try.underlying4 rfl rfl) (beq_iff_eq.2 (decide_eq_decide.2 hE))) rfl ?_
    refine Lx.y (pickT rfl rfl) rfl ?_
    refine Lx.y (mv rfl) rfl ?_
    refine Lx.gT rfl rfl rfl ?_
    refine Lx.y (mv rfl) rfl ?_
    refine Lx.gT rfl rfl rfl ?_
    refine Lx.y (Yx.tt (eqI rfl rfl) rfl) rfl ?_
    refine Lx.y (pickT rfl rfl) rfl ?_
    refine Lx.y (mv rfl) rfl ?_
    refine Lx.gT rfl rfl rfl ?_
    refine Lx.y (mv rfl) rfl ?_
    refine Lx.gT rfl rfl rfl ?_
    refine Lx.y (not' rfl) rfl ?_
    refine Lx.y (pickT rfl rfl) rfl ?_
    refine Lx.y (mv rfl) rfl ?_
    refine Lx.gT rfl rfl rfl ?_
    refine Lx.y (mv rfl) rfl ?_
    refine Lx.gT rfl rfl rfl ?_
    refine Lx.cp rfl rfl rfl (JLen_nil _) rfl ?_
    refine Lx.gT rfl rfl rfl ?_
    refine Lx.y (Yx.tt (eqI rfl rfl) rfl) rfl ?_
    refine Lx.y (pickT rfl rfl) rfl ?_
    refine Lx.y (mv rfl) rfl ?_
    refine Lx.gT rfl rfl rfl ?_
    refine Lx.y (mv rfl) rfl ?_
    refine Lx.gT rfl rfl rfl ?_
    refine Lx.y (mv rfl) rfl ?_
    refine Lx.gT rfl rfl rfl ?_
    refine Lx.cp rfl rfl rfl (JKeep_nil n _) rfl ?_
    refine Lx.gT rfl rfl rfl ?_
    refine Lx.y (Yx.tt (eqI rfl rfl) rfl) rfl ?_
    refine Lx.y (pickT rfl rfl) rfl ?_
    refine Lx.y (mv rfl) rfl ?_
    refine Lx.gT rfl rfl rfl ?_
    refine Lx.y (mv rfl) rfl ?_
    refine Lx.gT rfl rfl rfl ?_
    refine Lx.y (mv rfl) rfl ?_
    refine Lx.gT rfl rfl rfl ?_
    refine Lx.cp rfl rfl rfl (JBlank_nil n 0 0 _) rfl ?_
    refine Lx.gT rfl rfl rfl ?_
    refine Lx.y (Yx.tt (eqI rfl rfl) rfl) rfl ?_
    refine Lx.y (pickT rfl rfl) rfl ?_
    refine Lx.y (mv rfl) rfl ?_
    refine Lx.gT rfl rfl rfl ?_
    refine Lx.y (mv rfl) rfl ?_
    refine Lx.gT rfl rfl rfl ?_
    refine Lx.cp rfl rfl rfl (JFiles_nil _) rfl ?_
    refine Lx.gT rfl rfl rfl ?_
    refine Lx.y (Yx.tt (eqI rfl rfl) rfl) rfl ?_
    refine Lx.y (pickT rfl rfl) rfl ?_
    refine Lx.y (asg rfl) rfl ?_
    refine Lx.nil ?_
    refine Xx.tn (k18 _ _ _ _ ?_)
    refine Cx.ret ?_
    repeat refine Xx.drop ?_
    exact Xx.rB1 rfl rfl rfl (Frag.le_trans hB2 (Frag.le_trans hB4 hB9)) rfl
end Jn7
end Go.Proofs.Ytgcebieihmlaoaa
