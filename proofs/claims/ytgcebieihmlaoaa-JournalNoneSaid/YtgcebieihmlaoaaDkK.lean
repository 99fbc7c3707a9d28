/-
  A file cut; a file taken away.
-/
import Derived.Test.YtgcebieihmlaoaaProg
import Derived.Test.YtgcebieihmlaoaaSlj
import Derived.Test.YtgcebieihmlaoaaDkJ
namespace Go.Proofs.Ytgcebieihmlaoaa
open Go.SL Go.RowKit
set_option linter.unusedVariables false
set_option linter.unusedSimpArgs false
set_option maxRecDepth 100000
open DkA DkB DkC DkD DkE DkF DkG DkH DkI DkJ
namespace DkK
theorem sz3 : (Try.prog.info? 3).map (·.size) = some 1 := by kernel_rfl
theorem sz5 : (Try.prog.info? 5).map (·.size) = some 1 := by kernel_rfl
theorem sz25 : (Try.prog.info? 25).map (·.size) = some 3 := by kernel_rfl
theorem ti3 : TI Try.prog 3 [.int .i64 0] 1 8 := TI.of (by kernel_rfl) rfl rfl
theorem ti5 : TI Try.prog 5 [.int .u8 0] 1 1 := TI.of (by kernel_rfl) rfl rfl
theorem ti102 : TI Try.prog 102 [.slice none 0 0, .slice none 0 0, .slice none 0 0] 3 72 := TI.of (by kernel_rfl) rfl rfl
theorem fo97_0 : FO Try.prog 97 0 0 1 false := FO.of Try.underlying97 rfl rfl (by kernel_rfl) Try.underlying94 rfl rfl

theorem Xx.lessA {e : Env} {ds : List Deferred} {K : Act → World → Prop} {ρ : Sl} {B : Frag} {H R : HP} (A : Option Addr) (m : Nat) {et : TypeId} {n c : Nat} {xs : List Value} [hp : PickS H A et 1 n c xs R] (hm : m ≤ n)
    (h : Xx e ds K ρ B (sbuf et 1 A m c (xs.take m) * R)) : Xx e ds K ρ B H :=
  Xx.perm (fun a w f b' s => by
    rcases s.cases_sbuf with ⟨h1, h2, h3, h4, s2⟩ | ⟨bb, sp, h1, h2, h3, h4, s2⟩
    · subst h1 h2 h3 h4
      obtain rfl : m = 0 := by omega
      exact h a w f b' s
    · subst h1
      refine h a w f b' (St.of_sbuf (sp := xs.drop m ++ sp) (by rw [List.length_take]; omega) (by omega) (by rw [← List.append_assoc, List.take_append_drop]; exact h4) ?_)
      rw [← List.append_assoc, List.take_append_drop]; exact s2) hp.eq
def removeD (D : Dm) (n : Int) : Dm × Int := if errM D n ≠ 0 then (D, errM D n) else if (strikesD D).2 = true then ((strikesD D).1, 7)
  else ({ (strikesD D).1 with fs := delM n (strikesD D).1.fs }, 0)
def cutD (D : Dm) (n long : Int) : Dm × Int := if errM D n ≠ 0 then (D, errM D n) else if long < 0 ∨ long > ((fileM n D.fs).now.length : Nat) then (D, 1) else if (strikesD D).2 = true then ((strikesD D).1, 7)
  else ({ (strikesD D).1 with fs := setM ⟨n, (fileM n D.fs).now.take long.toNat, (fileM n D.fs).now.take long.toNat, []⟩ (strikesD D).1.fs }, 0)

set_option maxHeartbeats 2000000 in
theorem Remove_ct (d : Dk) (db : Nat) (n : Int) (B : Frag) (hF : d.abs.Fit) : Ct Try.prog 26 [.pointer (some ⟨db, 0, none⟩), i64 n] B (dkH db d) (fun v B' H' => v = i64 (removeD d.abs n).2 ∧ ∃ d' : Dk, d'.abs = (removeD d.abs n).1 ∧ H' = dkH db d') := by
  refine Ct.of_body Try.func26 rfl (nt := 23) rfl (by kernel_rfl) rfl ?_
  intro N0 w0 R
  refine Cx.seq (fun K1 k1 => ?_)
  refine Cx.region ?_
  refine Lx.y (asg rfl) rfl ?_
  refine Lx.nil ?_
  refine Xx.tn (k1 _ _ _ _ ?_)
  refine Cx.seq (fun K2 k2 => ?_)
  refine Cx.seq (fun K3 k3 => ?_)
  refine Cx.region ?_
  refine Lx.y (mv rfl) rfl ?_
  refine Lx.y (mv rfl) rfl ?_
  refine Lx.co rfl rfl rfl (file_ct2 d db n _) (rfl) rfl ?_
  refine Lx.y (mv rfl) rfl ?_
  refine Lx.y (ext rfl rfl) rfl ?_
  refine Lx.y (ext rfl rfl) rfl ?_
  refine Lx.y (asg rfl) rfl ?_
  refine Lx.y (asg rfl) rfl ?_
  refine Lx.nil ?_
  refine Xx.tn (k3 _ _ _ _ ?_)
  refine Cx.seq (fun K4 k4 => ?_)
  refine Cx.region ?_
  refine Lx.y (mv rfl) rfl ?_
  refine Lx.y (neI rfl rfl) rfl ?_
  refine Lx.nil ?_
  refine Xx.tn (k4 _ _ _ _ ?_)
  refine Cx.condN rfl (fun h5 => ?_) (fun h5 => ?_)
  · skip
    have he := h5
    have hap : removeD d.abs n = (d.abs, errM d.abs n) := by unfold removeD; rw [if_pos he]
    refine Cx.seq (fun K6 k6 => ?_)
    refine Cx.region ?_
    refine Lx.y (mv rfl) rfl ?_
    refine Lx.y (asg rfl) rfl ?_
    refine Lx.nil ?_
    refine Xx.tn (k6 _ _ _ _ ?_)
    refine Cx.ret ?_
    refine Xx.tr ?_
    exact Xx.ret1 rfl rfl ⟨by rw [hap]; rfl, d, by rw [hap], rfl⟩ (Frag.le_refl _) rfl
  · skip
    have he := h5
    obtain ⟨hd, f, hff, hfp, hfm⟩ := file_ok he
    refine Cx.skip ?_
    refine Xx.tn (k2 _ _ _ _ ?_)
    refine Cx.seq (fun K7 k7 => ?_)
    refine Cx.seq (fun K8 k8 => ?_)
    refine Cx.region ?_
    refine Lx.y (mv rfl) rfl ?_
    refine Lx.c rfl rfl rfl (strikes_ct2 d db _ hF) (rfl) rfl ?_
    rintro v1 B1 H1 ⟨rfl, hFf, hTt⟩ hB1
    refine Lx.nil ?_
    refine Xx.tn (k8 _ _ _ _ ?_)
    refine Cx.condB rfl (fun h9 => ?_) (fun h9 => ?_)
    · skip
      have g3 := h9
      obtain ⟨d2, hd2, rfl⟩ := hTt g3
      have hap : removeD d.abs n = ((strikesD d.abs).1, 7) := by unfold removeD; rw [if_neg (fun h => h he), if_pos g3]
      refine Cx.seq (fun K10 k10 => ?_)
      refine Cx.region ?_
      refine Lx.y (asg rfl) rfl ?_
      refine Lx.nil ?_
      refine Xx.tn (k10 _ _ _ _ ?_)
      refine Cx.ret ?_
      refine Xx.tr ?_
      exact Xx.ret1 rfl rfl ⟨by rw [hap], d2, by rw [hap]; exact hd2, rfl⟩ hB1 rfl
    · skip
      have g3 := h9
      obtain ⟨hs1, rfl⟩ := hFf g3
      obtain ⟨Rf, hH, hset, hfs, hdel⟩ := dkH_at (d := { d with ch := d.ch + 1 }) (db := db) (n := n) (f := f) hff
      rw [hH]
      simp only [star_assoc]
      refine Cx.skip ?_
      refine Xx.tn (k7 _ _ _ _ ?_)
      refine Cx.seq (fun K11 k11 => ?_)
      refine Cx.region ?_
      refine Lx.y (mv rfl) rfl ?_
      refine Lx.y (nilc rfl) rfl ?_
      refine Lx.y (fa' fo97_0 rfl) rfl ?_
      refine Lx.y (ld Try.underlying94 rfl rfl rfl) rfl ?_
      refine Lx.y (mv rfl) rfl ?_
      refine Lx.o0 (delM Try.underlying94 Try.underlying3 rfl rfl) (fun v B' H' hΦ hB => ?_)
      obtain ⟨rfl, hBB, rfl⟩ := hΦ
      have hBB2 := hBB.symm
      subst hBB2
      clear hB
      refine Lx.nil ?_
      refine Xx.tn (k11 _ _ _ _ ?_)
      refine Cx.seq (fun K12 k12 => ?_)
      refine Cx.region ?_
      refine Lx.y (asg rfl) rfl ?_
      refine Lx.nil ?_
      refine Xx.tn (k12 _ _ _ _ ?_)
      refine Cx.ret ?_
      have hap : removeD d.abs n = ({ d.abs with ch := d.ch + 1, fs := delM n d.abs.fs }, 0) := by
        unfold removeD
        rw [if_neg (fun h => h he), if_neg (by rw [g3]; decide), hs1]
      have e2 : mdel n (d.fs.map fkv) = (delF n d.fs).map fkv := mdel_del n d.fs
      refine Xx.perm (Xx.drop (p := fiH f) (H := dkH db { d with ch := d.ch + 1, fs := delF n d.fs } * R) ?_) (by show _ = _ * ((row db 97 (dcs { d with ch := d.ch + 1 }) * (imap d.mb ((delF n d.fs).map fkv) * (sbuf 25 3 d.Ap d.plan.length d.cp (d.plan.flatMap scs) * fisH (delF n d.fs)))) * R); rw [show fisH (delF n d.fs) = Rf from hdel, ← e2]; ac_rfl)
      exact Xx.ret1 rfl rfl ⟨by rw [hap], { d with ch := d.ch + 1, fs := delF n d.fs }, by rw [hap]; unfold Dk.abs; simp only [delF_m], rfl⟩ hB1 rfl
end DkK
end Go.Proofs.Ytgcebieihmlaoaa
