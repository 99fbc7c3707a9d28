/-
  A file made sure.
-/
import Derived.Test.YtgcebieihmlaoaaProg
import Derived.Test.YtgcebieihmlaoaaSlj
import Derived.Test.YtgcebieihmlaoaaDkI
namespace Go.Proofs.Ytgcebieihmlaoaa
open Go.SL Go.RowKit
set_option linter.unusedVariables false
set_option linter.unusedSimpArgs false
set_option maxRecDepth 100000
open DkA DkB DkC DkD DkE DkF DkG DkH DkI
namespace DkJ
theorem sz3 : (Try.prog.info? 3).map (·.size) = some 1 := by kernel_rfl
theorem sz5 : (Try.prog.info? 5).map (·.size) = some 1 := by kernel_rfl
theorem sz25 : (Try.prog.info? 25).map (·.size) = some 3 := by kernel_rfl
theorem sz39 : (Try.prog.info? 39).map (·.size) = some 1 := by kernel_rfl
theorem sz80 : (Try.prog.info? 80).map (·.size) = some 1 := by kernel_rfl
theorem ti3 : TI Try.prog 3 [.int .i64 0] 1 8 := TI.of (by kernel_rfl) rfl rfl
theorem ti5 : TI Try.prog 5 [.int .u8 0] 1 1 := TI.of (by kernel_rfl) rfl rfl
theorem ti102 : TI Try.prog 102 [.slice none 0 0, .slice none 0 0, .slice none 0 0] 3 72 := TI.of (by kernel_rfl) rfl rfl
theorem fo102_0 : FO Try.prog 102 0 0 1 false := FO.of Try.underlying102 rfl rfl (by kernel_rfl) Try.underlying80 rfl rfl
theorem fo102_1 : FO Try.prog 102 1 1 1 false := FO.of Try.underlying102 rfl rfl (by kernel_rfl) Try.underlying80 rfl rfl
theorem fo102_2 : FO Try.prog 102 2 2 1 false := FO.of Try.underlying102 rfl rfl (by kernel_rfl) Try.underlying39 rfl rfl

def syncD (D : Dm) (n : Int) : Dm × Int := if errM D n ≠ 0 then (D, errM D n) else if (strikesD D).2 = true then ((strikesD D).1, 7)
  else ({ (strikesD D).1 with fs := setM ⟨n, (fileM n D.fs).now, (fileM n D.fs).now, []⟩ (strikesD D).1.fs }, 0)

set_option maxHeartbeats 2000000 in
theorem Sync_ct (d : Dk) (db : Nat) (n : Int) (B : Frag) (hF : d.abs.Fit) : Ct Try.prog 13 [.pointer (some ⟨db, 0, none⟩), i64 n] B (dkH db d) (fun v B' H' => v = i64 (syncD d.abs n).2 ∧ ∃ d' : Dk, d'.abs = (syncD d.abs n).1 ∧ H' = dkH db d') := by
  refine Ct.of_body Try.func13 rfl (nt := 29) rfl (by kernel_rfl) rfl ?_
  intro N0 w0 R
  refine Cx.seq (fun K1 k1 => ?_)
  refine Cx.region ?_
  refine Lx.y (asg rfl) rfl ?_
  refine Lx.nil ?_
  refine Xx.tn (k1 _ _ _ _ ?_)
  refine Cx.seq (fun K2 k2 => ?_)
  refine Cx.region ?_
  refine Lx.y (mv rfl) rfl ?_
  refine Lx.y (mv rfl) rfl ?_
  refine Lx.co rfl rfl rfl (file_ct2 d db n _) (rfl) rfl ?_
  refine Lx.y (mv rfl) rfl ?_
  refine Lx.y (ext rfl rfl) rfl ?_
  refine Lx.y (ext rfl rfl) rfl ?_
  refine Lx.y (asg rfl) rfl ?_
  refine Lx.y (asg rfl) rfl ?_
  refine Lx.nil ?_
  refine Xx.tn (k2 _ _ _ _ ?_)
  refine Cx.seq (fun K3 k3 => ?_)
  refine Cx.seq (fun K4 k4 => ?_)
  refine Cx.region ?_
  refine Lx.y (mv rfl) rfl ?_
  refine Lx.y (neI rfl rfl) rfl ?_
  refine Lx.nil ?_
  refine Xx.tn (k4 _ _ _ _ ?_)
  refine Cx.condN rfl (fun h5 => ?_) (fun h5 => ?_)
  · skip
    have he := h5
    have hap : syncD d.abs n = (d.abs, errM d.abs n) := by unfold syncD; rw [if_pos he]
    refine Cx.seq (fun K6 k6 => ?_)
    refine Cx.region ?_
    refine Lx.y (mv rfl) rfl ?_
    refine Lx.y (asg rfl) rfl ?_
    refine Lx.nil ?_
    refine Xx.tn (k6 _ _ _ _ ?_)
    refine Cx.ret ?_
    refine Xx.tr ?_
    exact Xx.ret1 rfl rfl ⟨by rw [hap]; rfl, d, by rw [hap], rfl⟩ (Frag.le_refl _) rfl
  · skip
    have he := h5
    obtain ⟨hd, f, hff, hfp, hfm⟩ := file_ok he
    rw [hfp]
    refine Cx.skip ?_
    refine Xx.tn (k3 _ _ _ _ ?_)
    refine Cx.seq (fun K7 k7 => ?_)
    refine Cx.seq (fun K8 k8 => ?_)
    refine Cx.region ?_
    refine Lx.y (mv rfl) rfl ?_
    refine Lx.c rfl rfl rfl (strikes_ct2 d db _ hF) (rfl) rfl ?_
    rintro v1 B1 H1 ⟨rfl, hFf, hTt⟩ hB1
    refine Lx.nil ?_
    refine Xx.tn (k8 _ _ _ _ ?_)
    refine Cx.condB rfl (fun h9 => ?_) (fun h9 => ?_)
    · skip
      have g3 := h9
      obtain ⟨d2, hd2, rfl⟩ := hTt g3
      have hap : syncD d.abs n = ((strikesD d.abs).1, 7) := by unfold syncD; rw [if_neg (fun h => h he), if_pos g3]
      refine Cx.seq (fun K10 k10 => ?_)
      refine Cx.region ?_
      refine Lx.y (asg rfl) rfl ?_
      refine Lx.nil ?_
      refine Xx.tn (k10 _ _ _ _ ?_)
      refine Cx.ret ?_
      refine Xx.tr ?_
      exact Xx.ret1 rfl rfl ⟨by rw [hap], d2, by rw [hap]; exact hd2, rfl⟩ hB1 rfl
    · skip
      have g3 := h9
      obtain ⟨hs1, rfl⟩ := hFf g3
      obtain ⟨Rf, hH, hset, hfs, hdel⟩ := dkH_at (d := { d with ch := d.ch + 1 }) (db := db) (n := n) (f := f) hff
      have hfo : f.m.Ok := by rw [← hfm]; exact fileM_ok fun g hg => hF.ok hg
      have hfo3 := hfo.2.2.1
      rw [hH, show fiH f = row f.b 102 (fcs f) * (sbuf 5 1 f.An f.m.now.length f.cn (u8s f.m.now) * (sbuf 5 1 f.As f.m.sure.length f.cs (u8s f.m.sure) * sbuf 3 1 f.Al f.m.loose.length f.cl (nv f.m.loose))) from rfl]
      simp only [star_assoc]
      refine Cx.skip ?_
      refine Xx.tn (k7 _ _ _ _ ?_)
      refine Cx.seq (fun K11 k11 => ?_)
      refine Cx.region ?_
      refine Lx.y (mv rfl) rfl ?_
      refine Lx.y (mv rfl) rfl ?_
      refine Lx.y (mv rfl) rfl ?_
      refine Lx.y (nilc rfl) rfl ?_
      refine Lx.y (fa' fo102_0 rfl) rfl ?_
      refine Lx.y (Yx.val (ld Try.underlying80 rfl rfl rfl) (show _ = Value.slice f.An f.m.now.length f.cn from rfl)) rfl ?_
      refine Lx.c rfl rfl rfl (ClB_ct f.An f.m.now.length f.cn (u8s f.m.now) _ (u8_all _) (by omega) (by omega)) (pickS _) rfl ?_
      rintro v3 B3 H3 ⟨hBB, A9, c9, rfl, rfl⟩ hB3
      subst hBB
      rename Frag => B3
      clear hB3
      simp only [star_assoc]
      refine Lx.y (nilc rfl) rfl ?_
      refine Lx.y (fa' fo102_1 rfl) rfl ?_
      refine Lx.st (stO Try.underlying80 sz80 rfl rfl rfl (by show 1 < 3; omega) rfl) ?_
      refine Lx.y (nilc rfl) rfl ?_
      refine Lx.y (fa' fo102_2 rfl) rfl ?_
      refine Lx.st (stO Try.underlying39 sz39 rfl rfl rfl (by show 2 < 3; omega) rfl) ?_
      refine Lx.nil ?_
      refine Xx.tn (k11 _ _ _ _ ?_)
      refine Cx.seq (fun K12 k12 => ?_)
      refine Cx.region ?_
      refine Lx.y (asg rfl) rfl ?_
      refine Lx.nil ?_
      refine Xx.tn (k12 _ _ _ _ ?_)
      refine Cx.ret ?_
      have hap : syncD d.abs n = ({ d.abs with ch := d.ch + 1, fs := setM ⟨n, f.m.now, f.m.now, []⟩ d.abs.fs }, 0) := by
        unfold syncD
        rw [if_neg (fun h => h he), if_neg (by rw [g3]; decide), hs1, hfm]
      have hfn := (findF_mem hff).2
      have e1 := hset ⟨⟨n, f.m.now, f.m.now, []⟩, f.b, f.An, f.cn, A9, c9, none, 0⟩ rfl
      have e2 : (setF ⟨⟨n, f.m.now, f.m.now, []⟩, f.b, f.An, f.cn, A9, c9, none, 0⟩ d.fs).map fkv = d.fs.map fkv := setF_same hff rfl rfl
      have efi : fiH ⟨⟨n, f.m.now, f.m.now, []⟩, f.b, f.An, f.cn, A9, c9, none, 0⟩ = row f.b 102 [.slice f.An f.m.now.length f.cn, .slice A9 f.m.now.length c9, .slice none 0 0] * (sbuf 5 1 f.An f.m.now.length f.cn (u8s f.m.now) * sbuf 5 1 A9 f.m.now.length c9 (u8s f.m.now)) := by
        unfold fiH fcs
        show _ * (_ * (_ * sbuf 3 1 none 0 0 [])) = _
        rw [sbuf_nil, star_one]
        rfl
      refine Xx.perm (Xx.drop (p := sbuf 5 1 f.As f.m.sure.length f.cs (u8s f.m.sure) * sbuf 3 1 f.Al f.m.loose.length f.cl (nv f.m.loose)) (H := dkH db { d with ch := d.ch + 1, fs := setF ⟨⟨n, f.m.now, f.m.now, []⟩, f.b, f.An, f.cn, A9, c9, none, 0⟩ d.fs } * R) ?_) (by show _ = _ * ((row db 97 (dcs { d with ch := d.ch + 1 }) * (imap d.mb ((setF ⟨⟨n, f.m.now, f.m.now, []⟩, f.b, f.An, f.cn, A9, c9, none, 0⟩ d.fs).map fkv) * (sbuf 25 3 d.Ap d.plan.length d.cp (d.plan.flatMap scs) * fisH (setF ⟨⟨n, f.m.now, f.m.now, []⟩, f.b, f.An, f.cn, A9, c9, none, 0⟩ d.fs)))) * R); rw [e1, e2, efi]; ac_rfl)
      exact Xx.ret1 rfl rfl ⟨by rw [hap], { d with ch := d.ch + 1, fs := setF ⟨⟨n, f.m.now, f.m.now, []⟩, f.b, f.An, f.cn, A9, c9, none, 0⟩ d.fs }, by rw [hap]; unfold Dk.abs; simp only [setF_m], rfl⟩ hB1 rfl
end DkJ
end Go.Proofs.Ytgcebieihmlaoaa
