/-
  A file cut; bytes put over a file's own.
-/
import Derived.Test.YtgcebieihmlaoaaProg
import Derived.Test.YtgcebieihmlaoaaSlj
import Derived.Test.YtgcebieihmlaoaaDkK
namespace Go.Proofs.Ytgcebieihmlaoaa
open Go.SL Go.RowKit
set_option linter.unusedVariables false
set_option linter.unusedSimpArgs false
set_option maxRecDepth 100000
open DkA DkB DkC DkD DkE DkF DkG DkH DkI DkJ DkK
namespace DkL
theorem sz3 : (Try.prog.info? 3).map (·.size) = some 1 := by kernel_rfl
theorem sz5 : (Try.prog.info? 5).map (·.size) = some 1 := by kernel_rfl
theorem sz25 : (Try.prog.info? 25).map (·.size) = some 3 := by kernel_rfl
theorem sz39 : (Try.prog.info? 39).map (·.size) = some 1 := by kernel_rfl
theorem sz80 : (Try.prog.info? 80).map (·.size) = some 1 := by kernel_rfl
theorem ti3 : TI Try.prog 3 [.int .i64 0] 1 8 := TI.of (by kernel_rfl) rfl rfl
theorem ti5 : TI Try.prog 5 [.int .u8 0] 1 1 := TI.of (by kernel_rfl) rfl rfl
theorem ti102 : TI Try.prog 102 [.slice none 0 0, .slice none 0 0, .slice none 0 0] 3 72 := TI.of (by kernel_rfl) rfl rfl
theorem fo102_0 : FO Try.prog 102 0 0 1 false := FO.of Try.underlying102 rfl rfl (by kernel_rfl) Try.underlying80 rfl rfl
theorem fo102_1 : FO Try.prog 102 1 1 1 false := FO.of Try.underlying102 rfl rfl (by kernel_rfl) Try.underlying80 rfl rfl
theorem fo102_2 : FO Try.prog 102 2 2 1 false := FO.of Try.underlying102 rfl rfl (by kernel_rfl) Try.underlying39 rfl rfl

theorem Xx.leT {e : Env} {ds : List Deferred} {K : Act → World → Prop} {ρ : Sl} {B : Frag} {H R : HP} (A : Option Addr) {et : TypeId} {size n c : Nat} {xs : List Value} [hp : PickS H A et size n c xs R]
    (h : n ≤ c → Xx e ds K ρ B H) : Xx e ds K ρ B H := fun a w f b' s => by
  have s' := s.of_eq hp.eq
  rcases s'.cases_sbuf with ⟨_, h2, h3, _⟩ | ⟨bb, sp, _, _, h3, _⟩
  · exact h (by omega) a w f b' s
  · exact h h3 a w f b' s
def writeD (D : Dm) (n at_ : Int) (s : List UInt8) : Dm × Int := if errM D n ≠ 0 then (D, errM D n)
  else if at_ < 0 ∨ at_ > ((fileM n D.fs).now.length : Nat) ∨ (s.length : Int) > ((fileM n D.fs).now.length : Nat) - at_ then (D, 1) else if (strikesD D).2 = true then ((strikesD D).1, 7)
  else ({ (strikesD D).1 with fs := setM ⟨n, (fileM n D.fs).now.take at_.toNat ++ s ++ (fileM n D.fs).now.drop (at_.toNat + s.length), (fileM n D.fs).sure, touchL (fileM n D.fs).loose at_.toNat (at_.toNat + s.length)⟩ (strikesD D).1.fs }, 0)

set_option maxHeartbeats 4000000 in
theorem Cut_ct (d : Dk) (db : Nat) (n long : Int) (B : Frag) (hF : d.abs.Fit) : Ct Try.prog 25 [.pointer (some ⟨db, 0, none⟩), i64 n, i64 long] B (dkH db d) (fun v B' H' => v = i64 (cutD d.abs n long).2 ∧ ∃ d' : Dk, d'.abs = (cutD d.abs n long).1 ∧ H' = dkH db d') := by
  refine Ct.of_body Try.func25 rfl (nt := 51) rfl (by kernel_rfl) rfl ?_
  intro N0 w0 R
  refine Cx.seq (fun K1 k1 => ?_)
  refine Cx.region ?_
  refine Lx.y (asg rfl) rfl ?_
  refine Lx.nil ?_
  refine Xx.tn (k1 _ _ _ _ ?_)
  refine Cx.seq (fun K2 k2 => ?_)
  refine Cx.region ?_
  refine Lx.y (mv rfl) rfl ?_
  refine Lx.y (mv rfl) rfl ?_
  refine Lx.co rfl rfl rfl (file_ct2 d db n _) (rfl) rfl ?_
  refine Lx.y (mv rfl) rfl ?_
  refine Lx.y (ext rfl rfl) rfl ?_
  refine Lx.y (ext rfl rfl) rfl ?_
  refine Lx.y (asg rfl) rfl ?_
  refine Lx.y (asg rfl) rfl ?_
  refine Lx.nil ?_
  refine Xx.tn (k2 _ _ _ _ ?_)
  refine Cx.seq (fun K3 k3 => ?_)
  refine Cx.seq (fun K4 k4 => ?_)
  refine Cx.region ?_
  refine Lx.y (mv rfl) rfl ?_
  refine Lx.y (neI rfl rfl) rfl ?_
  refine Lx.nil ?_
  refine Xx.tn (k4 _ _ _ _ ?_)
  refine Cx.condN rfl (fun h5 => ?_) (fun h5 => ?_)
  · skip
    have he := h5
    have hap : cutD d.abs n long = (d.abs, errM d.abs n) := by unfold cutD; rw [if_pos he]
    refine Cx.seq (fun K6 k6 => ?_)
    refine Cx.region ?_
    refine Lx.y (mv rfl) rfl ?_
    refine Lx.y (asg rfl) rfl ?_
    refine Lx.nil ?_
    refine Xx.tn (k6 _ _ _ _ ?_)
    refine Cx.ret ?_
    refine Xx.tr ?_
    exact Xx.ret1 rfl rfl ⟨by rw [hap]; rfl, d, by rw [hap], rfl⟩ (Frag.le_refl _) rfl
  · skip
    have he := h5
    obtain ⟨hd, f, hff, hfp, hfm⟩ := file_ok he
    have hfo : f.m.Ok := by rw [← hfm]; exact fileM_ok fun g hg => hF.ok hg
    have hfo3 := hfo.2.2.1
    have hfn := (findF_mem hff).2
    obtain ⟨Rf, hH, hset, hfs, hdel⟩ := dkH_at (d := d) (db := db) (n := n) (f := f) hff
    have hop : dkH db d * R = row db 97 (dcs d) * (imap d.mb (d.fs.map fkv) * (sbuf 25 3 d.Ap d.plan.length d.cp (d.plan.flatMap scs) * (row f.b 102 (fcs f) * (sbuf 5 1 f.An f.m.now.length f.cn (u8s f.m.now) * (sbuf 5 1 f.As f.m.sure.length f.cs (u8s f.m.sure) * (sbuf 3 1 f.Al f.m.loose.length f.cl (nv f.m.loose) * (Rf * R))))))) := by rw [hH, show fiH f = row f.b 102 (fcs f) * (sbuf 5 1 f.An f.m.now.length f.cn (u8s f.m.now) * (sbuf 5 1 f.As f.m.sure.length f.cs (u8s f.m.sure) * sbuf 3 1 f.Al f.m.loose.length f.cl (nv f.m.loose))) from rfl]; simp only [star_assoc]
    rw [hfp, hop]
    refine Cx.skip ?_
    refine Xx.tn (k3 _ _ _ _ ?_)
    refine Cx.seq (fun K7 k7 => ?_)
    refine Cx.seq (fun K8 k8 => ?_)
    refine Cx.region ?_
    refine Lx.y (mv rfl) rfl ?_
    refine Lx.y (lss rfl rfl) rfl ?_
    refine Lx.y (mv rfl) rfl ?_
    refine Xx.ifD (t := 20) rfl (fun h9 => ?_) (fun h9 => ?_)
    · skip
      have g1 : long < 0 := h9
      have hap : cutD d.abs n long = (d.abs, 1) := by unfold cutD; rw [if_neg (fun h => h he), hfm, if_pos (by first | exact .inl g1 | exact .inr g2)]
      refine Lx.gF rfl rfl rfl rfl ?_
      refine Lx.gF rfl rfl rfl rfl ?_
      refine Lx.gF rfl rfl rfl rfl ?_
      refine Lx.gF rfl rfl rfl rfl ?_
      refine Lx.gF rfl rfl rfl rfl ?_
      refine Lx.gF rfl rfl rfl rfl ?_
      refine Lx.gF rfl rfl rfl rfl ?_
      refine Lx.y (pickT rfl rfl) rfl ?_
      refine Lx.nil ?_
      refine Xx.tn (k8 _ _ _ _ ?_)
      refine Cx.condT rfl ?_
      refine Cx.seq (fun K10 k10 => ?_)
      refine Cx.region ?_
      refine Lx.y (asg rfl) rfl ?_
      refine Lx.nil ?_
      refine Xx.tn (k10 _ _ _ _ ?_)
      refine Cx.ret ?_
      refine Xx.tr ?_
      exact Xx.ret1 rfl rfl ⟨by rw [hap], d, by rw [hap], rfl⟩ (Frag.le_refl _) hop.symm
    · skip
      have g1 : ¬ long < 0 := h9
      refine Lx.gT rfl rfl rfl ?_
      refine Lx.y (mv rfl) rfl ?_
      refine Lx.gT rfl rfl rfl ?_
      refine Lx.y (mv rfl) rfl ?_
      refine Lx.gT rfl rfl rfl ?_
      refine Lx.y (nilc rfl) rfl ?_
      refine Lx.gT rfl rfl rfl ?_
      refine Lx.y (fa' fo102_0 rfl) rfl ?_
      refine Lx.gT rfl rfl rfl ?_
      refine Lx.y (Yx.val (ld Try.underlying80 rfl rfl rfl) (show _ = Value.slice f.An f.m.now.length f.cn from rfl)) rfl ?_
      refine Lx.gT rfl rfl rfl ?_
      refine Lx.y (lenV (ty' := 0) Try.underlying80 rfl) rfl ?_
      refine Lx.gT rfl rfl rfl ?_
      refine Lx.y (gtr rfl rfl) rfl ?_
      refine Lx.y (pickF rfl rfl) rfl ?_
      refine Lx.nil ?_
      refine Xx.tn (k8 _ _ _ _ ?_)
      refine Cx.condD rfl (fun h11 => ?_) (fun h11 => ?_)
      · skip
        have g2 : long > ((f.m.now.length : Nat) : Int) := h11
        have hap : cutD d.abs n long = (d.abs, 1) := by unfold cutD; rw [if_neg (fun h => h he), hfm, if_pos (by first | exact .inl g1 | exact .inr g2)]
        refine Cx.seq (fun K12 k12 => ?_)
        refine Cx.region ?_
        refine Lx.y (asg rfl) rfl ?_
        refine Lx.nil ?_
        refine Xx.tn (k12 _ _ _ _ ?_)
        refine Cx.ret ?_
        refine Xx.tr ?_
        exact Xx.ret1 rfl rfl ⟨by rw [hap], d, by rw [hap], rfl⟩ (Frag.le_refl _) hop.symm
      · skip
        have g2 : ¬ long > ((f.m.now.length : Nat) : Int) := h11
        have hbad : ¬ (long < 0 ∨ long > ((fileM n d.abs.fs).now.length : Nat)) := by rw [hfm]; omega
        rw [← hop]
        refine Cx.skip ?_
        refine Xx.tn (k7 _ _ _ _ ?_)
        refine Cx.seq (fun K13 k13 => ?_)
        refine Cx.seq (fun K14 k14 => ?_)
        refine Cx.region ?_
        refine Lx.y (mv rfl) rfl ?_
        refine Lx.c rfl rfl rfl (strikes_ct2 d db _ hF) (rfl) rfl ?_
        rintro v1 B1 H1 ⟨rfl, hFf, hTt⟩ hB1
        refine Lx.nil ?_
        refine Xx.tn (k14 _ _ _ _ ?_)
        refine Cx.condB rfl (fun h15 => ?_) (fun h15 => ?_)
        · skip
          have g3 := h15
          obtain ⟨d2, hd2, rfl⟩ := hTt g3
          have hap : cutD d.abs n long = ((strikesD d.abs).1, 7) := by unfold cutD; rw [if_neg (fun h => h he), if_neg hbad, if_pos g3]
          refine Cx.seq (fun K16 k16 => ?_)
          refine Cx.region ?_
          refine Lx.y (asg rfl) rfl ?_
          refine Lx.nil ?_
          refine Xx.tn (k16 _ _ _ _ ?_)
          refine Cx.ret ?_
          refine Xx.tr ?_
          exact Xx.ret1 rfl rfl ⟨by rw [hap], d2, by rw [hap]; exact hd2, rfl⟩ hB1 rfl
        · skip
          have g3 := h15
          obtain ⟨hs1, rfl⟩ := hFf g3
          obtain ⟨Rf, hH, hset, hfs, hdel⟩ := dkH_at (d := { d with ch := d.ch + 1 }) (db := db) (n := n) (f := f) hff
          rw [hH, show fiH f = row f.b 102 (fcs f) * (sbuf 5 1 f.An f.m.now.length f.cn (u8s f.m.now) * (sbuf 5 1 f.As f.m.sure.length f.cs (u8s f.m.sure) * sbuf 3 1 f.Al f.m.loose.length f.cl (nv f.m.loose))) from rfl]
          simp only [star_assoc]
          refine Xx.leT f.An (fun hnc => ?_)
          have hml : (f.m.now.take long.toNat).length = long.toNat := by rw [List.length_take]; omega
          refine Cx.skip ?_
          refine Xx.tn (k13 _ _ _ _ ?_)
          refine Cx.seq (fun K17 k17 => ?_)
          refine Cx.region ?_
          refine Lx.y (mv rfl) rfl ?_
          refine Lx.y (mv rfl) rfl ?_
          refine Lx.y (nilc rfl) rfl ?_
          refine Lx.y (fa' fo102_0 rfl) rfl ?_
          refine Lx.y (Yx.val (ld Try.underlying80 rfl rfl rfl) (show _ = Value.slice f.An f.m.now.length f.cn from rfl)) rfl ?_
          refine Lx.y (mv rfl) rfl ?_
          refine Lx.y (sl2V Try.underlying80 sz5 rfl rfl (by first | exact Int.toNat_natCast _ | rfl) (by omega) (by omega)) rfl ?_
          refine Lx.y (nilc rfl) rfl ?_
          refine Lx.y (fa' fo102_0 rfl) rfl ?_
          refine Lx.st (stO Try.underlying80 sz80 rfl rfl rfl (by show 0 < 3; omega) rfl) ?_
          refine Lx.nil ?_
          refine Xx.tn (k17 _ _ _ _ ?_)
          refine Cx.seq (fun K18 k18 => ?_)
          refine Xx.lessA f.An long.toNat (by omega) ?_
          rw [← u8s_take]
          refine Cx.region ?_
          refine Lx.y (mv rfl) rfl ?_
          refine Lx.y (mv rfl) rfl ?_
          refine Lx.y (mv rfl) rfl ?_
          refine Lx.y (nilc rfl) rfl ?_
          refine Lx.y (fa' fo102_0 rfl) rfl ?_
          refine Lx.y (Yx.val (ld Try.underlying80 rfl rfl rfl) (show _ = Value.slice f.An long.toNat f.cn from rfl)) rfl ?_
          refine Lx.c rfl rfl rfl (ClB_ct f.An long.toNat f.cn (u8s (f.m.now.take long.toNat)) _ (u8_all _) (by omega) (by omega)) (pickS _) rfl ?_
          rintro v3 B3 H3 ⟨hBB, A9, c9, rfl, rfl⟩ hB3
          subst hBB
          rename Frag => B3
          clear hB3
          simp only [star_assoc]
          refine Lx.y (nilc rfl) rfl ?_
          refine Lx.y (fa' fo102_1 rfl) rfl ?_
          refine Lx.st (stO Try.underlying80 sz80 rfl rfl rfl (by show 1 < 3; omega) rfl) ?_
          refine Lx.y (nilc rfl) rfl ?_
          refine Lx.y (fa' fo102_2 rfl) rfl ?_
          refine Lx.st (stO Try.underlying39 sz39 rfl rfl rfl (by show 2 < 3; omega) rfl) ?_
          refine Lx.nil ?_
          refine Xx.tn (k18 _ _ _ _ ?_)
          refine Cx.seq (fun K19 k19 => ?_)
          refine Cx.region ?_
          refine Lx.y (asg rfl) rfl ?_
          refine Lx.nil ?_
          refine Xx.tn (k19 _ _ _ _ ?_)
          refine Cx.ret ?_
          have hap : cutD d.abs n long = ({ d.abs with ch := d.ch + 1, fs := setM ⟨n, f.m.now.take long.toNat, f.m.now.take long.toNat, []⟩ d.abs.fs }, 0) := by
            unfold cutD
            rw [if_neg (fun h => h he), if_neg hbad, if_neg (by rw [g3]; decide), hs1, hfm]
          have e1 := hset ⟨⟨n, f.m.now.take long.toNat, f.m.now.take long.toNat, []⟩, f.b, f.An, f.cn, A9, c9, none, 0⟩ rfl
          have e2 : (setF ⟨⟨n, f.m.now.take long.toNat, f.m.now.take long.toNat, []⟩, f.b, f.An, f.cn, A9, c9, none, 0⟩ d.fs).map fkv = d.fs.map fkv := setF_same hff rfl rfl
          have efi : fiH ⟨⟨n, f.m.now.take long.toNat, f.m.now.take long.toNat, []⟩, f.b, f.An, f.cn, A9, c9, none, 0⟩ = row f.b 102 [.slice f.An long.toNat f.cn, .slice A9 long.toNat c9, .slice none 0 0] * (sbuf 5 1 f.An long.toNat f.cn (u8s (f.m.now.take long.toNat)) * sbuf 5 1 A9 long.toNat c9 (u8s (f.m.now.take long.toNat))) := by
            unfold fiH fcs
            simp only [hml]
            show _ * (_ * (_ * sbuf 3 1 none 0 0 [])) = _
            rw [sbuf_nil, star_one]
            rfl
          refine Xx.perm (Xx.drop (p := sbuf 5 1 f.As f.m.sure.length f.cs (u8s f.m.sure) * sbuf 3 1 f.Al f.m.loose.length f.cl (nv f.m.loose)) (H := dkH db { d with ch := d.ch + 1, fs := setF ⟨⟨n, f.m.now.take long.toNat, f.m.now.take long.toNat, []⟩, f.b, f.An, f.cn, A9, c9, none, 0⟩ d.fs } * R) ?_) (by show _ = _ * ((row db 97 (dcs { d with ch := d.ch + 1 }) * (imap d.mb ((setF ⟨⟨n, f.m.now.take long.toNat, f.m.now.take long.toNat, []⟩, f.b, f.An, f.cn, A9, c9, none, 0⟩ d.fs).map fkv) * (sbuf 25 3 d.Ap d.plan.length d.cp (d.plan.flatMap scs) * fisH (setF ⟨⟨n, f.m.now.take long.toNat, f.m.now.take long.toNat, []⟩, f.b, f.An, f.cn, A9, c9, none, 0⟩ d.fs)))) * R); rw [e1, e2, efi]; ac_rfl)
          exact Xx.ret1 rfl rfl ⟨by rw [hap], { d with ch := d.ch + 1, fs := setF ⟨⟨n, f.m.now.take long.toNat, f.m.now.take long.toNat, []⟩, f.b, f.An, f.cn, A9, c9, none, 0⟩ d.fs }, by rw [hap]; unfold Dk.abs; simp only [setF_m], rfl⟩ hB1 rfl

set_option maxHeartbeats 4000000 in
theorem Write_ct (d : Dk) (db : Nat) (n at_ : Int) (s : List UInt8) (B : Frag) (hF : d.abs.Fit) (hs : s.length ≤ 68719476736) : Ct Try.prog 24 [.pointer (some ⟨db, 0, none⟩), i64 n, i64 at_, str s] B (dkH db d) (fun v B' H' => v = i64 (writeD d.abs n at_ s).2 ∧ ∃ d' : Dk, d'.abs = (writeD d.abs n at_ s).1 ∧ H' = dkH db d') := by
  refine Ct.of_body Try.func24 rfl (nt := 60) rfl (by kernel_rfl) rfl ?_
  intro N0 w0 R
  refine Cx.seq (fun K1 k1 => ?_)
  refine Cx.region ?_
  refine Lx.y (asg rfl) rfl ?_
  refine Lx.nil ?_
  refine Xx.tn (k1 _ _ _ _ ?_)
  refine Cx.seq (fun K2 k2 => ?_)
  refine Cx.region ?_
  refine Lx.y (mv rfl) rfl ?_
  refine Lx.y (mv rfl) rfl ?_
  refine Lx.co rfl rfl rfl (file_ct2 d db n _) (rfl) rfl ?_
  refine Lx.y (mv rfl) rfl ?_
  refine Lx.y (ext rfl rfl) rfl ?_
  refine Lx.y (ext rfl rfl) rfl ?_
  refine Lx.y (asg rfl) rfl ?_
  refine Lx.y (asg rfl) rfl ?_
  refine Lx.nil ?_
  refine Xx.tn (k2 _ _ _ _ ?_)
  refine Cx.seq (fun K3 k3 => ?_)
  refine Cx.seq (fun K4 k4 => ?_)
  refine Cx.region ?_
  refine Lx.y (mv rfl) rfl ?_
  refine Lx.y (neI rfl rfl) rfl ?_
  refine Lx.nil ?_
  refine Xx.tn (k4 _ _ _ _ ?_)
  refine Cx.condN rfl (fun h5 => ?_) (fun h5 => ?_)
  · skip
    have he := h5
    have hap : writeD d.abs n at_ s = (d.abs, errM d.abs n) := by unfold writeD; rw [if_pos he]
    refine Cx.seq (fun K6 k6 => ?_)
    refine Cx.region ?_
    refine Lx.y (mv rfl) rfl ?_
    refine Lx.y (asg rfl) rfl ?_
    refine Lx.nil ?_
    refine Xx.tn (k6 _ _ _ _ ?_)
    refine Cx.ret ?_
    refine Xx.tr ?_
    exact Xx.ret1 rfl rfl ⟨by rw [hap]; rfl, d, by rw [hap], rfl⟩ (Frag.le_refl _) rfl
  · skip
    have he := h5
    obtain ⟨hd, f, hff, hfp, hfm⟩ := file_ok he
    have hfo : f.m.Ok := by rw [← hfm]; exact fileM_ok fun g hg => hF.ok hg
    have hfo3 := hfo.2.2.1
    have hfn := (findF_mem hff).2
    obtain ⟨Rf, hH, hset, hfs, hdel⟩ := dkH_at (d := d) (db := db) (n := n) (f := f) hff
    have hop : dkH db d * R = row db 97 (dcs d) * (imap d.mb (d.fs.map fkv) * (sbuf 25 3 d.Ap d.plan.length d.cp (d.plan.flatMap scs) * (row f.b 102 (fcs f) * (sbuf 5 1 f.An f.m.now.length f.cn (u8s f.m.now) * (sbuf 5 1 f.As f.m.sure.length f.cs (u8s f.m.sure) * (sbuf 3 1 f.Al f.m.loose.length f.cl (nv f.m.loose) * (Rf * R))))))) := by rw [hH, show fiH f = row f.b 102 (fcs f) * (sbuf 5 1 f.An f.m.now.length f.cn (u8s f.m.now) * (sbuf 5 1 f.As f.m.sure.length f.cs (u8s f.m.sure) * sbuf 3 1 f.Al f.m.loose.length f.cl (nv f.m.loose))) from rfl]; simp only [star_assoc]
    rw [hfp, hop]
    refine Cx.skip ?_
    refine Xx.tn (k3 _ _ _ _ ?_)
    refine Cx.seq (fun K7 k7 => ?_)
    refine Cx.seq (fun K8 k8 => ?_)
    refine Cx.region ?_
    refine Lx.y (mv rfl) rfl ?_
    refine Lx.y (lss rfl rfl) rfl ?_
    refine Lx.y (mv rfl) rfl ?_
    refine Xx.ifD (t := 22) rfl (fun h9 => ?_) (fun h9 => ?_)
    · skip
      have g1 : at_ < 0 := h9
      have hap : writeD d.abs n at_ s = (d.abs, 1) := by unfold writeD; rw [if_neg (fun h => h he), hfm, if_pos (by first | exact .inl g1 | exact .inr (.inl g2) | exact .inr (.inr g4))]
      refine Lx.gF rfl rfl rfl rfl ?_
      refine Lx.gF rfl rfl rfl rfl ?_
      refine Lx.gF rfl rfl rfl rfl ?_
      refine Lx.gF rfl rfl rfl rfl ?_
      refine Lx.gF rfl rfl rfl rfl ?_
      refine Lx.gF rfl rfl rfl rfl ?_
      refine Lx.gF rfl rfl rfl rfl ?_
      refine Lx.y (pickT rfl rfl) rfl ?_
      refine Lx.y (mv rfl) rfl ?_
      refine Lx.gF rfl rfl rfl rfl ?_
      refine Lx.gF rfl rfl rfl rfl ?_
      refine Lx.gF rfl rfl rfl rfl ?_
      refine Lx.gF rfl rfl rfl rfl ?_
      refine Lx.gF rfl rfl rfl rfl ?_
      refine Lx.gF rfl rfl rfl rfl ?_
      refine Lx.gF rfl rfl rfl rfl ?_
      refine Lx.gF rfl rfl rfl rfl ?_
      refine Lx.gF rfl rfl rfl rfl ?_
      refine Lx.gF rfl rfl rfl rfl ?_
      refine Lx.y (pickT rfl rfl) rfl ?_
      refine Lx.nil ?_
      refine Xx.tn (k8 _ _ _ _ ?_)
      refine Cx.condT rfl ?_
      refine Cx.seq (fun K10 k10 => ?_)
      refine Cx.region ?_
      refine Lx.y (asg rfl) rfl ?_
      refine Lx.nil ?_
      refine Xx.tn (k10 _ _ _ _ ?_)
      refine Cx.ret ?_
      refine Xx.tr ?_
      exact Xx.ret1 rfl rfl ⟨by rw [hap], d, by rw [hap], rfl⟩ (Frag.le_refl _) hop.symm
    · skip
      have g1 : ¬ at_ < 0 := h9
      refine Lx.gT rfl rfl rfl ?_
      refine Lx.y (mv rfl) rfl ?_
      refine Lx.gT rfl rfl rfl ?_
      refine Lx.y (mv rfl) rfl ?_
      refine Lx.gT rfl rfl rfl ?_
      refine Lx.y (nilc rfl) rfl ?_
      refine Lx.gT rfl rfl rfl ?_
      refine Lx.y (fa' fo102_0 rfl) rfl ?_
      refine Lx.gT rfl rfl rfl ?_
      refine Lx.y (Yx.val (ld Try.underlying80 rfl rfl rfl) (show _ = Value.slice f.An f.m.now.length f.cn from rfl)) rfl ?_
      refine Lx.gT rfl rfl rfl ?_
      refine Lx.y (lenV (ty' := 0) Try.underlying80 rfl) rfl ?_
      refine Lx.gT rfl rfl rfl ?_
      refine Lx.y (gtr rfl rfl) rfl ?_
      refine Lx.y (pickF rfl rfl) rfl ?_
      refine Lx.y (mv rfl) rfl ?_
      refine Xx.ifD (t := 31) rfl (fun h11 => ?_) (fun h11 => ?_)
      · skip
        have g2 : at_ > ((f.m.now.length : Nat) : Int) := h11
        have hap : writeD d.abs n at_ s = (d.abs, 1) := by unfold writeD; rw [if_neg (fun h => h he), hfm, if_pos (by first | exact .inl g1 | exact .inr (.inl g2) | exact .inr (.inr g4))]
        refine Lx.gF rfl rfl rfl rfl ?_
        refine Lx.gF rfl rfl rfl rfl ?_
        refine Lx.gF rfl rfl rfl rfl ?_
        refine Lx.gF rfl rfl rfl rfl ?_
        refine Lx.gF rfl rfl rfl rfl ?_
        refine Lx.gF rfl rfl rfl rfl ?_
        refine Lx.gF rfl rfl rfl rfl ?_
        refine Lx.gF rfl rfl rfl rfl ?_
        refine Lx.gF rfl rfl rfl rfl ?_
        refine Lx.gF rfl rfl rfl rfl ?_
        refine Lx.y (pickT rfl rfl) rfl ?_
        refine Lx.nil ?_
        refine Xx.tn (k8 _ _ _ _ ?_)
        refine Cx.condT rfl ?_
        refine Cx.seq (fun K12 k12 => ?_)
        refine Cx.region ?_
        refine Lx.y (asg rfl) rfl ?_
        refine Lx.nil ?_
        refine Xx.tn (k12 _ _ _ _ ?_)
        refine Cx.ret ?_
        refine Xx.tr ?_
        exact Xx.ret1 rfl rfl ⟨by rw [hap], d, by rw [hap], rfl⟩ (Frag.le_refl _) hop.symm
      · skip
        have g2 : ¬ at_ > ((f.m.now.length : Nat) : Int) := h11
        refine Lx.gT rfl rfl rfl ?_
        refine Lx.y (mv rfl) rfl ?_
        refine Lx.gT rfl rfl rfl ?_
        refine Lx.y (lenS Try.underlying9 rfl) rfl ?_
        refine Lx.gT rfl rfl rfl ?_
        refine Lx.y (mv rfl) rfl ?_
        refine Lx.gT rfl rfl rfl ?_
        refine Lx.y (nilc rfl) rfl ?_
        refine Lx.gT rfl rfl rfl ?_
        refine Lx.y (fa' fo102_0 rfl) rfl ?_
        refine Lx.gT rfl rfl rfl ?_
        refine Lx.y (Yx.val (ld Try.underlying80 rfl rfl rfl) (show _ = Value.slice f.An f.m.now.length f.cn from rfl)) rfl ?_
        refine Lx.gT rfl rfl rfl ?_
        refine Lx.y (lenV (ty' := 0) Try.underlying80 rfl) rfl ?_
        refine Lx.gT rfl rfl rfl ?_
        refine Lx.y (mv rfl) rfl ?_
        refine Lx.gT rfl rfl rfl ?_
        refine Lx.y (sub rfl rfl (by first | exact wrap64 (by omega) (by omega) | rfl)) rfl ?_
        refine Lx.gT rfl rfl rfl ?_
        refine Lx.y (gtr rfl rfl) rfl ?_
        refine Lx.y (pickF rfl rfl) rfl ?_
        refine Lx.nil ?_
        refine Xx.tn (k8 _ _ _ _ ?_)
        refine Cx.condD rfl (fun h13 => ?_) (fun h13 => ?_)
        · skip
          have g4 : (s.length : Int) > ((f.m.now.length : Nat) : Int) - at_ := h13
          have hap : writeD d.abs n at_ s = (d.abs, 1) := by unfold writeD; rw [if_neg (fun h => h he), hfm, if_pos (by first | exact .inl g1 | exact .inr (.inl g2) | exact .inr (.inr g4))]
          refine Cx.seq (fun K14 k14 => ?_)
          refine Cx.region ?_
          refine Lx.y (asg rfl) rfl ?_
          refine Lx.nil ?_
          refine Xx.tn (k14 _ _ _ _ ?_)
          refine Cx.ret ?_
          refine Xx.tr ?_
          exact Xx.ret1 rfl rfl ⟨by rw [hap], d, by rw [hap], rfl⟩ (Frag.le_refl _) hop.symm
        · skip
          have g4 : ¬ (s.length : Int) > ((f.m.now.length : Nat) : Int) - at_ := h13
          have hbad : ¬ (at_ < 0 ∨ at_ > ((fileM n d.abs.fs).now.length : Nat) ∨ (s.length : Int) > ((fileM n d.abs.fs).now.length : Nat) - at_) := by rw [hfm]; omega
          rw [← hop]
          refine Cx.skip ?_
          refine Xx.tn (k7 _ _ _ _ ?_)
          refine Cx.seq (fun K15 k15 => ?_)
          refine Cx.seq (fun K16 k16 => ?_)
          refine Cx.region ?_
          refine Lx.y (mv rfl) rfl ?_
          refine Lx.c rfl rfl rfl (strikes_ct2 d db _ hF) (rfl) rfl ?_
          rintro v1 B1 H1 ⟨rfl, hFf, hTt⟩ hB1
          refine Lx.nil ?_
          refine Xx.tn (k16 _ _ _ _ ?_)
          refine Cx.condB rfl (fun h17 => ?_) (fun h17 => ?_)
          · skip
            have g3 := h17
            obtain ⟨d2, hd2, rfl⟩ := hTt g3
            have hap : writeD d.abs n at_ s = ((strikesD d.abs).1, 7) := by unfold writeD; rw [if_neg (fun h => h he), if_neg hbad, if_pos g3]
            refine Cx.seq (fun K18 k18 => ?_)
            refine Cx.region ?_
            refine Lx.y (asg rfl) rfl ?_
            refine Lx.nil ?_
            refine Xx.tn (k18 _ _ _ _ ?_)
            refine Cx.ret ?_
            refine Xx.tr ?_
            exact Xx.ret1 rfl rfl ⟨by rw [hap], d2, by rw [hap]; exact hd2, rfl⟩ hB1 rfl
          · skip
            have g3 := h17
            obtain ⟨hs1, rfl⟩ := hFf g3
            obtain ⟨Rf, hH, hset, hfs, hdel⟩ := dkH_at (d := { d with ch := d.ch + 1 }) (db := db) (n := n) (f := f) hff
            rw [hH, show fiH f = row f.b 102 (fcs f) * (sbuf 5 1 f.An f.m.now.length f.cn (u8s f.m.now) * (sbuf 5 1 f.As f.m.sure.length f.cs (u8s f.m.sure) * sbuf 3 1 f.Al f.m.loose.length f.cl (nv f.m.loose))) from rfl]
            simp only [star_assoc]
            refine Cx.skip ?_
            refine Xx.tn (k15 _ _ _ _ ?_)
            refine Cx.seq (fun K19 k19 => ?_)
            refine Cx.region ?_
            refine Lx.y (mv rfl) rfl ?_
            refine Lx.y (nilc rfl) rfl ?_
            refine Lx.y (fa' fo102_0 rfl) rfl ?_
            refine Lx.y (Yx.val (ld Try.underlying80 rfl rfl rfl) (show _ = Value.slice f.An f.m.now.length f.cn from rfl)) rfl ?_
            refine Lx.y (mv rfl) rfl ?_
            refine Lx.y (sl1V Try.underlying80 sz5 rfl rfl (by first | exact Int.toNat_natCast _ | rfl) (by omega) (by omega)) rfl ?_
            refine Lx.y (mv rfl) rfl ?_
            refine Lx.o (cpT (et := 5) (A := f.An) (n := f.m.now.length) (k := at_.toNat) (c := f.cn) s.length (u8s (f.m.now.take at_.toNat ++ s ++ f.m.now.drop (at_.toNat + s.length))) Try.underlying80 sz5 rfl rfl (by omega) (by show min _ _ = _; omega) (u8s_len s) rfl (u8_all _) (by rw [u8s_app, u8s_app, u8s_take, u8s_drop])) rfl (fun v B' H' hΦ hB => ?_)
            obtain ⟨rfl, hBB, rfl⟩ := hΦ
            have hBB2 := hBB.symm
            subst hBB2
            clear hB
            refine Lx.nil ?_
            refine Xx.tn (k19 _ _ _ _ ?_)
            refine Cx.seq (fun K20 k20 => ?_)
            have hwl : (f.m.now.take at_.toNat ++ s ++ f.m.now.drop (at_.toNat + s.length)).length = f.m.now.length := by simp only [List.length_append, List.length_take, List.length_drop]; omega
            have efi : fiH ⟨⟨n, (f.m.now.take at_.toNat ++ s ++ f.m.now.drop (at_.toNat + s.length)), f.m.sure, f.m.loose⟩, f.b, f.An, f.cn, f.As, f.cs, f.Al, f.cl⟩ = row f.b 102 (fcs f) * (sbuf 5 1 f.An f.m.now.length f.cn (u8s (f.m.now.take at_.toNat ++ s ++ f.m.now.drop (at_.toNat + s.length))) * (sbuf 5 1 f.As f.m.sure.length f.cs (u8s f.m.sure) * sbuf 3 1 f.Al f.m.loose.length f.cl (nv f.m.loose))) := by
              unfold fiH fcs
              simp only [hwl]
            refine Cx.region ?_
            refine Lx.y (mv rfl) rfl ?_
            refine Lx.y (Yx.val (mv rfl) (show _ = i64 ((at_.toNat : Nat) : Int) by rw [Int.toNat_of_nonneg (by omega)])) rfl ?_
            refine Lx.y (Yx.val (mv rfl) (show _ = i64 ((at_.toNat : Nat) : Int) by rw [Int.toNat_of_nonneg (by omega)])) rfl ?_
            refine Lx.y (mv rfl) rfl ?_
            refine Lx.y (lenS Try.underlying9 rfl) rfl ?_
            refine Lx.y (Yx.val (add rfl rfl (by first | exact wrap64 (by omega) (by omega) | rfl)) (show _ = i64 ((at_.toNat + s.length : Nat) : Int) from rfl)) rfl ?_
            refine Lx.c rfl rfl rfl (touch_ct ⟨⟨n, (f.m.now.take at_.toNat ++ s ++ f.m.now.drop (at_.toNat + s.length)), f.m.sure, f.m.loose⟩, f.b, f.An, f.cn, f.As, f.cs, f.Al, f.cl⟩ at_.toNat (at_.toNat + s.length) _ hfo.1 (by have := hfo.loose; simp only; omega) (by omega) (by omega)) ((show _ = fiH ⟨⟨n, (f.m.now.take at_.toNat ++ s ++ f.m.now.drop (at_.toNat + s.length)), f.m.sure, f.m.loose⟩, f.b, f.An, f.cn, f.As, f.cs, f.Al, f.cl⟩ * (row db 97 (dcs { d with ch := d.ch + 1 }) * (imap d.mb (d.fs.map fkv) * (sbuf 25 3 d.Ap d.plan.length d.cp (d.plan.flatMap scs) * (Rf * R)))) by rw [efi]; ac_rfl)) rfl ?_
            rintro v2 B2 H2 ⟨hBB, rfl, Al9, cl9, rfl⟩ hB2
            subst hBB
            rename Frag => B2
            clear hB2
            refine Lx.nil ?_
            refine Xx.tn (k20 _ _ _ _ ?_)
            refine Cx.seq (fun K21 k21 => ?_)
            refine Cx.region ?_
            refine Lx.y (asg rfl) rfl ?_
            refine Lx.nil ?_
            refine Xx.tn (k21 _ _ _ _ ?_)
            refine Cx.ret ?_
            have hap : writeD d.abs n at_ s = ({ d.abs with ch := d.ch + 1, fs := setM ⟨n, (f.m.now.take at_.toNat ++ s ++ f.m.now.drop (at_.toNat + s.length)), f.m.sure, touchL f.m.loose at_.toNat (at_.toNat + s.length)⟩ d.abs.fs }, 0) := by
              unfold writeD
              rw [if_neg (fun h => h he), if_neg hbad, if_neg (by rw [g3]; decide), hs1, hfm]
            obtain ⟨F5, hF5⟩ : ∃ F5 : Fi, F5 = ⟨⟨n, (f.m.now.take at_.toNat ++ s ++ f.m.now.drop (at_.toNat + s.length)), f.m.sure, touchL f.m.loose at_.toNat (at_.toNat + s.length)⟩, f.b, f.An, f.cn, f.As, f.cs, Al9, cl9⟩ := ⟨_, rfl⟩
            have e1 := hset F5 (by rw [hF5])
            have e2 : (setF F5 d.fs).map fkv = d.fs.map fkv := setF_same hff (by rw [hF5]) (by rw [hF5])
            refine Xx.perm (H' := dkH db { d with ch := d.ch + 1, fs := setF F5 d.fs } * R) ?_ (by show _ = ((row db 97 (dcs { d with ch := d.ch + 1 }) * (imap d.mb ((setF F5 d.fs).map fkv) * (sbuf 25 3 d.Ap d.plan.length d.cp (d.plan.flatMap scs) * fisH (setF F5 d.fs)))) * R); rw [e1, e2, hF5]; ac_rfl)
            exact Xx.ret1 rfl rfl ⟨by rw [hap], { d with ch := d.ch + 1, fs := setF F5 d.fs }, by rw [hap]; unfold Dk.abs; simp only [setF_m, hF5], rfl⟩ hB1 rfl
end DkL
end Go.Proofs.Ytgcebieihmlaoaa
