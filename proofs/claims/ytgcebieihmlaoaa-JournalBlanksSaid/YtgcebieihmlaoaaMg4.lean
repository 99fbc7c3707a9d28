/-
  Texts of this seat, one behind the other: DkL, DkM, DkN, Slz, Jn1, Jn2, Jn3, Jn4, Jn5.
-/
import Derived.Test.YtgcebieihmlaoaaProg
import Derived.Lib.UnsafeStr
import Derived.Test.YtgcebieihmlaoaaMg3

/-
  A file cut; bytes put over a file's own.
-/
namespace Go.Proofs.Ytgcebieihmlaoaa
open Go.SL Go.RowKit
set_option linter.unusedVariables false
set_option linter.unusedSimpArgs false
set_option maxRecDepth 100000
open DkA DkB DkC DkD DkE DkF DkG DkH DkI DkJ DkK
namespace DkL
theorem sz3 : (Try.prog.info? 3).map (·.size) = some 1 := by kernel_rfl
theorem sz5 : (Try.prog.info? 5).map (·.size) = some 1 := by kernel_rfl
theorem sz25 : (Try.prog.info? 25).map (·.size) = some 3 := by kernel_rfl
theorem sz39 : (Try.prog.info? 39).map (·.size) = some 1 := by kernel_rfl
theorem sz80 : (Try.prog.info? 80).map (·.size) = some 1 := by kernel_rfl
theorem ti3 : TI Try.prog 3 [.int .i64 0] 1 8 := TI.of (by kernel_rfl) rfl rfl
theorem ti5 : TI Try.prog 5 [.int .u8 0] 1 1 := TI.of (by kernel_rfl) rfl rfl
theorem ti102 : TI Try.prog 102 [.slice none 0 0, .slice none 0 0, .slice none 0 0] 3 72 := TI.of (by kernel_rfl) rfl rfl
theorem fo102_0 : FO Try.prog 102 0 0 1 false := FO.of Try.underlying102 rfl rfl (by kernel_rfl) Try.underlying80 rfl rfl
theorem fo102_1 : FO Try.prog 102 1 1 1 false := FO.of Try.underlying102 rfl rfl (by kernel_rfl) Try.underlying80 rfl rfl
theorem fo102_2 : FO Try.prog 102 2 2 1 false := FO.of Try.underlying102 rfl rfl (by kernel_rfl) Try.underlying39 rfl rfl

theorem Xx.leT {e : Env} {ds : List Deferred} {K : Act → World → Prop} {ρ : Sl} {B : Frag} {H R : HP} (A : Option Addr) {et : TypeId} {size n c : Nat} {xs : List Value} [hp : PickS H A et size n c xs R]
    (h : n ≤ c → Xx e ds K ρ B H) : Xx e ds K ρ B H := fun a w f b' s => by
  have s' := s.of_eq hp.eq
  rcases s'.cases_sbuf with ⟨_, h2, h3, _⟩ | ⟨bb, sp, _, _, h3, _⟩
  · exact h (by omega) a w f b' s
  · exact h h3 a w f b' s
def writeD (D : Dm) (n at_ : Int) (s : List UInt8) : Dm × Int := if errM D n ≠ 0 then (D, errM D n)
  else if at_ < 0 ∨ at_ > ((fileM n D.fs).now.length : Nat) ∨ (s.length : Int) > ((fileM n D.fs).now.length : Nat) - at_ then (D, 1) else if (strikesD D).2 = true then ((strikesD D).1, 7)
  else ({ (strikesD D).1 with fs := setM ⟨n, (fileM n D.fs).now.take at_.toNat ++ s ++ (fileM n D.fs).now.drop (at_.toNat + s.length), (fileM n D.fs).sure, touchL (fileM n D.fs).loose at_.toNat (at_.toNat + s.length)⟩ (strikesD D).1.fs }, 0)

set_option maxHeartbeats 4000000 in
theorem Cut_ct (d : Dk) (db : Nat) (n long : Int) (B : Frag) (hF : d.abs.Fit) : Ct Try.prog 25 [.pointer (some ⟨db, 0, none⟩), i64 n, i64 long] B (dkH db d) (fun v B' H' => v = i64 (cutD d.abs n long).2 ∧ ∃ d' : Dk, d'.abs = (cutD d.abs n long).1 ∧ H' = dkH db d') := by
  refine Ct.of_body Try.func25 rfl (nt := 51) rfl (by kernel_rfl) rfl ?_
  intro N0 w0 R
  refine Cx.seq (fun K1 k1 => ?_)
  refine Cx.region ?_
  refine Lx.y (asg rfl) rfl ?_
  refine Lx.nil ?_
  refine Xx.tn (k1 _ _ _ _ ?_)
  refine Cx.seq (fun K2 k2 => ?_)
  refine Cx.region ?_
  refine Lx.y (mv rfl) rfl ?_
  refine Lx.y (mv rfl) rfl ?_
  refine Lx.co rfl rfl rfl (file_ct2 d db n _) (rfl) rfl ?_
  refine Lx.y (mv rfl) rfl ?_
  refine Lx.y (ext rfl rfl) rfl ?_
  refine Lx.y (ext rfl rfl) rfl ?_
  refine Lx.y (asg rfl) rfl ?_
  refine Lx.y (asg rfl) rfl ?_
  refine Lx.nil ?_
  refine Xx.tn (k2 _ _ _ _ ?_)
  refine Cx.seq (fun K3 k3 => ?_)
  refine Cx.seq (fun K4 k4 => ?_)
  refine Cx.region ?_
  refine Lx.y (mv rfl) rfl ?_
  refine Lx.y (neI rfl rfl) rfl ?_
  refine Lx.nil ?_
  refine Xx.tn (k4 _ _ _ _ ?_)
  refine Cx.condN rfl (fun h5 => ?_) (fun h5 => ?_)
  · skip
    have he := h5
    have hap : cutD d.abs n long = (d.abs, errM d.abs n) := by unfold cutD; rw [if_pos he]
    refine Cx.seq (fun K6 k6 => ?_)
    refine Cx.region ?_
    refine Lx.y (mv rfl) rfl ?_
    refine Lx.y (asg rfl) rfl ?_
    refine Lx.nil ?_
    refine Xx.tn (k6 _ _ _ _ ?_)
    refine Cx.ret ?_
    refine Xx.tr ?_
    exact Xx.ret1 rfl rfl ⟨by rw [hap]; rfl, d, by rw [hap], rfl⟩ (Frag.le_refl _) rfl
  · skip
    have he := h5
    obtain ⟨hd, f, hff, hfp, hfm⟩ := file_ok he
    have hfo : f.m.Ok := by rw [← hfm]; exact fileM_ok fun g hg => hF.ok hg
    have hfo3 := hfo.2.2.1
    have hfn := (findF_mem hff).2
    obtain ⟨Rf, hH, hset, hfs, hdel⟩ := dkH_at (d := d) (db := db) (n := n) (f := f) hff
    have hop : dkH db d * R = row db 97 (dcs d) * (imap d.mb (d.fs.map fkv) * (sbuf 25 3 d.Ap d.plan.length d.cp (d.plan.flatMap scs) * (row f.b 102 (fcs f) * (sbuf 5 1 f.An f.m.now.length f.cn (u8s f.m.now) * (sbuf 5 1 f.As f.m.sure.length f.cs (u8s f.m.sure) * (sbuf 3 1 f.Al f.m.loose.length f.cl (nv f.m.loose) * (Rf * R))))))) := by rw [hH, show fiH f = row f.b 102 (fcs f) * (sbuf 5 1 f.An f.m.now.length f.cn (u8s f.m.now) * (sbuf 5 1 f.As f.m.sure.length f.cs (u8s f.m.sure) * sbuf 3 1 f.Al f.m.loose.length f.cl (nv f.m.loose))) from rfl]; simp only [star_assoc]
    rw [hfp, hop]
    refine Cx.skip ?_
    refine Xx.tn (k3 _ _ _ _ ?_)
    refine Cx.seq (fun K7 k7 => ?_)
    refine Cx.seq (fun K8 k8 => ?_)
    refine Cx.region ?_
    refine Lx.y (mv rfl) rfl ?_
    refine Lx.y (lss rfl rfl) rfl ?_
    refine Lx.y (mv rfl) rfl ?_
    refine Xx.ifD (t := 20) rfl (fun h9 => ?_) (fun h9 => ?_)
    · skip
      have g1 : long < 0 := h9
      have hap : cutD d.abs n long = (d.abs, 1) := by unfold cutD; rw [if_neg (fun h => h he), hfm, if_pos (by first | exact .inl g1 | exact .inr g2)]
      refine Lx.gF rfl rfl rfl rfl ?_
      refine Lx.gF rfl rfl rfl rfl ?_
      refine Lx.gF rfl rfl rfl rfl ?_
      refine Lx.gF rfl rfl rfl rfl ?_
      refine Lx.gF rfl rfl rfl rfl ?_
      refine Lx.gF rfl rfl rfl rfl ?_
      refine Lx.gF rfl rfl rfl rfl ?_
      refine Lx.y (pickT rfl rfl) rfl ?_
      refine Lx.nil ?_
      refine Xx.tn (k8 _ _ _ _ ?_)
      refine Cx.condT rfl ?_
      refine Cx.seq (fun K10 k10 => ?_)
      refine Cx.region ?_
      refine Lx.y (asg rfl) rfl ?_
      refine Lx.nil ?_
      refine Xx.tn (k10 _ _ _ _ ?_)
      refine Cx.ret ?_
      refine Xx.tr ?_
      exact Xx.ret1 rfl rfl ⟨by rw [hap], d, by rw [hap], rfl⟩ (Frag.le_refl _) hop.symm
    · skip
      have g1 : ¬ long < 0 := h9
      refine Lx.gT rfl rfl rfl ?_
      refine Lx.y (mv rfl) rfl ?_
      refine Lx.gT rfl rfl rfl ?_
      refine Lx.y (mv rfl) rfl ?_
      refine Lx.gT rfl rfl rfl ?_
      refine Lx.y (nilc rfl) rfl ?_
      refine Lx.gT rfl rfl rfl ?_
      refine Lx.y (fa' fo102_0 rfl) rfl ?_
      refine Lx.gT rfl rfl rfl ?_
      refine Lx.y (Yx.val (ld Try.underlying80 rfl rfl rfl) (show _ = Value.slice f.An f.m.now.length f.cn from rfl)) rfl ?_
      refine Lx.gT rfl rfl rfl ?_
      refine Lx.y (lenV (ty' := 0) Try.underlying80 rfl) rfl ?_
      refine Lx.gT rfl rfl rfl ?_
      refine Lx.y (gtr rfl rfl) rfl ?_
      refine Lx.y (pickF rfl rfl) rfl ?_
      refine Lx.nil ?_
      refine Xx.tn (k8 _ _ _ _ ?_)
      refine Cx.condD rfl (fun h11 => ?_) (fun h11 => ?_)
      · skip
        have g2 : long > ((f.m.now.length : Nat) : Int) := h11
        have hap : cutD d.abs n long = (d.abs, 1) := by unfold cutD; rw [if_neg (fun h => h he), hfm, if_pos (by first | exact .inl g1 | exact .inr g2)]
        refine Cx.seq (fun K12 k12 => ?_)
        refine Cx.region ?_
        refine Lx.y (asg rfl) rfl ?_
        refine Lx.nil ?_
        refine Xx.tn (k12 _ _ _ _ ?_)
        refine Cx.ret ?_
        refine Xx.tr ?_
        exact Xx.ret1 rfl rfl ⟨by rw [hap], d, by rw [hap], rfl⟩ (Frag.le_refl _) hop.symm
      · skip
        have g2 : ¬ long > ((f.m.now.length : Nat) : Int) := h11
        have hbad : ¬ (long < 0 ∨ long > ((fileM n d.abs.fs).now.length : Nat)) := by rw [hfm]; omega
        rw [← hop]
        refine Cx.skip ?_
        refine Xx.tn (k7 _ _ _ _ ?_)
        refine Cx.seq (fun K13 k13 => ?_)
        refine Cx.seq (fun K14 k14 => ?_)
        refine Cx.region ?_
        refine Lx.y (mv rfl) rfl ?_
        refine Lx.c rfl rfl rfl (strikes_ct2 d db _ hF) (rfl) rfl ?_
        rintro v1 B1 H1 ⟨rfl, hFf, hTt⟩ hB1
        refine Lx.nil ?_
        refine Xx.tn (k14 _ _ _ _ ?_)
        refine Cx.condB rfl (fun h15 => ?_) (fun h15 => ?_)
        · skip
          have g3 := h15
          obtain ⟨d2, hd2, rfl⟩ := hTt g3
          have hap : cutD d.abs n long = ((strikesD d.abs).1, 7) := by unfold cutD; rw [if_neg (fun h => h he), if_neg hbad, if_pos g3]
          refine Cx.seq (fun K16 k16 => ?_)
          refine Cx.region ?_
          refine Lx.y (asg rfl) rfl ?_
          refine Lx.nil ?_
          refine Xx.tn (k16 _ _ _ _ ?_)
          refine Cx.ret ?_
          refine Xx.tr ?_
          exact Xx.ret1 rfl rfl ⟨by rw [hap], d2, by rw [hap]; exact hd2, rfl⟩ hB1 rfl
        · skip
          have g3 := h15
          obtain ⟨hs1, rfl⟩ := hFf g3
          obtain ⟨Rf, hH, hset, hfs, hdel⟩ := dkH_at (d := { d with ch := d.ch + 1 }) (db := db) (n := n) (f := f) hff
          rw [hH, show fiH f = row f.b 102 (fcs f) * (sbuf 5 1 f.An f.m.now.length f.cn (u8s f.m.now) * (sbuf 5 1 f.As f.m.sure.length f.cs (u8s f.m.sure) * sbuf 3 1 f.Al f.m.loose.length f.cl (nv f.m.loose))) from rfl]
          simp only [star_assoc]
          refine Xx.leT f.An (fun hnc => ?_)
          have hml : (f.m.now.take long.toNat).length = long.toNat := by rw [List.length_take]; omega
          refine Cx.skip ?_
          refine Xx.tn (k13 _ _ _ _ ?_)
          refine Cx.seq (fun K17 k17 => ?_)
          refine Cx.region ?_
          refine Lx.y (mv rfl) rfl ?_
          refine Lx.y (mv rfl) rfl ?_
          refine Lx.y (nilc rfl) rfl ?_
          refine Lx.y (fa' fo102_0 rfl) rfl ?_
          refine Lx.y (Yx.val (ld Try.underlying80 rfl rfl rfl) (show _ = Value.slice f.An f.m.now.length f.cn from rfl)) rfl ?_
          refine Lx.y (mv rfl) rfl ?_
          refine Lx.y (sl2V Try.underlying80 sz5 rfl rfl (by first | exact Int.toNat_natCast _ | rfl) (by omega) (by omega)) rfl ?_
          refine Lx.y (nilc rfl) rfl ?_
          refine Lx.y (fa' fo102_0 rfl) rfl ?_
          refine Lx.st (stO Try.underlying80 sz80 rfl rfl rfl (by show 0 < 3; omega) rfl) ?_
          refine Lx.nil ?_
          refine Xx.tn (k17 _ _ _ _ ?_)
          refine Cx.seq (fun K18 k18 => ?_)
          refine Xx.lessA f.An long.toNat (by omega) ?_
          rw [← u8s_take]
          refine Cx.region ?_
          refine Lx.y (mv rfl) rfl ?_
          refine Lx.y (mv rfl) rfl ?_
          refine Lx.y (mv rfl) rfl ?_
          refine Lx.y (nilc rfl) rfl ?_
          refine Lx.y (fa' fo102_0 rfl) rfl ?_
          refine Lx.y (Yx.val (ld Try.underlying80 rfl rfl rfl) (show _ = Value.slice f.An long.toNat f.cn from rfl)) rfl ?_
          refine Lx.c rfl rfl rfl (ClB_ct f.An long.toNat f.cn (u8s (f.m.now.take long.toNat)) _ (u8_all _) (by omega) (by omega)) (pickS _) rfl ?_
          rintro v3 B3 H3 ⟨hBB, A9, c9, rfl, rfl⟩ hB3
          subst hBB
          rename Frag => B3
          clear hB3
          simp only [star_assoc]
          refine Lx.y (nilc rfl) rfl ?_
          refine Lx.y (fa' fo102_1 rfl) rfl ?_
          refine Lx.st (stO Try.underlying80 sz80 rfl rfl rfl (by show 1 < 3; omega) rfl) ?_
          refine Lx.y (nilc rfl) rfl ?_
          refine Lx.y (fa' fo102_2 rfl) rfl ?_
          refine Lx.st (stO Try.underlying39 sz39 rfl rfl rfl (by show 2 < 3; omega) rfl) ?_
          refine Lx.nil ?_
          refine Xx.tn (k18 _ _ _ _ ?_)
          refine Cx.seq (fun K19 k19 => ?_)
          refine Cx.region ?_
          refine Lx.y (asg rfl) rfl ?_
          refine Lx.nil ?_
          refine Xx.tn (k19 _ _ _ _ ?_)
          refine Cx.ret ?_
          have hap : cutD d.abs n long = ({ d.abs with ch := d.ch + 1, fs := setM ⟨n, f.m.now.take long.toNat, f.m.now.take long.toNat, []⟩ d.abs.fs }, 0) := by
            unfold cutD
            rw [if_neg (fun h => h he), if_neg hbad, if_neg (by rw [g3]; decide), hs1, hfm]
          have e1 := hset ⟨⟨n, f.m.now.take long.toNat, f.m.now.take long.toNat, []⟩, f.b, f.An, f.cn, A9, c9, none, 0⟩ rfl
          have e2 : (setF ⟨⟨n, f.m.now.take long.toNat, f.m.now.take long.toNat, []⟩, f.b, f.An, f.cn, A9, c9, none, 0⟩ d.fs).map fkv = d.fs.map fkv := setF_same hff rfl rfl
          have efi : fiH ⟨⟨n, f.m.now.take long.toNat, f.m.now.take long.toNat, []⟩, f.b, f.An, f.cn, A9, c9, none, 0⟩ = row f.b 102 [.slice f.An long.toNat f.cn, .slice A9 long.toNat c9, .slice none 0 0] * (sbuf 5 1 f.An long.toNat f.cn (u8s (f.m.now.take long.toNat)) * sbuf 5 1 A9 long.toNat c9 (u8s (f.m.now.take long.toNat))) := by
            unfold fiH fcs
            simp only [hml]
            show _ * (_ * (_ * sbuf 3 1 none 0 0 [])) = _
            rw [sbuf_nil, star_one]
            rfl
          refine Xx.perm (Xx.drop (p := sbuf 5 1 f.As f.m.sure.length f.cs (u8s f.m.sure) * sbuf 3 1 f.Al f.m.loose.length f.cl (nv f.m.loose)) (H := dkH db { d with ch := d.ch + 1, fs := setF ⟨⟨n, f.m.now.take long.toNat, f.m.now.take long.toNat, []⟩, f.b, f.An, f.cn, A9, c9, none, 0⟩ d.fs } * R) ?_) (by show _ = _ * ((row db 97 (dcs { d with ch := d.ch + 1 }) * (imap d.mb ((setF ⟨⟨n, f.m.now.take long.toNat, f.m.now.take long.toNat, []⟩, f.b, f.An, f.cn, A9, c9, none, 0⟩ d.fs).map fkv) * (sbuf 25 3 d.Ap d.plan.length d.cp (d.plan.flatMap scs) * fisH (setF ⟨⟨n, f.m.now.take long.toNat, f.m.now.take long.toNat, []⟩, f.b, f.An, f.cn, A9, c9, none, 0⟩ d.fs)))) * R); rw [e1, e2, efi]; ac_rfl)
          exact Xx.ret1 rfl rfl ⟨by rw [hap], { d with ch := d.ch + 1, fs := setF ⟨⟨n, f.m.now.take long.toNat, f.m.now.take long.toNat, []⟩, f.b, f.An, f.cn, A9, c9, none, 0⟩ d.fs }, by rw [hap]; unfold Dk.abs; simp only [setF_m], rfl⟩ hB1 rfl

set_option maxHeartbeats 4000000 in
theorem Write_ct (d : Dk) (db : Nat) (n at_ : Int) (s : List UInt8) (B : Frag) (hF : d.abs.Fit) (hs : s.length ≤ 68719476736) : Ct Try.prog 24 [.pointer (some ⟨db, 0, none⟩), i64 n, i64 at_, str s] B (dkH db d) (fun v B' H' => v = i64 (writeD d.abs n at_ s).2 ∧ ∃ d' : Dk, d'.abs = (writeD d.abs n at_ s).1 ∧ H' = dkH db d') := by
  refine Ct.of_body Try.func24 rfl (nt := 60) rfl (by kernel_rfl) rfl ?_
  intro N0 w0 R
  refine Cx.seq (fun K1 k1 => ?_)
  refine Cx.region ?_
  refine Lx.y (asg rfl) rfl ?_
  refine Lx.nil ?_
  refine Xx.tn (k1 _ _ _ _ ?_)
  refine Cx.seq (fun K2 k2 => ?_)
  refine Cx.region ?_
  refine Lx.y (mv rfl) rfl ?_
  refine Lx.y (mv rfl) rfl ?_
  refine Lx.co rfl rfl rfl (file_ct2 d db n _) (rfl) rfl ?_
  refine Lx.y (mv rfl) rfl ?_
  refine Lx.y (ext rfl rfl) rfl ?_
  refine Lx.y (ext rfl rfl) rfl ?_
  refine Lx.y (asg rfl) rfl ?_
  refine Lx.y (asg rfl) rfl ?_
  refine Lx.nil ?_
  refine Xx.tn (k2 _ _ _ _ ?_)
  refine Cx.seq (fun K3 k3 => ?_)
  refine Cx.seq (fun K4 k4 => ?_)
  refine Cx.region ?_
  refine Lx.y (mv rfl) rfl ?_
  refine Lx.y (neI rfl rfl) rfl ?_
  refine Lx.nil ?_
  refine Xx.tn (k4 _ _ _ _ ?_)
  refine Cx.condN rfl (fun h5 => ?_) (fun h5 => ?_)
  · skip
    have he := h5
    have hap : writeD d.abs n at_ s = (d.abs, errM d.abs n) := by unfold writeD; rw [if_pos he]
    refine Cx.seq (fun K6 k6 => ?_)
    refine Cx.region ?_
    refine Lx.y (mv rfl) rfl ?_
    refine Lx.y (asg rfl) rfl ?_
    refine Lx.nil ?_
    refine Xx.tn (k6 _ _ _ _ ?_)
    refine Cx.ret ?_
    refine Xx.tr ?_
    exact Xx.ret1 rfl rfl ⟨by rw [hap]; rfl, d, by rw [hap], rfl⟩ (Frag.le_refl _) rfl
  · skip
    have he := h5
    obtain ⟨hd, f, hff, hfp, hfm⟩ := file_ok he
    have hfo : f.m.Ok := by rw [← hfm]; exact fileM_ok fun g hg => hF.ok hg
    have hfo3 := hfo.2.2.1
    have hfn := (findF_mem hff).2
    obtain ⟨Rf, hH, hset, hfs, hdel⟩ := dkH_at (d := d) (db := db) (n := n) (f := f) hff
    have hop : dkH db d * R = row db 97 (dcs d) * (imap d.mb (d.fs.map fkv) * (sbuf 25 3 d.Ap d.plan.length d.cp (d.plan.flatMap scs) * (row f.b 102 (fcs f) * (sbuf 5 1 f.An f.m.now.length f.cn (u8s f.m.now) * (sbuf 5 1 f.As f.m.sure.length f.cs (u8s f.m.sure) * (sbuf 3 1 f.Al f.m.loose.length f.cl (nv f.m.loose) * (Rf * R))))))) := by rw [hH, show fiH f = row f.b 102 (fcs f) * (sbuf 5 1 f.An f.m.now.length f.cn (u8s f.m.now) * (sbuf 5 1 f.As f.m.sure.length f.cs (u8s f.m.sure) * sbuf 3 1 f.Al f.m.loose.length f.cl (nv f.m.loose))) from rfl]; simp only [star_assoc]
    rw [hfp, hop]
    refine Cx.skip ?_
    refine Xx.tn (k3 _ _ _ _ ?_)
    refine Cx.seq (fun K7 k7 => ?_)
    refine Cx.seq (fun K8 k8 => ?_)
    refine Cx.region ?_
    refine Lx.y (mv rfl) rfl ?_
    refine Lx.y (lss rfl rfl) rfl ?_
    refine Lx.y (mv rfl) rfl ?_
    refine Xx.ifD (t := 22) rfl (fun h9 => ?_) (fun h9 => ?_)
    · skip
      have g1 : at_ < 0 := h9
      have hap : writeD d.abs n at_ s = (d.abs, 1) := by unfold writeD; rw [if_neg (fun h => h he), hfm, if_pos (by first | exact .inl g1 | exact .inr (.inl g2) | exact .inr (.inr g4))]
      refine Lx.gF rfl rfl rfl rfl ?_
      refine Lx.gF rfl rfl rfl rfl ?_
      refine Lx.gF rfl rfl rfl rfl ?_
      refine Lx.gF rfl rfl rfl rfl ?_
      refine Lx.gF rfl rfl rfl rfl ?_
      refine Lx.gF rfl rfl rfl rfl ?_
      refine Lx.gF rfl rfl rfl rfl ?_
      refine Lx.y (pickT rfl rfl) rfl ?_
      refine Lx.y (mv rfl) rfl ?_
      refine Lx.gF rfl rfl rfl rfl ?_
      refine Lx.gF rfl rfl rfl rfl ?_
      refine Lx.gF rfl rfl rfl rfl ?_
      refine Lx.gF rfl rfl rfl rfl ?_
      refine Lx.gF rfl rfl rfl rfl ?_
      refine Lx.gF rfl rfl rfl rfl ?_
      refine Lx.gF rfl rfl rfl rfl ?_
      refine Lx.gF rfl rfl rfl rfl ?_
      refine Lx.gF rfl rfl rfl rfl ?_
      refine Lx.gF rfl rfl rfl rfl ?_
      refine Lx.y (pickT rfl rfl) rfl ?_
      refine Lx.nil ?_
      refine Xx.tn (k8 _ _ _ _ ?_)
      refine Cx.condT rfl ?_
      refine Cx.seq (fun K10 k10 => ?_)
      refine Cx.region ?_
      refine Lx.y (asg rfl) rfl ?_
      refine Lx.nil ?_
      refine Xx.tn (k10 _ _ _ _ ?_)
      refine Cx.ret ?_
      refine Xx.tr ?_
      exact Xx.ret1 rfl rfl ⟨by rw [hap], d, by rw [hap], rfl⟩ (Frag.le_refl _) hop.symm
    · skip
      have g1 : ¬ at_ < 0 := h9
      refine Lx.gT rfl rfl rfl ?_
      refine Lx.y (mv rfl) rfl ?_
      refine Lx.gT rfl rfl rfl ?_
      refine Lx.y (mv rfl) rfl ?_
      refine Lx.gT rfl rfl rfl ?_
      refine Lx.y (nilc rfl) rfl ?_
      refine Lx.gT rfl rfl rfl ?_
      refine Lx.y (fa' fo102_0 rfl) rfl ?_
      refine Lx.gT rfl rfl rfl ?_
      refine Lx.y (Yx.val (ld Try.underlying80 rfl rfl rfl) (show _ = Value.slice f.An f.m.now.length f.cn from rfl)) rfl ?_
      refine Lx.gT rfl rfl rfl ?_
      refine Lx.y (lenV (ty' := 0) Try.underlying80 rfl) rfl ?_
      refine Lx.gT rfl rfl rfl ?_
      refine Lx.y (gtr rfl rfl) rfl ?_
      refine Lx.y (pickF rfl rfl) rfl ?_
      refine Lx.y (mv rfl) rfl ?_
      refine Xx.ifD (t := 31) rfl (fun h11 => ?_) (fun h11 => ?_)
      · skip
        have g2 : at_ > ((f.m.now.length : Nat) : Int) := h11
        have hap : writeD d.abs n at_ s = (d.abs, 1) := by unfold writeD; rw [if_neg (fun h => h he), hfm, if_pos (by first | exact .inl g1 | exact .inr (.inl g2) | exact .inr (.inr g4))]
        refine Lx.gF rfl rfl rfl rfl ?_
        refine Lx.gF rfl rfl rfl rfl ?_
        refine Lx.gF rfl rfl rfl rfl ?_
        refine Lx.gF rfl rfl rfl rfl ?_
        refine Lx.gF rfl rfl rfl rfl ?_
        refine Lx.gF rfl rfl rfl rfl ?_
        refine Lx.gF rfl rfl rfl rfl ?_
        refine Lx.gF rfl rfl rfl rfl ?_
        refine Lx.gF rfl rfl rfl rfl ?_
        refine Lx.gF rfl rfl rfl rfl ?_
        refine Lx.y (pickT rfl rfl) rfl ?_
        refine Lx.nil ?_
        refine Xx.tn (k8 _ _ _ _ ?_)
        refine Cx.condT rfl ?_
        refine Cx.seq (fun K12 k12 => ?_)
        refine Cx.region ?_
        refine Lx.y (asg rfl) rfl ?_
        refine Lx.nil ?_
        refine Xx.tn (k12 _ _ _ _ ?_)
        refine Cx.ret ?_
        refine Xx.tr ?_
        exact Xx.ret1 rfl rfl ⟨by rw [hap], d, by rw [hap], rfl⟩ (Frag.le_refl _) hop.symm
      · skip
        have g2 : ¬ at_ > ((f.m.now.length : Nat) : Int) := h11
        refine Lx.gT rfl rfl rfl ?_
        refine Lx.y (mv rfl) rfl ?_
        refine Lx.gT rfl rfl rfl ?_
        refine Lx.y (lenS Try.underlying9 rfl) rfl ?_
        refine Lx.gT rfl rfl rfl ?_
        refine Lx.y (mv rfl) rfl ?_
        refine Lx.gT rfl rfl rfl ?_
        refine Lx.y (nilc rfl) rfl ?_
        refine Lx.gT rfl rfl rfl ?_
        refine Lx.y (fa' fo102_0 rfl) rfl ?_
        refine Lx.gT rfl rfl rfl ?_
        refine Lx.y (Yx.val (ld Try.underlying80 rfl rfl rfl) (show _ = Value.slice f.An f.m.now.length f.cn from rfl)) rfl ?_
        refine Lx.gT rfl rfl rfl ?_
        refine Lx.y (lenV (ty' := 0) Try.underlying80 rfl) rfl ?_
        refine Lx.gT rfl rfl rfl ?_
        refine Lx.y (mv rfl) rfl ?_
        refine Lx.gT rfl rfl rfl ?_
        refine Lx.y (sub rfl rfl (by first | exact wrap64 (by omega) (by omega) | rfl)) rfl ?_
        refine Lx.gT rfl rfl rfl ?_
        refine Lx.y (gtr rfl rfl) rfl ?_
        refine Lx.y (pickF rfl rfl) rfl ?_
        refine Lx.nil ?_
        refine Xx.tn (k8 _ _ _ _ ?_)
        refine Cx.condD rfl (fun h13 => ?_) (fun h13 => ?_)
        · skip
          have g4 : (s.length : Int) > ((f.m.now.length : Nat) : Int) - at_ := h13
          have hap : writeD d.abs n at_ s = (d.abs, 1) := by unfold writeD; rw [if_neg (fun h => h he), hfm, if_pos (by first | exact .inl g1 | exact .inr (.inl g2) | exact .inr (.inr g4))]
          refine Cx.seq (fun K14 k14 => ?_)
          refine Cx.region ?_
          refine Lx.y (asg rfl) rfl ?_
          refine Lx.nil ?_
          refine Xx.tn (k14 _ _ _ _ ?_)
          refine Cx.ret ?_
          refine Xx.tr ?_
          exact Xx.ret1 rfl rfl ⟨by rw [hap], d, by rw [hap], rfl⟩ (Frag.le_refl _) hop.symm
        · skip
          have g4 : ¬ (s.length : Int) > ((f.m.now.length : Nat) : Int) - at_ := h13
          have hbad : ¬ (at_ < 0 ∨ at_ > ((fileM n d.abs.fs).now.length : Nat) ∨ (s.length : Int) > ((fileM n d.abs.fs).now.length : Nat) - at_) := by rw [hfm]; omega
          rw [← hop]
          refine Cx.skip ?_
          refine Xx.tn (k7 _ _ _ _ ?_)
          refine Cx.seq (fun K15 k15 => ?_)
          refine Cx.seq (fun K16 k16 => ?_)
          refine Cx.region ?_
          refine Lx.y (mv rfl) rfl ?_
          refine Lx.c rfl rfl rfl (strikes_ct2 d db _ hF) (rfl) rfl ?_
          rintro v1 B1 H1 ⟨rfl, hFf, hTt⟩ hB1
          refine Lx.nil ?_
          refine Xx.tn (k16 _ _ _ _ ?_)
          refine Cx.condB rfl (fun h17 => ?_) (fun h17 => ?_)
          · skip
            have g3 := h17
            obtain ⟨d2, hd2, rfl⟩ := hTt g3
            have hap : writeD d.abs n at_ s = ((strikesD d.abs).1, 7) := by unfold writeD; rw [if_neg (fun h => h he), if_neg hbad, if_pos g3]
            refine Cx.seq (fun K18 k18 => ?_)
            refine Cx.region ?_
            refine Lx.y (asg rfl) rfl ?_
            refine Lx.nil ?_
            refine Xx.tn (k18 _ _ _ _ ?_)
            refine Cx.ret ?_
            refine Xx.tr ?_
            exact Xx.ret1 rfl rfl ⟨by rw [hap], d2, by rw [hap]; exact hd2, rfl⟩ hB1 rfl
          · skip
            have g3 := h17
            obtain ⟨hs1, rfl⟩ := hFf g3
            obtain ⟨Rf, hH, hset, hfs, hdel⟩ := dkH_at (d := { d with ch := d.ch + 1 }) (db := db) (n := n) (f := f) hff
            rw [hH, show fiH f = row f.b 102 (fcs f) * (sbuf 5 1 f.An f.m.now.length f.cn (u8s f.m.now) * (sbuf 5 1 f.As f.m.sure.length f.cs (u8s f.m.sure) * sbuf 3 1 f.Al f.m.loose.length f.cl (nv f.m.loose))) from rfl]
            simp only [star_assoc]
            refine Cx.skip ?_
            refine Xx.tn (k15 _ _ _ _ ?_)
            refine Cx.seq (fun K19 k19 => ?_)
            refine Cx.region ?_
            refine Lx.y (mv rfl) rfl ?_
            refine Lx.y (nilc rfl) rfl ?_
            refine Lx.y (fa' fo102_0 rfl) rfl ?_
            refine Lx.y (Yx.val (ld Try.underlying80 rfl rfl rfl) (show _ = Value.slice f.An f.m.now.length f.cn from rfl)) rfl ?_
            refine Lx.y (mv rfl) rfl ?_
            refine Lx.y (sl1V Try.underlying80 sz5 rfl rfl (by first | exact Int.toNat_natCast _ | rfl) (by omega) (by omega)) rfl ?_
            refine Lx.y (mv rfl) rfl ?_
            refine Lx.o (cpT (et := 5) (A := f.An) (n := f.m.now.length) (k := at_.toNat) (c := f.cn) s.length (u8s (f.m.now.take at_.toNat ++ s ++ f.m.now.drop (at_.toNat + s.length))) Try.underlying80 sz5 rfl rfl (by omega) (by show min _ _ = _; omega) (u8s_len s) rfl (u8_all _) (by rw [u8s_app, u8s_app, u8s_take, u8s_drop])) rfl (fun v B' H' hΦ hB => ?_)
            obtain ⟨rfl, hBB, rfl⟩ := hΦ
            have hBB2 := hBB.symm
            subst hBB2
            clear hB
            refine Lx.nil ?_
            refine Xx.tn (k19 _ _ _ _ ?_)
            refine Cx.seq (fun K20 k20 => ?_)
            have hwl : (f.m.now.take at_.toNat ++ s ++ f.m.now.drop (at_.toNat + s.length)).length = f.m.now.length := by simp only [List.length_append, List.length_take, List.length_drop]; omega
            have efi : fiH ⟨⟨n, (f.m.now.take at_.toNat ++ s ++ f.m.now.drop (at_.toNat + s.length)), f.m.sure, f.m.loose⟩, f.b, f.An, f.cn, f.As, f.cs, f.Al, f.cl⟩ = row f.b 102 (fcs f) * (sbuf 5 1 f.An f.m.now.length f.cn (u8s (f.m.now.take at_.toNat ++ s ++ f.m.now.drop (at_.toNat + s.length))) * (sbuf 5 1 f.As f.m.sure.length f.cs (u8s f.m.sure) * sbuf 3 1 f.Al f.m.loose.length f.cl (nv f.m.loose))) := by
              unfold fiH fcs
              simp only [hwl]
            refine Cx.region ?_
            refine Lx.y (mv rfl) rfl ?_
            refine Lx.y (Yx.val (mv rfl) (show _ = i64 ((at_.toNat : Nat) : Int) by rw [Int.toNat_of_nonneg (by omega)])) rfl ?_
            refine Lx.y (Yx.val (mv rfl) (show _ = i64 ((at_.toNat : Nat) : Int) by rw [Int.toNat_of_nonneg (by omega)])) rfl ?_
            refine Lx.y (mv rfl) rfl ?_
            refine Lx.y (lenS Try.underlying9 rfl) rfl ?_
            refine Lx.y (Yx.val (add rfl rfl (by first | exact wrap64 (by omega) (by omega) | rfl)) (show _ = i64 ((at_.toNat + s.length : Nat) : Int) from rfl)) rfl ?_
            refine Lx.c rfl rfl rfl (touch_ct ⟨⟨n, (f.m.now.take at_.toNat ++ s ++ f.m.now.drop (at_.toNat + s.length)), f.m.sure, f.m.loose⟩, f.b, f.An, f.cn, f.As, f.cs, f.Al, f.cl⟩ at_.toNat (at_.toNat + s.length) _ hfo.1 (by have := hfo.loose; simp only; omega) (by omega) (by omega)) ((show _ = fiH ⟨⟨n, (f.m.now.take at_.toNat ++ s ++ f.m.now.drop (at_.toNat + s.length)), f.m.sure, f.m.loose⟩, f.b, f.An, f.cn, f.As, f.cs, f.Al, f.cl⟩ * (row db 97 (dcs { d with ch := d.ch + 1 }) * (imap d.mb (d.fs.map fkv) * (sbuf 25 3 d.Ap d.plan.length d.cp (d.plan.flatMap scs) * (Rf * R)))) by rw [efi]; ac_rfl)) rfl ?_
            rintro v2 B2 H2 ⟨hBB, rfl, Al9, cl9, rfl⟩ hB2
            subst hBB
            rename Frag => B2
            clear hB2
            refine Lx.nil ?_
            refine Xx.tn (k20 _ _ _ _ ?_)
            refine Cx.seq (fun K21 k21 => ?_)
            refine Cx.region ?_
            refine Lx.y (asg rfl) rfl ?_
            refine Lx.nil ?_
            refine Xx.tn (k21 _ _ _ _ ?_)
            refine Cx.ret ?_
            have hap : writeD d.abs n at_ s = ({ d.abs with ch := d.ch + 1, fs := setM ⟨n, (f.m.now.take at_.toNat ++ s ++ f.m.now.drop (at_.toNat + s.length)), f.m.sure, touchL f.m.loose at_.toNat (at_.toNat + s.length)⟩ d.abs.fs }, 0) := by
              unfold writeD
              rw [if_neg (fun h => h he), if_neg hbad, if_neg (by rw [g3]; decide), hs1, hfm]
            obtain ⟨F5, hF5⟩ : ∃ F5 : Fi, F5 = ⟨⟨n, (f.m.now.take at_.toNat ++ s ++ f.m.now.drop (at_.toNat + s.length)), f.m.sure, touchL f.m.loose at_.toNat (at_.toNat + s.length)⟩, f.b, f.An, f.cn, f.As, f.cs, Al9, cl9⟩ := ⟨_, rfl⟩
            have e1 := hset F5 (by rw [hF5])
            have e2 : (setF F5 d.fs).map fkv = d.fs.map fkv := setF_same hff (by rw [hF5]) (by rw [hF5])
            refine Xx.perm (H' := dkH db { d with ch := d.ch + 1, fs := setF F5 d.fs } * R) ?_ (by show _ = ((row db 97 (dcs { d with ch := d.ch + 1 }) * (imap d.mb ((setF F5 d.fs).map fkv) * (sbuf 25 3 d.Ap d.plan.length d.cp (d.plan.flatMap scs) * fisH (setF F5 d.fs)))) * R); rw [e1, e2, hF5]; ac_rfl)
            exact Xx.ret1 rfl rfl ⟨by rw [hap], { d with ch := d.ch + 1, fs := setF F5 d.fs }, by rw [hap]; unfold Dk.abs; simp only [setF_m, hF5], rfl⟩ hB1 rfl
end DkL
end Go.Proofs.Ytgcebieihmlaoaa

/-
  A disk that is none; a disk that is the same.
-/
namespace Go.Proofs.Ytgcebieihmlaoaa
open Go.SL Go.RowKit
set_option linter.unusedVariables false
set_option linter.unusedSimpArgs false
set_option maxRecDepth 100000
open DkA DkB DkC DkD DkE DkF DkG DkH DkI DkJ DkK DkL
namespace DkM
theorem sz3 : (Try.prog.info? 3).map (·.size) = some 1 := by kernel_rfl
theorem sz5 : (Try.prog.info? 5).map (·.size) = some 1 := by kernel_rfl
theorem sz25 : (Try.prog.info? 25).map (·.size) = some 3 := by kernel_rfl
theorem ti3 : TI Try.prog 3 [.int .i64 0] 1 8 := TI.of (by kernel_rfl) rfl rfl
theorem ti5 : TI Try.prog 5 [.int .u8 0] 1 1 := TI.of (by kernel_rfl) rfl rfl
theorem ti97 : TI Try.prog 97 [.map none, .int .i64 0, .bool false, .slice none 0 0, .int .i64 0] 5 56 := TI.of (by kernel_rfl) rfl rfl
theorem ti102 : TI Try.prog 102 [.slice none 0 0, .slice none 0 0, .slice none 0 0] 3 72 := TI.of (by kernel_rfl) rfl rfl
theorem fo97_0 : FO Try.prog 97 0 0 1 false := FO.of Try.underlying97 rfl rfl (by kernel_rfl) Try.underlying94 rfl rfl
theorem fo97_1 : FO Try.prog 97 1 1 1 false := FO.of Try.underlying97 rfl rfl (by kernel_rfl) Try.underlying3 rfl rfl
theorem fo97_2 : FO Try.prog 97 2 2 1 false := FO.of Try.underlying97 rfl rfl (by kernel_rfl) Try.underlying4 rfl rfl
theorem fo97_3 : FO Try.prog 97 3 3 1 false := FO.of Try.underlying97 rfl rfl (by kernel_rfl) Try.underlying54 rfl rfl
theorem fo97_4 : FO Try.prog 97 4 4 1 false := FO.of Try.underlying97 rfl rfl (by kernel_rfl) Try.underlying3 rfl rfl
theorem fo102_0 : FO Try.prog 102 0 0 1 false := FO.of Try.underlying102 rfl rfl (by kernel_rfl) Try.underlying80 rfl rfl
theorem fo102_1 : FO Try.prog 102 1 1 1 false := FO.of Try.underlying102 rfl rfl (by kernel_rfl) Try.underlying80 rfl rfl
theorem fo102_2 : FO Try.prog 102 2 2 1 false := FO.of Try.underlying102 rfl rfl (by kernel_rfl) Try.underlying39 rfl rfl
theorem pl97 : PL Try.prog 97 [(0, 1), (1, 1), (2, 1), (3, 1), (4, 1)] := PL.of Try.underlying97 (by kernel_rfl)
theorem pl102 : PL Try.prog 102 [(0, 1), (1, 1), (2, 1)] := PL.of Try.underlying102 (by kernel_rfl)

theorem map_inj {α β : Type} (f : α → β) : ∀ {l : List α}, (l.map f).Nodup → ∀ {a b : α}, a ∈ l → b ∈ l → f a = f b → a = b := by
  intro l
  induction l with
  | nil => intro _ a b h; cases h
  | cons x l ih =>
    intro h a b ha hb e
    rw [List.map_cons, List.nodup_cons] at h
    rcases List.mem_cons.1 ha with rfl | ha'
    · rcases List.mem_cons.1 hb with rfl | hb'
      · rfl
      · exact absurd (List.mem_map.2 ⟨b, hb', e.symm⟩) h.1
    · rcases List.mem_cons.1 hb with rfl | hb'
      · exact absurd (List.mem_map.2 ⟨a, ha', e⟩) h.1
      · exact ih h.2 ha' hb' e
theorem findM_none {k : Int} : ∀ {fs : List Fi}, findF k fs = none → findM k (fs.map (·.m)) = none := by
  intro fs h
  rw [← findF_m, h]; rfl
theorem setM_new {f : Fm} : ∀ {ms : List Fm}, findM f.n ms = none → setM f ms = ms ++ [f] := by
  intro ms
  induction ms with
  | nil => intro _; rfl
  | cons g ms ih =>
    intro h
    simp only [findM] at h
    split at h
    · cases h
    · rename_i e
      simp only [setM]; rw [if_neg e, ih h]; rfl
theorem CtP.of_c {P : Program} {f : FuncId} {args : List Value} {B : Frag} {v : Value} (h : CtC P f args B 1 v 1) : CtP P f args B v :=
  CtB.of_ct (Ct.mono h fun v' B' H' ⟨e1, e2, e3⟩ => ⟨⟨e1, e2⟩, e3⟩)

set_option maxHeartbeats 1000000 in
theorem Room_nil0 (n : Int) (B : Frag) : CtC Try.prog 20 [.pointer none, i64 n] B 1 (.tuple #[]) 1 := by
  refine Ct.of_body Try.func20 rfl (nt := 14) rfl (by kernel_rfl) rfl ?_
  intro N0 w0 R
  refine Cx.seq (fun K1 k1 => ?_)
  refine Cx.region ?_
  refine Lx.y (mv rfl) rfl ?_
  refine Lx.y (Yx.ff (neNilP Try.underlying26 rfl rfl) rfl) rfl ?_
  refine Lx.y (mv rfl) rfl ?_
  refine Lx.gF rfl rfl rfl rfl ?_
  refine Lx.gF rfl rfl rfl rfl ?_
  refine Lx.y (pickF rfl rfl) rfl ?_
  refine Lx.nil ?_
  refine Xx.tn (k1 _ _ _ _ ?_)
  refine Cx.condF rfl ?_
  refine Cx.skip ?_
  exact Xx.end0 rfl ⟨rfl, rfl, rfl⟩ (Frag.le_refl _) rfl

set_option maxHeartbeats 1000000 in
theorem Plan_nil0 (v : Value) (B : Frag) : CtC Try.prog 21 [.pointer none, v] B 1 (.tuple #[]) 1 := by
  refine Ct.of_body Try.func21 rfl (nt := 11) rfl (by kernel_rfl) rfl ?_
  intro N0 w0 R
  refine Cx.seq (fun K1 k1 => ?_)
  refine Cx.region ?_
  refine Lx.y (mv rfl) rfl ?_
  refine Lx.y (Yx.ff (neNilP Try.underlying26 rfl rfl) rfl) rfl ?_
  refine Lx.nil ?_
  refine Xx.tn (k1 _ _ _ _ ?_)
  refine Cx.condF rfl ?_
  refine Cx.skip ?_
  exact Xx.end0 rfl ⟨rfl, rfl, rfl⟩ (Frag.le_refl _) rfl

set_option maxHeartbeats 1000000 in
theorem Crash_nil (mask : BitVec 64) (torn : Int) (B : Frag) : CtP Try.prog 17 [.pointer none, u64 mask, i64 torn] B (.tuple #[]) := by
  refine CtB.of_body Try.func17 rfl (nt := 52) rfl (by kernel_rfl) rfl ?_
  intro N0 w0 R
  refine Cx.seq (fun K1 k1 => ?_)
  refine Cx.region ?_
  refine Lx.new (boxO rfl rfl) rfl (fun tb => ?_)
  refine Lx.nil ?_
  refine Xx.tn (k1 _ _ _ _ ?_)
  refine Cx.seq (fun K2 k2 => ?_)
  refine Cx.seq (fun K3 k3 => ?_)
  refine Cx.region ?_
  refine Lx.y (mv rfl) rfl ?_
  refine Lx.y (Yx.tt (eqNilP Try.underlying26 rfl rfl) rfl) rfl ?_
  refine Lx.y (mv rfl) rfl ?_
  refine Lx.gF rfl rfl rfl rfl ?_
  refine Lx.gF rfl rfl rfl rfl ?_
  refine Lx.gF rfl rfl rfl rfl ?_
  refine Lx.gF rfl rfl rfl rfl ?_
  refine Lx.y (pickT rfl rfl) rfl ?_
  refine Lx.nil ?_
  refine Xx.tn (k3 _ _ _ _ ?_)
  refine Cx.condT rfl ?_
  refine Cx.ret ?_
  refine Xx.tr ?_
  exact Xx.dropB tb (Xx.rB0 rfl ⟨rfl, rfl⟩ (Frag.le_refl _) rfl)

set_option maxHeartbeats 1000000 in
theorem Append_nil (n : Int) (s : List UInt8) (B : Frag) : CtP Try.prog 15 [.pointer none, i64 n, str s] B (.tuple #[i64 0, i64 7]) := by
  refine CtB.of_body Try.func15 rfl (nt := 82) rfl (by kernel_rfl) rfl ?_
  intro N0 w0 R
  refine Cx.seq (fun K1 k1 => ?_)
  refine Cx.region ?_
  refine Lx.y (asg rfl) rfl ?_
  refine Lx.y (asg rfl) rfl ?_
  refine Lx.nil ?_
  refine Xx.tn (k1 _ _ _ _ ?_)
  refine Cx.seq (fun K2 k2 => ?_)
  refine Cx.block ?_
  refine Cx.seq (fun K3 k3 => ?_)
  refine Cx.region ?_
  refine Lx.y (mv rfl) rfl ?_
  refine Lx.y (Yx.tt (eqNilP Try.underlying26 rfl rfl) rfl) rfl ?_
  refine Lx.y (mv rfl) rfl ?_
  refine Lx.gF rfl rfl rfl rfl ?_
  refine Lx.gF rfl rfl rfl rfl ?_
  refine Lx.gF rfl rfl rfl rfl ?_
  refine Lx.gF rfl rfl rfl rfl ?_
  refine Lx.y (pickT rfl rfl) rfl ?_
  refine Lx.y (asg rfl) rfl ?_
  refine Lx.nil ?_
  refine Xx.tn (k3 _ _ _ _ ?_)
  refine Cx.condT rfl ?_
  refine Cx.seq (fun K4 k4 => ?_)
  refine Cx.region ?_
  refine Lx.y (asg rfl) rfl ?_
  refine Lx.y (asg rfl) rfl ?_
  refine Lx.nil ?_
  refine Xx.tn (k4 _ _ _ _ ?_)
  refine Cx.ret ?_
  refine Xx.br ?_
  refine Xx.tr ?_
  exact Xx.rB2 rfl rfl rfl ⟨rfl, rfl⟩ (Frag.le_refl _) rfl

set_option maxHeartbeats 1000000 in
theorem file_nil (n : Int) (B : Frag) : CtP Try.prog 47 [.pointer none, i64 n] B (.tuple #[.pointer none, i64 7]) := by
  refine CtB.of_body Try.func47 rfl (nt := 24) rfl (by kernel_rfl) rfl ?_
  intro N0 w0 R
  refine Cx.seq (fun K1 k1 => ?_)
  refine Cx.region ?_
  refine Lx.y (asg rfl) rfl ?_
  refine Lx.y (asg rfl) rfl ?_
  refine Lx.nil ?_
  refine Xx.tn (k1 _ _ _ _ ?_)
  refine Cx.seq (fun K2 k2 => ?_)
  refine Cx.seq (fun K3 k3 => ?_)
  refine Cx.region ?_
  refine Lx.y (mv rfl) rfl ?_
  refine Lx.y (Yx.tt (eqNilP Try.underlying26 rfl rfl) rfl) rfl ?_
  refine Lx.y (mv rfl) rfl ?_
  refine Lx.gF rfl rfl rfl rfl ?_
  refine Lx.gF rfl rfl rfl rfl ?_
  refine Lx.gF rfl rfl rfl rfl ?_
  refine Lx.gF rfl rfl rfl rfl ?_
  refine Lx.y (pickT rfl rfl) rfl ?_
  refine Lx.nil ?_
  refine Xx.tn (k3 _ _ _ _ ?_)
  refine Cx.condT rfl ?_
  refine Cx.seq (fun K4 k4 => ?_)
  refine Cx.region ?_
  refine Lx.y (asg rfl) rfl ?_
  refine Lx.y (asg rfl) rfl ?_
  refine Lx.nil ?_
  refine Xx.tn (k4 _ _ _ _ ?_)
  refine Cx.ret ?_
  refine Xx.tr ?_
  exact Xx.rB2 rfl rfl rfl ⟨rfl, rfl⟩ (Frag.le_refl _) rfl

set_option maxHeartbeats 1000000 in
theorem Read_nil (n : Int) (B : Frag) : CtP Try.prog 14 [.pointer none, i64 n] B (.tuple #[str [], i64 7]) := by
  refine CtB.of_body Try.func14 rfl (nt := 22) rfl (by kernel_rfl) rfl ?_
  intro N0 w0 R
  refine Cx.seq (fun K1 k1 => ?_)
  refine Cx.region ?_
  refine Lx.y (asg rfl) rfl ?_
  refine Lx.y (asg rfl) rfl ?_
  refine Lx.nil ?_
  refine Xx.tn (k1 _ _ _ _ ?_)
  refine Cx.seq (fun K2 k2 => ?_)
  refine Cx.region ?_
  refine Lx.y (mv rfl) rfl ?_
  refine Lx.y (mv rfl) rfl ?_
  refine Lx.cp rfl rfl rfl (file_nil _ _) rfl ?_
  refine Lx.y (mv rfl) rfl ?_
  refine Lx.y (ext rfl rfl) rfl ?_
  refine Lx.y (ext rfl rfl) rfl ?_
  refine Lx.y (asg rfl) rfl ?_
  refine Lx.y (asg rfl) rfl ?_
  refine Lx.nil ?_
  refine Xx.tn (k2 _ _ _ _ ?_)
  refine Cx.seq (fun K3 k3 => ?_)
  refine Cx.seq (fun K4 k4 => ?_)
  refine Cx.region ?_
  refine Lx.y (mv rfl) rfl ?_
  refine Lx.y (Yx.tt (neI rfl rfl) rfl) rfl ?_
  refine Lx.nil ?_
  refine Xx.tn (k4 _ _ _ _ ?_)
  refine Cx.condT rfl ?_
  refine Cx.seq (fun K5 k5 => ?_)
  refine Cx.region ?_
  refine Lx.y (mv rfl) rfl ?_
  refine Lx.y (asg rfl) rfl ?_
  refine Lx.y (asg rfl) rfl ?_
  refine Lx.nil ?_
  refine Xx.tn (k5 _ _ _ _ ?_)
  refine Cx.ret ?_
  refine Xx.tr ?_
  exact Xx.rB2 rfl rfl rfl ⟨rfl, rfl⟩ (Frag.le_refl _) rfl

set_option maxHeartbeats 1000000 in
theorem Write_nil (n a : Int) (s : List UInt8) (B : Frag) : CtP Try.prog 24 [.pointer none, i64 n, i64 a, str s] B (i64 7) := by
  refine CtB.of_body Try.func24 rfl (nt := 60) rfl (by kernel_rfl) rfl ?_
  intro N0 w0 R
  refine Cx.seq (fun K1 k1 => ?_)
  refine Cx.region ?_
  refine Lx.y (asg rfl) rfl ?_
  refine Lx.nil ?_
  refine Xx.tn (k1 _ _ _ _ ?_)
  refine Cx.seq (fun K2 k2 => ?_)
  refine Cx.region ?_
  refine Lx.y (mv rfl) rfl ?_
  refine Lx.y (mv rfl) rfl ?_
  refine Lx.cp rfl rfl rfl (file_nil _ _) rfl ?_
  refine Lx.y (mv rfl) rfl ?_
  refine Lx.y (ext rfl rfl) rfl ?_
  refine Lx.y (ext rfl rfl) rfl ?_
  refine Lx.y (asg rfl) rfl ?_
  refine Lx.y (asg rfl) rfl ?_
  refine Lx.nil ?_
  refine Xx.tn (k2 _ _ _ _ ?_)
  refine Cx.seq (fun K3 k3 => ?_)
  refine Cx.seq (fun K4 k4 => ?_)
  refine Cx.region ?_
  refine Lx.y (mv rfl) rfl ?_
  refine Lx.y (Yx.tt (neI rfl rfl) rfl) rfl ?_
  refine Lx.nil ?_
  refine Xx.tn (k4 _ _ _ _ ?_)
  refine Cx.condT rfl ?_
  refine Cx.seq (fun K5 k5 => ?_)
  refine Cx.region ?_
  refine Lx.y (mv rfl) rfl ?_
  refine Lx.y (asg rfl) rfl ?_
  refine Lx.nil ?_
  refine Xx.tn (k5 _ _ _ _ ?_)
  refine Cx.ret ?_
  refine Xx.tr ?_
  exact Xx.rB1 rfl rfl ⟨rfl, rfl⟩ (Frag.le_refl _) rfl

set_option maxHeartbeats 1000000 in
theorem Sync_nil (n : Int) (B : Frag) : CtP Try.prog 13 [.pointer none, i64 n] B (i64 7) := by
  refine CtB.of_body Try.func13 rfl (nt := 29) rfl (by kernel_rfl) rfl ?_
  intro N0 w0 R
  refine Cx.seq (fun K1 k1 => ?_)
  refine Cx.region ?_
  refine Lx.y (asg rfl) rfl ?_
  refine Lx.nil ?_
  refine Xx.tn (k1 _ _ _ _ ?_)
  refine Cx.seq (fun K2 k2 => ?_)
  refine Cx.region ?_
  refine Lx.y (mv rfl) rfl ?_
  refine Lx.y (mv rfl) rfl ?_
  refine Lx.cp rfl rfl rfl (file_nil _ _) rfl ?_
  refine Lx.y (mv rfl) rfl ?_
  refine Lx.y (ext rfl rfl) rfl ?_
  refine Lx.y (ext rfl rfl) rfl ?_
  refine Lx.y (asg rfl) rfl ?_
  refine Lx.y (asg rfl) rfl ?_
  refine Lx.nil ?_
  refine Xx.tn (k2 _ _ _ _ ?_)
  refine Cx.seq (fun K3 k3 => ?_)
  refine Cx.seq (fun K4 k4 => ?_)
  refine Cx.region ?_
  refine Lx.y (mv rfl) rfl ?_
  refine Lx.y (Yx.tt (neI rfl rfl) rfl) rfl ?_
  refine Lx.nil ?_
  refine Xx.tn (k4 _ _ _ _ ?_)
  refine Cx.condT rfl ?_
  refine Cx.seq (fun K5 k5 => ?_)
  refine Cx.region ?_
  refine Lx.y (mv rfl) rfl ?_
  refine Lx.y (asg rfl) rfl ?_
  refine Lx.nil ?_
  refine Xx.tn (k5 _ _ _ _ ?_)
  refine Cx.ret ?_
  refine Xx.tr ?_
  exact Xx.rB1 rfl rfl ⟨rfl, rfl⟩ (Frag.le_refl _) rfl

set_option maxHeartbeats 1000000 in
theorem Cut_nil (n a : Int) (B : Frag) : CtP Try.prog 25 [.pointer none, i64 n, i64 a] B (i64 7) := by
  refine CtB.of_body Try.func25 rfl (nt := 51) rfl (by kernel_rfl) rfl ?_
  intro N0 w0 R
  refine Cx.seq (fun K1 k1 => ?_)
  refine Cx.region ?_
  refine Lx.y (asg rfl) rfl ?_
  refine Lx.nil ?_
  refine Xx.tn (k1 _ _ _ _ ?_)
  refine Cx.seq (fun K2 k2 => ?_)
  refine Cx.region ?_
  refine Lx.y (mv rfl) rfl ?_
  refine Lx.y (mv rfl) rfl ?_
  refine Lx.cp rfl rfl rfl (file_nil _ _) rfl ?_
  refine Lx.y (mv rfl) rfl ?_
  refine Lx.y (ext rfl rfl) rfl ?_
  refine Lx.y (ext rfl rfl) rfl ?_
  refine Lx.y (asg rfl) rfl ?_
  refine Lx.y (asg rfl) rfl ?_
  refine Lx.nil ?_
  refine Xx.tn (k2 _ _ _ _ ?_)
  refine Cx.seq (fun K3 k3 => ?_)
  refine Cx.seq (fun K4 k4 => ?_)
  refine Cx.region ?_
  refine Lx.y (mv rfl) rfl ?_
  refine Lx.y (Yx.tt (neI rfl rfl) rfl) rfl ?_
  refine Lx.nil ?_
  refine Xx.tn (k4 _ _ _ _ ?_)
  refine Cx.condT rfl ?_
  refine Cx.seq (fun K5 k5 => ?_)
  refine Cx.region ?_
  refine Lx.y (mv rfl) rfl ?_
  refine Lx.y (asg rfl) rfl ?_
  refine Lx.nil ?_
  refine Xx.tn (k5 _ _ _ _ ?_)
  refine Cx.ret ?_
  refine Xx.tr ?_
  exact Xx.rB1 rfl rfl ⟨rfl, rfl⟩ (Frag.le_refl _) rfl

set_option maxHeartbeats 1000000 in
theorem Remove_nil (n : Int) (B : Frag) : CtP Try.prog 26 [.pointer none, i64 n] B (i64 7) := by
  refine CtB.of_body Try.func26 rfl (nt := 23) rfl (by kernel_rfl) rfl ?_
  intro N0 w0 R
  refine Cx.seq (fun K1 k1 => ?_)
  refine Cx.region ?_
  refine Lx.y (asg rfl) rfl ?_
  refine Lx.nil ?_
  refine Xx.tn (k1 _ _ _ _ ?_)
  refine Cx.seq (fun K2 k2 => ?_)
  refine Cx.seq (fun K3 k3 => ?_)
  refine Cx.region ?_
  refine Lx.y (mv rfl) rfl ?_
  refine Lx.y (mv rfl) rfl ?_
  refine Lx.cp rfl rfl rfl (file_nil _ _) rfl ?_
  refine Lx.y (mv rfl) rfl ?_
  refine Lx.y (ext rfl rfl) rfl ?_
  refine Lx.y (ext rfl rfl) rfl ?_
  refine Lx.y (asg rfl) rfl ?_
  refine Lx.y (asg rfl) rfl ?_
  refine Lx.nil ?_
  refine Xx.tn (k3 _ _ _ _ ?_)
  refine Cx.seq (fun K4 k4 => ?_)
  refine Cx.region ?_
  refine Lx.y (mv rfl) rfl ?_
  refine Lx.y (Yx.tt (neI rfl rfl) rfl) rfl ?_
  refine Lx.nil ?_
  refine Xx.tn (k4 _ _ _ _ ?_)
  refine Cx.condT rfl ?_
  refine Cx.seq (fun K5 k5 => ?_)
  refine Cx.region ?_
  refine Lx.y (mv rfl) rfl ?_
  refine Lx.y (asg rfl) rfl ?_
  refine Lx.nil ?_
  refine Xx.tn (k5 _ _ _ _ ?_)
  refine Cx.ret ?_
  refine Xx.tr ?_
  exact Xx.rB1 rfl rfl ⟨rfl, rfl⟩ (Frag.le_refl _) rfl

set_option maxHeartbeats 1000000 in
theorem Files_nil  (B : Frag) : CtP Try.prog 12 [.pointer none] B (.slice none 0 0) := by
  refine CtB.of_body Try.func12 rfl (nt := 11) rfl (by kernel_rfl) rfl ?_
  intro N0 w0 R
  refine Cx.seq (fun K1 k1 => ?_)
  refine Cx.region ?_
  refine Lx.y (asg rfl) rfl ?_
  refine Lx.nil ?_
  refine Xx.tn (k1 _ _ _ _ ?_)
  refine Cx.seq (fun K2 k2 => ?_)
  refine Cx.seq (fun K3 k3 => ?_)
  refine Cx.region ?_
  refine Lx.y (mv rfl) rfl ?_
  refine Lx.y (Yx.tt (eqNilP Try.underlying26 rfl rfl) rfl) rfl ?_
  refine Lx.nil ?_
  refine Xx.tn (k3 _ _ _ _ ?_)
  refine Cx.condT rfl ?_
  refine Cx.seq (fun K4 k4 => ?_)
  refine Cx.region ?_
  refine Lx.y (asg rfl) rfl ?_
  refine Lx.nil ?_
  refine Xx.tn (k4 _ _ _ _ ?_)
  refine Cx.ret ?_
  refine Xx.tr ?_
  exact Xx.rB1 rfl rfl ⟨rfl, rfl⟩ (Frag.le_refl _) rfl

set_option maxHeartbeats 1000000 in
theorem Used_nil  (B : Frag) : CtP Try.prog 27 [.pointer none] B (i64 0) := by
  refine CtB.of_body Try.func27 rfl (nt := 26) rfl (by kernel_rfl) rfl ?_
  intro N0 w0 R
  refine Cx.seq (fun K1 k1 => ?_)
  refine Cx.region ?_
  refine Lx.y (asg rfl) rfl ?_
  refine Lx.nil ?_
  refine Xx.tn (k1 _ _ _ _ ?_)
  refine Cx.seq (fun K2 k2 => ?_)
  refine Cx.seq (fun K3 k3 => ?_)
  refine Cx.region ?_
  refine Lx.y (mv rfl) rfl ?_
  refine Lx.y (Yx.tt (eqNilP Try.underlying26 rfl rfl) rfl) rfl ?_
  refine Lx.nil ?_
  refine Xx.tn (k3 _ _ _ _ ?_)
  refine Cx.condT rfl ?_
  refine Cx.seq (fun K4 k4 => ?_)
  refine Cx.region ?_
  refine Lx.y (asg rfl) rfl ?_
  refine Lx.nil ?_
  refine Xx.tn (k4 _ _ _ _ ?_)
  refine Cx.ret ?_
  refine Xx.tr ?_
  exact Xx.rB1 rfl rfl ⟨rfl, rfl⟩ (Frag.le_refl _) rfl

set_option maxHeartbeats 1000000 in
theorem Dead_nil  (B : Frag) : CtP Try.prog 28 [.pointer none] B (.bool true) := by
  refine CtB.of_body Try.func28 rfl (nt := 11) rfl (by kernel_rfl) rfl ?_
  intro N0 w0 R
  refine Cx.seq (fun K1 k1 => ?_)
  refine Cx.region ?_
  refine Lx.y (asg rfl) rfl ?_
  refine Lx.nil ?_
  refine Xx.tn (k1 _ _ _ _ ?_)
  refine Cx.seq (fun K2 k2 => ?_)
  refine Cx.region ?_
  refine Lx.y (mv rfl) rfl ?_
  refine Lx.y (Yx.tt (eqNilP Try.underlying26 rfl rfl) rfl) rfl ?_
  refine Lx.y (mv rfl) rfl ?_
  refine Lx.gF rfl rfl rfl rfl ?_
  refine Lx.gF rfl rfl rfl rfl ?_
  refine Lx.gF rfl rfl rfl rfl ?_
  refine Lx.gF rfl rfl rfl rfl ?_
  refine Lx.y (pickT rfl rfl) rfl ?_
  refine Lx.y (asg rfl) rfl ?_
  refine Lx.nil ?_
  refine Xx.tn (k2 _ _ _ _ ?_)
  refine Cx.ret ?_
  exact Xx.rB1 rfl rfl ⟨rfl, rfl⟩ (Frag.le_refl _) rfl

set_option maxHeartbeats 1000000 in
theorem Up_nil  (B : Frag) : CtP Try.prog 18 [.pointer none] B (.bool false) := by
  refine CtB.of_body Try.func18 rfl (nt := 15) rfl (by kernel_rfl) rfl ?_
  intro N0 w0 R
  refine Cx.seq (fun K1 k1 => ?_)
  refine Cx.region ?_
  refine Lx.y (asg rfl) rfl ?_
  refine Lx.nil ?_
  refine Xx.tn (k1 _ _ _ _ ?_)
  refine Cx.seq (fun K2 k2 => ?_)
  refine Cx.seq (fun K3 k3 => ?_)
  refine Cx.region ?_
  refine Lx.y (mv rfl) rfl ?_
  refine Lx.y (Yx.tt (eqNilP Try.underlying26 rfl rfl) rfl) rfl ?_
  refine Lx.y (mv rfl) rfl ?_
  refine Lx.gF rfl rfl rfl rfl ?_
  refine Lx.gF rfl rfl rfl rfl ?_
  refine Lx.gF rfl rfl rfl rfl ?_
  refine Lx.gF rfl rfl rfl rfl ?_
  refine Lx.gF rfl rfl rfl rfl ?_
  refine Lx.y (pickT rfl rfl) rfl ?_
  refine Lx.nil ?_
  refine Xx.tn (k3 _ _ _ _ ?_)
  refine Cx.condT rfl ?_
  refine Cx.seq (fun K4 k4 => ?_)
  refine Cx.region ?_
  refine Lx.y (asg rfl) rfl ?_
  refine Lx.nil ?_
  refine Xx.tn (k4 _ _ _ _ ?_)
  refine Cx.ret ?_
  refine Xx.tr ?_
  exact Xx.rB1 rfl rfl ⟨rfl, rfl⟩ (Frag.le_refl _) rfl

set_option maxHeartbeats 1000000 in
theorem Changes_nil  (B : Frag) : CtP Try.prog 29 [.pointer none] B (i64 0) := by
  refine CtB.of_body Try.func29 rfl (nt := 9) rfl (by kernel_rfl) rfl ?_
  intro N0 w0 R
  refine Cx.seq (fun K1 k1 => ?_)
  refine Cx.region ?_
  refine Lx.y (asg rfl) rfl ?_
  refine Lx.nil ?_
  refine Xx.tn (k1 _ _ _ _ ?_)
  refine Cx.seq (fun K2 k2 => ?_)
  refine Cx.seq (fun K3 k3 => ?_)
  refine Cx.region ?_
  refine Lx.y (mv rfl) rfl ?_
  refine Lx.y (Yx.tt (eqNilP Try.underlying26 rfl rfl) rfl) rfl ?_
  refine Lx.nil ?_
  refine Xx.tn (k3 _ _ _ _ ?_)
  refine Cx.condT rfl ?_
  refine Cx.seq (fun K4 k4 => ?_)
  refine Cx.region ?_
  refine Lx.y (asg rfl) rfl ?_
  refine Lx.nil ?_
  refine Xx.tn (k4 _ _ _ _ ?_)
  refine Cx.ret ?_
  refine Xx.tr ?_
  exact Xx.rB1 rfl rfl ⟨rfl, rfl⟩ (Frag.le_refl _) rfl

set_option maxHeartbeats 1000000 in
theorem Loose_nil  (B : Frag) : CtP Try.prog 19 [.pointer none] B (i64 0) := by
  refine CtB.of_body Try.func19 rfl (nt := 25) rfl (by kernel_rfl) rfl ?_
  intro N0 w0 R
  refine Cx.seq (fun K1 k1 => ?_)
  refine Cx.region ?_
  refine Lx.y (asg rfl) rfl ?_
  refine Lx.nil ?_
  refine Xx.tn (k1 _ _ _ _ ?_)
  refine Cx.seq (fun K2 k2 => ?_)
  refine Cx.seq (fun K3 k3 => ?_)
  refine Cx.region ?_
  refine Lx.y (mv rfl) rfl ?_
  refine Lx.y (Yx.tt (eqNilP Try.underlying26 rfl rfl) rfl) rfl ?_
  refine Lx.nil ?_
  refine Xx.tn (k3 _ _ _ _ ?_)
  refine Cx.condT rfl ?_
  refine Cx.seq (fun K4 k4 => ?_)
  refine Cx.region ?_
  refine Lx.y (asg rfl) rfl ?_
  refine Lx.nil ?_
  refine Xx.tn (k4 _ _ _ _ ?_)
  refine Cx.ret ?_
  refine Xx.tr ?_
  exact Xx.rB1 rfl rfl ⟨rfl, rfl⟩ (Frag.le_refl _) rfl

set_option maxHeartbeats 1000000 in
theorem Clone_nil  (B : Frag) : CtP Try.prog 23 [.pointer none] B (.pointer none) := by
  refine CtB.of_body Try.func23 rfl (nt := 61) rfl (by kernel_rfl) rfl ?_
  intro N0 w0 R
  refine Cx.seq (fun K1 k1 => ?_)
  refine Cx.region ?_
  refine Lx.y (asg rfl) rfl ?_
  refine Lx.nil ?_
  refine Xx.tn (k1 _ _ _ _ ?_)
  refine Cx.seq (fun K2 k2 => ?_)
  refine Cx.seq (fun K3 k3 => ?_)
  refine Cx.region ?_
  refine Lx.y (mv rfl) rfl ?_
  refine Lx.y (Yx.tt (eqNilP Try.underlying26 rfl rfl) rfl) rfl ?_
  refine Lx.nil ?_
  refine Xx.tn (k3 _ _ _ _ ?_)
  refine Cx.condT rfl ?_
  refine Cx.seq (fun K4 k4 => ?_)
  refine Cx.region ?_
  refine Lx.y (asg rfl) rfl ?_
  refine Lx.nil ?_
  refine Xx.tn (k4 _ _ _ _ ?_)
  refine Cx.ret ?_
  refine Xx.tr ?_
  exact Xx.rB1 rfl rfl ⟨rfl, rfl⟩ (Frag.le_refl _) rfl

set_option maxHeartbeats 4000000 in
theorem Clone_ct (d : Dk) (db : Nat) (B : Frag) (hF : d.abs.Fit) : Ct Try.prog 23 [.pointer (some ⟨db, 0, none⟩)] B (dkH db d) (fun v B' H' => B' = B ∧ ∃ (cb : Nat) (d' : Dk), v = .pointer (some ⟨cb, 0, none⟩) ∧ d'.abs.fs.Perm d.abs.fs ∧ d'.abs = { d.abs with fs := d'.abs.fs } ∧ H' = dkH db d * dkH cb d') := by
  have hpl : d.plan.length ≤ 1000000 := hF.plan
  refine Ct.of_body Try.func23 rfl (nt := 61) rfl (by kernel_rfl) rfl ?_
  intro N0 w0 R
  unfold dkH
  simp only [star_assoc]
  refine Cx.seq (fun K1 k1 => ?_)
  refine Cx.region ?_
  refine Lx.y (asg rfl) rfl ?_
  refine Lx.nil ?_
  refine Xx.tn (k1 _ _ _ _ ?_)
  refine Cx.seq (fun K2 k2 => ?_)
  refine Cx.seq (fun K3 k3 => ?_)
  refine Cx.region ?_
  refine Lx.y (mv rfl) rfl ?_
  refine Lx.y (Yx.ff (eqNilP Try.underlying26 rfl rfl) rfl) rfl ?_
  refine Lx.nil ?_
  refine Xx.tn (k3 _ _ _ _ ?_)
  refine Cx.condF rfl ?_
  refine Cx.skip ?_
  refine Xx.tn (k2 _ _ _ _ ?_)
  refine Cx.seq (fun K4 k4 => ?_)
  refine Cx.drawn (by kernel_rfl) ?_
  refine Dx.p (i := 1) rfl (by kernel_rfl) (mv rfl) rfl ?_
  refine Dx.p (i := 2) rfl (by kernel_rfl) (nilc rfl) rfl ?_
  refine Dx.p (i := 3) rfl (by kernel_rfl) (fa' fo97_1 rfl) rfl ?_
  refine Dx.r (i := 4) rfl (by kernel_rfl) (ld Try.underlying3 rfl rfl rfl) rfl ?_
  refine Dx.p (i := 5) rfl (by kernel_rfl) (mv rfl) rfl ?_
  refine Dx.p (i := 6) rfl (by kernel_rfl) (nilc rfl) rfl ?_
  refine Dx.p (i := 7) rfl (by kernel_rfl) (fa' fo97_2 rfl) rfl ?_
  refine Dx.r (i := 8) rfl (by kernel_rfl) (ld Try.underlying4 rfl rfl rfl) rfl ?_
  refine Dx.p (i := 9) rfl (by kernel_rfl) (mv rfl) rfl ?_
  refine Dx.p (i := 10) rfl (by kernel_rfl) (nilc rfl) rfl ?_
  refine Dx.p (i := 11) rfl (by kernel_rfl) (fa' fo97_3 rfl) rfl ?_
  refine Dx.r (i := 12) rfl (by kernel_rfl) (ld Try.underlying54 rfl rfl rfl) rfl ?_
  refine Dx.p (i := 14) rfl (by kernel_rfl) (mv rfl) rfl ?_
  refine Dx.p (i := 15) rfl (by kernel_rfl) (nilc rfl) rfl ?_
  refine Dx.p (i := 16) rfl (by kernel_rfl) (fa' fo97_4 rfl) rfl ?_
  refine Dx.r (i := 17) rfl (by kernel_rfl) (ld Try.underlying3 rfl rfl rfl) rfl ?_
  refine Dx.two (i := 0) (j := 13) (by kernel_rfl) ?_ ?_
  · skip
    refine Dstep.o (i := 0) rfl (mkM) rfl (fun v B' H' hΦ hB => ?_)
    obtain ⟨mb2, rfl, hBB, rfl⟩ := hΦ
    have hBB2 := hBB.symm
    subst hBB2
    refine ⟨JOk.yes (JOk.yes (JOk.yes (JOk.yes (JOk.top) (ld Try.underlying3 rfl rfl rfl)) (ld Try.underlying4 rfl rfl rfl)) (ld Try.underlying54 rfl rfl rfl)) (ld Try.underlying3 rfl rfl rfl), ?_⟩
    refine Dx.one (i := 13) (by kernel_rfl) ?_
    refine Dstep.o (i := 13) rfl (Ox.call rfl rfl rfl (ClS_ct d.Ap d.plan.length d.cp (d.plan.flatMap scs) _ (plan_all _) (by omega) (by omega)) (pickS _)) rfl (fun v B' H' hΦ hB => ?_)
    obtain ⟨_, rfl, hΦ⟩ := hΦ
    obtain ⟨hBB, A9, c9, rfl, rfl⟩ := hΦ
    have hBB2 := hBB.symm
    subst hBB2
    clear hB
    simp only [star_assoc]
    refine ⟨JOk.yes (JOk.edge (JOk.yes (JOk.yes (JOk.top) (ld Try.underlying3 rfl rfl rfl)) (ld Try.underlying4 rfl rfl rfl)) (by kernel_rfl)) (ld Try.underlying3 rfl rfl rfl), ?_⟩
    refine Dx.p (i := 18) rfl (by kernel_rfl) (bld ti97 pl97 rfl rfl) rfl ?_
    refine Dx.one (i := 19) (by kernel_rfl) ?_
    refine Dstep.o (i := 19) rfl (boxA rfl) rfl (fun v B' H' hΦ hB => ?_)
    obtain ⟨cb, rfl, hBB, rfl⟩ := hΦ; have hBB2 := hBB.symm; subst hBB2; clear hB
    refine ⟨JOk.yes (JOk.yes (JOk.yes (JOk.yes (JOk.top) (ld Try.underlying3 rfl rfl rfl)) (ld Try.underlying4 rfl rfl rfl)) (ld Try.underlying54 rfl rfl rfl)) (ld Try.underlying3 rfl rfl rfl), ?_⟩
    refine Dx.p (i := 20) rfl (by kernel_rfl) (asg rfl) rfl ?_
    refine Dx.done (by kernel_rfl) ?_
    refine Xx.tn (k4 _ _ _ _ ?_)
    refine Cx.seq (fun K5 k5 => ?_)
    refine Cx.seq (fun K6 k6 => ?_)
    refine Cx.region ?_
    refine Lx.y (mv rfl) rfl ?_
    refine Lx.y (nilc rfl) rfl ?_
    refine Lx.y (fa' fo97_0 rfl) rfl ?_
    refine Lx.y (ld Try.underlying94 rfl rfl rfl) rfl ?_
    refine Xx.openF d.mb fun Z c hS hZ => ?_
    refine Lx.o (rgM Try.underlying94 rfl) rfl (fun v B' H' hΦ hB => ?_)
    obtain ⟨it, rfl, hBB, rfl⟩ := hΦ
    have hBB2 := hBB.symm
    subst hBB2
    clear hB
    refine Lx.nil ?_
    refine Xx.tn (k6 _ _ _ _ ?_)
    refine Cx.block ?_
    refine Cx.loopK (Sub.cons (s := 0) rfl (Sub.cons (s := 2) rfl (Sub.cons (s := 3) rfl (Sub.cons (s := 6) rfl (Sub.cons (s := 7) rfl (Sub.cons (s := 8) rfl (Sub.cons (s := 9) rfl (Sub.cons (s := 10) rfl (Sub.cons (s := 11) rfl (Sub.cons (s := 12) rfl (Sub.cons (s := 13) rfl (Sub.cons (s := 14) rfl (Sub.cons (s := 15) rfl (Sub.cons (s := 16) rfl (Sub.cons (s := 17) rfl (Sub.cons (s := 18) rfl (Sub.cons (s := 19) rfl (Sub.cons (s := 20) rfl (Sub.cons (s := 21) rfl (Sub.cons (s := 22) rfl (Sub.cons (s := 23) rfl (Sub.cons (s := 24) rfl (Sub.cons (s := 25) rfl (Sub.cons (s := 26) rfl (Sub.cons (s := 27) rfl (Sub.cons (s := 28) rfl (Sub.cons (s := 29) rfl (Sub.cons (s := 30) rfl (Sub.cons (s := 31) rfl (Sub.cons (s := 32) rfl (Sub.nil _))))))))))))))))))))))))))))))) (fun m ρ' B' H' => ∃ (dz : List (Fi × Nat)) (fs' : List Fi), (VisF Z dz ∧ fs'.map (·.m) = dz.map (·.1.m)) ∧ m = Z.length - dz.length ∧ ρ' = [] ∧ B = B' ∧ blk it (itObj d.mb c (dz.map (mz fkv))) * (blk d.mb (mapObj (Z.map (mz fkv)) c) * (row db 97 (dcs d) * (sbuf 25 3 d.Ap d.plan.length d.cp (d.plan.flatMap scs) * (fisH d.fs * (row cb 97 [.map (some mb2), i64 d.room, .bool d.dead, .slice A9 d.plan.length c9, i64 ((d.ch : Nat) : Int)] * (imap mb2 (fs'.map fkv) * (sbuf 25 3 A9 d.plan.length c9 (d.plan.flatMap scs) * (fisH fs' * R)))))))) = H') ⟨[], [], ⟨VisF.nil Z, rfl⟩, rfl, rfl, rfl, by unfold fisH; rw [List.map_nil, one_star]; ac_rfl⟩ (Sub.cons (s := 0) rfl (Sub.cons (s := 2) rfl (Sub.cons (s := 3) rfl (Sub.cons (s := 6) rfl (Sub.cons (s := 7) rfl (Sub.cons (s := 8) rfl (Sub.cons (s := 9) rfl (Sub.cons (s := 10) rfl (Sub.cons (s := 11) rfl (Sub.cons (s := 12) rfl (Sub.cons (s := 13) rfl (Sub.cons (s := 14) rfl (Sub.cons (s := 15) rfl (Sub.cons (s := 16) rfl (Sub.cons (s := 17) rfl (Sub.cons (s := 18) rfl (Sub.cons (s := 19) rfl (Sub.cons (s := 20) rfl (Sub.cons (s := 21) rfl (Sub.cons (s := 22) rfl (Sub.cons (s := 23) rfl (Sub.cons (s := 24) rfl (Sub.cons (s := 25) rfl (Sub.cons (s := 26) rfl (Sub.cons (s := 27) rfl (Sub.cons (s := 28) rfl (Sub.cons (s := 29) rfl (Sub.cons (s := 30) rfl (Sub.cons (s := 31) rfl (Sub.cons (s := 32) rfl (Sub.nil _))))))))))))))))))))))))))))))) ?_
    rintro m ρ' B' H' ⟨dz, fs', ⟨hv, hfs⟩, rfl, rfl, rfl, rfl⟩
    refine Cx.seq (fun K7 k7 => ?_)
    refine Cx.region ?_
    refine Lx.o (nxF hS hv rfl) rfl (fun v B' H' hΦ hB => ?_)
    obtain ⟨o, dz2, rfl, ha, hBB, rfl⟩ := hΦ
    have hBB2 := hBB.symm
    subst hBB2
    clear hB
    refine Lx.y (ext rfl (nx0 _)) rfl ?_
    refine Lx.nil ?_
    refine Xx.tn (k7 _ _ _ _ ?_)
    refine Cx.seq (fun K8 k8 => ?_)
    refine Cx.condB rfl (fun h9 => ?_) (fun h9 => ?_)
    · skip
      obtain ⟨z, rfl⟩ : ∃ z, o = some z := by
        cases o with
        | none => exact absurd h9 (by simp)
        | some z => exact ⟨z, rfl⟩
      obtain ⟨rfl, hzZ, hzn⟩ := ha
      have hzf : z.1 ∈ d.fs := by rw [← hZ]; exact List.mem_map.2 ⟨z, hzZ, rfl⟩
      obtain ⟨Rf, hRf⟩ := fisH_mem hzf
      rw [hRf]
      simp only [show fiH z.1 = row z.1.b 102 (fcs z.1) * (sbuf 5 1 z.1.An z.1.m.now.length z.1.cn (u8s z.1.m.now) * (sbuf 5 1 z.1.As z.1.m.sure.length z.1.cs (u8s z.1.m.sure) * sbuf 3 1 z.1.Al z.1.m.loose.length z.1.cl (nv z.1.m.loose))) from rfl, star_assoc]
      have hv2 := hv.step hzZ hzn
      have hvl := hv2.len
      rw [List.length_append, List.length_singleton] at hvl
      have hzo := hF.ok (List.mem_map.2 ⟨_, hzf, rfl⟩)
      have hz3 := hzo.2.2.1
      have hz4 := hzo.2.2.2
      have hz5 := hzo.loose
      have hnf : findF z.1.m.n fs' = none := by
        cases hq : findF z.1.m.n fs' with
        | none => rfl
        | some g =>
          exfalso
          obtain ⟨h1, h2⟩ := findF_mem hq
          have h3 : g.m ∈ dz.map (·.1.m) := by rw [← hfs]; exact List.mem_map.2 ⟨_, h1, rfl⟩
          obtain ⟨y, hy, hye⟩ := List.mem_map.1 h3
          have h4 : (Z.map fun z : Fi × Nat => z.1.m.n).Nodup := by
            have := hF.nd
            rw [show Z.map (fun z : Fi × Nat => z.1.m.n) = d.abs.fs.map (·.n) from by unfold Dk.abs; simp only [← hZ, List.map_map]; rfl]
            exact this
          have h5 : y = z := map_inj _ h4 (hv.1 y hy) hzZ (by show y.1.m.n = z.1.m.n; rw [hye, h2])
          exact hzn (List.mem_map.2 ⟨y, hy, by rw [h5]⟩)
      refine Cx.skip ?_
      refine Xx.tn (k8 _ _ _ _ ?_)
      refine Cx.block ?_
      refine Cx.seq (fun K10 k10 => ?_)
      refine Cx.region ?_
      refine Lx.y (entF hS hzZ rfl) rfl ?_
      refine Lx.y (ext rfl rfl) rfl ?_
      refine Lx.y (ext rfl rfl) rfl ?_
      refine Lx.y (asg rfl) rfl ?_
      refine Lx.y (asg rfl) rfl ?_
      refine Lx.nil ?_
      refine Xx.tn (k10 _ _ _ _ ?_)
      refine Cx.drawn (by kernel_rfl) ?_
      refine Dx.p (i := 0) rfl (by kernel_rfl) (mv rfl) rfl ?_
      refine Dx.p (i := 1) rfl (by kernel_rfl) (nilc rfl) rfl ?_
      refine Dx.p (i := 2) rfl (by kernel_rfl) (fa' fo97_0 rfl) rfl ?_
      refine Dx.r (i := 3) rfl (by kernel_rfl) (ld Try.underlying94 rfl rfl rfl) rfl ?_
      refine Dx.p (i := 4) rfl (by kernel_rfl) (mv rfl) rfl ?_
      refine Dx.p (i := 5) rfl (by kernel_rfl) (mv rfl) rfl ?_
      refine Dx.p (i := 6) rfl (by kernel_rfl) (nilc rfl) rfl ?_
      refine Dx.p (i := 7) rfl (by kernel_rfl) (fa' fo102_0 rfl) rfl ?_
      refine Dx.r (i := 8) rfl (by kernel_rfl) (ld Try.underlying80 rfl rfl rfl) rfl ?_
      refine Dx.p (i := 10) rfl (by kernel_rfl) (mv rfl) rfl ?_
      refine Dx.p (i := 11) rfl (by kernel_rfl) (nilc rfl) rfl ?_
      refine Dx.p (i := 12) rfl (by kernel_rfl) (fa' fo102_1 rfl) rfl ?_
      refine Dx.r (i := 13) rfl (by kernel_rfl) (ld Try.underlying80 rfl rfl rfl) rfl ?_
      refine Dx.p (i := 15) rfl (by kernel_rfl) (mv rfl) rfl ?_
      refine Dx.p (i := 16) rfl (by kernel_rfl) (nilc rfl) rfl ?_
      refine Dx.p (i := 17) rfl (by kernel_rfl) (fa' fo102_2 rfl) rfl ?_
      refine Dx.r (i := 18) rfl (by kernel_rfl) (ld Try.underlying39 rfl rfl rfl) rfl ?_
      refine Dx.one (i := 9) (by kernel_rfl) ?_
      refine Dstep.o (i := 9) rfl (Ox.call rfl rfl rfl (ClB_ct z.1.An z.1.m.now.length z.1.cn (u8s z.1.m.now) _ (u8_all _) (by omega) (by omega)) (pickS _)) rfl (fun v B' H' hΦ hB => ?_)
      obtain ⟨_, rfl, hΦ⟩ := hΦ
      obtain ⟨hBB, A1, c1, rfl, rfl⟩ := hΦ
      have hBB2 := hBB.symm
      subst hBB2
      clear hB
      simp only [star_assoc]
      refine ⟨JOk.yes (JOk.yes (JOk.edge (JOk.yes (JOk.top) (ld Try.underlying94 rfl rfl rfl)) (by kernel_rfl)) (ld Try.underlying80 rfl rfl rfl)) (ld Try.underlying39 rfl rfl rfl), ?_⟩
      refine Dx.one (i := 14) (by kernel_rfl) ?_
      refine Dstep.o (i := 14) rfl (Ox.call rfl rfl rfl (ClB_ct z.1.As z.1.m.sure.length z.1.cs (u8s z.1.m.sure) _ (u8_all _) (by omega) (by omega)) (pickS _)) rfl (fun v B' H' hΦ hB => ?_)
      obtain ⟨_, rfl, hΦ⟩ := hΦ
      obtain ⟨hBB, A2, c2, rfl, rfl⟩ := hΦ
      have hBB2 := hBB.symm
      subst hBB2
      clear hB
      simp only [star_assoc]
      refine ⟨JOk.yes (JOk.edge (JOk.yes (JOk.yes (JOk.top) (ld Try.underlying94 rfl rfl rfl)) (ld Try.underlying80 rfl rfl rfl)) (by kernel_rfl)) (ld Try.underlying39 rfl rfl rfl), ?_⟩
      refine Dx.one (i := 19) (by kernel_rfl) ?_
      refine Dstep.o (i := 19) rfl (Ox.call rfl rfl rfl (ClI_ct z.1.Al z.1.m.loose.length z.1.cl (nv z.1.m.loose) _ (nv_all _) (by omega) (by omega)) (pickS _)) rfl (fun v B' H' hΦ hB => ?_)
      obtain ⟨_, rfl, hΦ⟩ := hΦ
      obtain ⟨hBB, A3, c3, rfl, rfl⟩ := hΦ
      have hBB2 := hBB.symm
      subst hBB2
      clear hB
      simp only [star_assoc]
      refine ⟨JOk.edge (JOk.yes (JOk.yes (JOk.yes (JOk.top) (ld Try.underlying94 rfl rfl rfl)) (ld Try.underlying80 rfl rfl rfl)) (ld Try.underlying80 rfl rfl rfl)) (by kernel_rfl), ?_⟩
      refine Dx.p (i := 20) rfl (by kernel_rfl) (bld ti102 pl102 rfl rfl) rfl ?_
      refine Dx.one (i := 21) (by kernel_rfl) ?_
      refine Dstep.o (i := 21) rfl (boxA rfl) rfl (fun v B' H' hΦ hB => ?_)
      obtain ⟨fb, rfl, hBB, rfl⟩ := hΦ; have hBB2 := hBB.symm; subst hBB2; clear hB
      refine ⟨JOk.yes (JOk.yes (JOk.yes (JOk.yes (JOk.top) (ld Try.underlying94 rfl rfl rfl)) (ld Try.underlying80 rfl rfl rfl)) (ld Try.underlying80 rfl rfl rfl)) (ld Try.underlying39 rfl rfl rfl), ?_⟩
      refine Dx.one (i := 22) (by kernel_rfl) ?_
      refine Dstep.o0 (i := 22) rfl (stM Try.underlying94 Try.underlying3 rfl rfl rfl) (fun v B' H' hΦ hB => ?_)
      obtain ⟨hBB, rfl⟩ := hΦ
      have hBB2 := hBB.symm
      subst hBB2
      refine ⟨JOk.edge (JOk.edge (JOk.edge (JOk.edge (JOk.top) (by kernel_rfl)) (by kernel_rfl)) (by kernel_rfl)) (by kernel_rfl), ?_⟩
      refine Dx.done (by kernel_rfl) ?_
      refine Xx.bn ?_
      exact Xx.againK ⟨dz ++ [z], setF ⟨z.1.m, fb, A1, c1, A2, c2, A3, c3⟩ fs', ⟨hv2, by rw [setF_m, setM_new (findM_none (fs := fs') hnf), hfs, List.map_append]; rfl⟩, rfl, rfl, rfl, (by rw [fisH_new (f' := ⟨z.1.m, fb, A1, c1, A2, c2, A3, c3⟩) hnf, ← mset_set, hRf]; unfold fiH fcs; dsimp only; ac_rfl)⟩ (by rw [List.length_append, List.length_singleton]; omega) (Sub.cons (s := 0) rfl (Sub.cons (s := 2) rfl (Sub.cons (s := 3) rfl (Sub.cons (s := 6) rfl (Sub.cons (s := 7) rfl (Sub.cons (s := 8) rfl (Sub.cons (s := 9) rfl (Sub.cons (s := 10) rfl (Sub.cons (s := 11) rfl (Sub.cons (s := 12) rfl (Sub.cons (s := 13) rfl (Sub.cons (s := 14) rfl (Sub.cons (s := 15) rfl (Sub.cons (s := 16) rfl (Sub.cons (s := 17) rfl (Sub.cons (s := 18) rfl (Sub.cons (s := 19) rfl (Sub.cons (s := 20) rfl (Sub.cons (s := 21) rfl (Sub.cons (s := 22) rfl (Sub.cons (s := 23) rfl (Sub.cons (s := 24) rfl (Sub.cons (s := 25) rfl (Sub.cons (s := 26) rfl (Sub.cons (s := 27) rfl (Sub.cons (s := 28) rfl (Sub.cons (s := 29) rfl (Sub.cons (s := 30) rfl (Sub.cons (s := 31) rfl (Sub.cons (s := 32) rfl (Sub.nil _)))))))))))))))))))))))))))))))
    · skip
      obtain rfl : o = none := by
        cases o with
        | none => rfl
        | some z => exact absurd h9 (by simp)
      obtain ⟨rfl, hall⟩ := ha
      have hp := hv.all hS hall
      rw [hZ] at hp
      refine Cx.exit ?_
      refine Xx.te ?_
      refine Xx.te ?_
      refine Xx.bh ?_
      refine Xx.tn (k5 _ _ _ _ ?_)
      refine Cx.seq (fun K11 k11 => ?_)
      refine Cx.region ?_
      refine Lx.y (mv rfl) rfl ?_
      refine Lx.y (asg rfl) rfl ?_
      refine Lx.nil ?_
      refine Xx.tn (k11 _ _ _ _ ?_)
      refine Cx.ret ?_
      refine Xx.closeF d.mb hS hZ (Xx.dropB it ?_)
      have hper : (fs'.map (·.m)).Perm (d.fs.map (·.m)) := by rw [hfs]; have := hp.map (·.m); rw [List.map_map] at this; exact this
      exact Xx.ret1 rfl rfl ⟨rfl, cb, ⟨fs', d.room, d.dead, d.plan, d.ch, mb2, A9, c9⟩, rfl, hper, rfl, rfl⟩ (Frag.le_refl _) (by unfold dcs; dsimp only; ac_rfl)
  refine Dstep.o (i := 13) rfl (Ox.call rfl rfl rfl (ClS_ct d.Ap d.plan.length d.cp (d.plan.flatMap scs) _ (plan_all _) (by omega) (by omega)) (pickS _)) rfl (fun v B' H' hΦ hB => ?_)
  obtain ⟨_, rfl, hΦ⟩ := hΦ
  obtain ⟨hBB, A9, c9, rfl, rfl⟩ := hΦ
  have hBB2 := hBB.symm
  subst hBB2
  clear hB
  simp only [star_assoc]
  refine ⟨JOk.yes (JOk.edge (JOk.yes (JOk.yes (JOk.top) (ld Try.underlying3 rfl rfl rfl)) (ld Try.underlying4 rfl rfl rfl)) (by kernel_rfl)) (ld Try.underlying3 rfl rfl rfl), ?_⟩
  refine Dx.one (i := 0) (by kernel_rfl) ?_
  refine Dstep.o (i := 0) rfl (mkM) rfl (fun v B' H' hΦ hB => ?_)
  obtain ⟨mb2, rfl, hBB, rfl⟩ := hΦ
  have hBB2 := hBB.symm
  subst hBB2
  refine ⟨JOk.yes (JOk.yes (JOk.yes (JOk.yes (JOk.top) (ld Try.underlying3 rfl rfl rfl)) (ld Try.underlying4 rfl rfl rfl)) (ld Try.underlying54 rfl rfl rfl)) (ld Try.underlying3 rfl rfl rfl), ?_⟩
  refine Dx.p (i := 18) rfl (by kernel_rfl) (bld ti97 pl97 rfl rfl) rfl ?_
  refine Dx.one (i := 19) (by kernel_rfl) ?_
  refine Dstep.o (i := 19) rfl (boxA rfl) rfl (fun v B' H' hΦ hB => ?_)
  obtain ⟨cb, rfl, hBB, rfl⟩ := hΦ; have hBB2 := hBB.symm; subst hBB2; clear hB
  refine ⟨JOk.yes (JOk.yes (JOk.yes (JOk.yes (JOk.top) (ld Try.underlying3 rfl rfl rfl)) (ld Try.underlying4 rfl rfl rfl)) (ld Try.underlying54 rfl rfl rfl)) (ld Try.underlying3 rfl rfl rfl), ?_⟩
  refine Dx.p (i := 20) rfl (by kernel_rfl) (asg rfl) rfl ?_
  refine Dx.done (by kernel_rfl) ?_
  refine Xx.tn (k4 _ _ _ _ ?_)
  refine Cx.seq (fun K12 k12 => ?_)
  refine Cx.seq (fun K13 k13 => ?_)
  refine Cx.region ?_
  refine Lx.y (mv rfl) rfl ?_
  refine Lx.y (nilc rfl) rfl ?_
  refine Lx.y (fa' fo97_0 rfl) rfl ?_
  refine Lx.y (ld Try.underlying94 rfl rfl rfl) rfl ?_
  refine Xx.openF d.mb fun Z c hS hZ => ?_
  refine Lx.o (rgM Try.underlying94 rfl) rfl (fun v B' H' hΦ hB => ?_)
  obtain ⟨it, rfl, hBB, rfl⟩ := hΦ
  have hBB2 := hBB.symm
  subst hBB2
  clear hB
  refine Lx.nil ?_
  refine Xx.tn (k13 _ _ _ _ ?_)
  refine Cx.block ?_
  refine Cx.loopK (Sub.cons (s := 0) rfl (Sub.cons (s := 2) rfl (Sub.cons (s := 3) rfl (Sub.cons (s := 6) rfl (Sub.cons (s := 7) rfl (Sub.cons (s := 8) rfl (Sub.cons (s := 9) rfl (Sub.cons (s := 10) rfl (Sub.cons (s := 11) rfl (Sub.cons (s := 12) rfl (Sub.cons (s := 13) rfl (Sub.cons (s := 14) rfl (Sub.cons (s := 15) rfl (Sub.cons (s := 16) rfl (Sub.cons (s := 17) rfl (Sub.cons (s := 18) rfl (Sub.cons (s := 19) rfl (Sub.cons (s := 20) rfl (Sub.cons (s := 21) rfl (Sub.cons (s := 22) rfl (Sub.cons (s := 23) rfl (Sub.cons (s := 24) rfl (Sub.cons (s := 25) rfl (Sub.cons (s := 26) rfl (Sub.cons (s := 27) rfl (Sub.cons (s := 28) rfl (Sub.cons (s := 29) rfl (Sub.cons (s := 30) rfl (Sub.cons (s := 31) rfl (Sub.cons (s := 32) rfl (Sub.nil _))))))))))))))))))))))))))))))) (fun m ρ' B' H' => ∃ (dz : List (Fi × Nat)) (fs' : List Fi), (VisF Z dz ∧ fs'.map (·.m) = dz.map (·.1.m)) ∧ m = Z.length - dz.length ∧ ρ' = [] ∧ B = B' ∧ blk it (itObj d.mb c (dz.map (mz fkv))) * (blk d.mb (mapObj (Z.map (mz fkv)) c) * (row db 97 (dcs d) * (sbuf 25 3 d.Ap d.plan.length d.cp (d.plan.flatMap scs) * (fisH d.fs * (row cb 97 [.map (some mb2), i64 d.room, .bool d.dead, .slice A9 d.plan.length c9, i64 ((d.ch : Nat) : Int)] * (imap mb2 (fs'.map fkv) * (sbuf 25 3 A9 d.plan.length c9 (d.plan.flatMap scs) * (fisH fs' * R)))))))) = H') ⟨[], [], ⟨VisF.nil Z, rfl⟩, rfl, rfl, rfl, by unfold fisH; rw [List.map_nil, one_star]; ac_rfl⟩ (Sub.cons (s := 0) rfl (Sub.cons (s := 2) rfl (Sub.cons (s := 3) rfl (Sub.cons (s := 6) rfl (Sub.cons (s := 7) rfl (Sub.cons (s := 8) rfl (Sub.cons (s := 9) rfl (Sub.cons (s := 10) rfl (Sub.cons (s := 11) rfl (Sub.cons (s := 12) rfl (Sub.cons (s := 13) rfl (Sub.cons (s := 14) rfl (Sub.cons (s := 15) rfl (Sub.cons (s := 16) rfl (Sub.cons (s := 17) rfl (Sub.cons (s := 18) rfl (Sub.cons (s := 19) rfl (Sub.cons (s := 20) rfl (Sub.cons (s := 21) rfl (Sub.cons (s := 22) rfl (Sub.cons (s := 23) rfl (Sub.cons (s := 24) rfl (Sub.cons (s := 25) rfl (Sub.cons (s := 26) rfl (Sub.cons (s := 27) rfl (Sub.cons (s := 28) rfl (Sub.cons (s := 29) rfl (Sub.cons (s := 30) rfl (Sub.cons (s := 31) rfl (Sub.cons (s := 32) rfl (Sub.nil _))))))))))))))))))))))))))))))) ?_
  rintro m ρ' B' H' ⟨dz, fs', ⟨hv, hfs⟩, rfl, rfl, rfl, rfl⟩
  refine Cx.seq (fun K14 k14 => ?_)
  refine Cx.region ?_
  refine Lx.o (nxF hS hv rfl) rfl (fun v B' H' hΦ hB => ?_)
  obtain ⟨o, dz2, rfl, ha, hBB, rfl⟩ := hΦ
  have hBB2 := hBB.symm
  subst hBB2
  clear hB
  refine Lx.y (ext rfl (nx0 _)) rfl ?_
  refine Lx.nil ?_
  refine Xx.tn (k14 _ _ _ _ ?_)
  refine Cx.seq (fun K15 k15 => ?_)
  refine Cx.condB rfl (fun h16 => ?_) (fun h16 => ?_)
  · skip
    obtain ⟨z, rfl⟩ : ∃ z, o = some z := by
      cases o with
      | none => exact absurd h16 (by simp)
      | some z => exact ⟨z, rfl⟩
    obtain ⟨rfl, hzZ, hzn⟩ := ha
    have hzf : z.1 ∈ d.fs := by rw [← hZ]; exact List.mem_map.2 ⟨z, hzZ, rfl⟩
    obtain ⟨Rf, hRf⟩ := fisH_mem hzf
    rw [hRf]
    simp only [show fiH z.1 = row z.1.b 102 (fcs z.1) * (sbuf 5 1 z.1.An z.1.m.now.length z.1.cn (u8s z.1.m.now) * (sbuf 5 1 z.1.As z.1.m.sure.length z.1.cs (u8s z.1.m.sure) * sbuf 3 1 z.1.Al z.1.m.loose.length z.1.cl (nv z.1.m.loose))) from rfl, star_assoc]
    have hv2 := hv.step hzZ hzn
    have hvl := hv2.len
    rw [List.length_append, List.length_singleton] at hvl
    have hzo := hF.ok (List.mem_map.2 ⟨_, hzf, rfl⟩)
    have hz3 := hzo.2.2.1
    have hz4 := hzo.2.2.2
    have hz5 := hzo.loose
    have hnf : findF z.1.m.n fs' = none := by
      cases hq : findF z.1.m.n fs' with
      | none => rfl
      | some g =>
        exfalso
        obtain ⟨h1, h2⟩ := findF_mem hq
        have h3 : g.m ∈ dz.map (·.1.m) := by rw [← hfs]; exact List.mem_map.2 ⟨_, h1, rfl⟩
        obtain ⟨y, hy, hye⟩ := List.mem_map.1 h3
        have h4 : (Z.map fun z : Fi × Nat => z.1.m.n).Nodup := by
          have := hF.nd
          rw [show Z.map (fun z : Fi × Nat => z.1.m.n) = d.abs.fs.map (·.n) from by unfold Dk.abs; simp only [← hZ, List.map_map]; rfl]
          exact this
        have h5 : y = z := map_inj _ h4 (hv.1 y hy) hzZ (by show y.1.m.n = z.1.m.n; rw [hye, h2])
        exact hzn (List.mem_map.2 ⟨y, hy, by rw [h5]⟩)
    refine Cx.skip ?_
    refine Xx.tn (k15 _ _ _ _ ?_)
    refine Cx.block ?_
    refine Cx.seq (fun K17 k17 => ?_)
    refine Cx.region ?_
    refine Lx.y (entF hS hzZ rfl) rfl ?_
    refine Lx.y (ext rfl rfl) rfl ?_
    refine Lx.y (ext rfl rfl) rfl ?_
    refine Lx.y (asg rfl) rfl ?_
    refine Lx.y (asg rfl) rfl ?_
    refine Lx.nil ?_
    refine Xx.tn (k17 _ _ _ _ ?_)
    refine Cx.drawn (by kernel_rfl) ?_
    refine Dx.p (i := 0) rfl (by kernel_rfl) (mv rfl) rfl ?_
    refine Dx.p (i := 1) rfl (by kernel_rfl) (nilc rfl) rfl ?_
    refine Dx.p (i := 2) rfl (by kernel_rfl) (fa' fo97_0 rfl) rfl ?_
    refine Dx.r (i := 3) rfl (by kernel_rfl) (ld Try.underlying94 rfl rfl rfl) rfl ?_
    refine Dx.p (i := 4) rfl (by kernel_rfl) (mv rfl) rfl ?_
    refine Dx.p (i := 5) rfl (by kernel_rfl) (mv rfl) rfl ?_
    refine Dx.p (i := 6) rfl (by kernel_rfl) (nilc rfl) rfl ?_
    refine Dx.p (i := 7) rfl (by kernel_rfl) (fa' fo102_0 rfl) rfl ?_
    refine Dx.r (i := 8) rfl (by kernel_rfl) (ld Try.underlying80 rfl rfl rfl) rfl ?_
    refine Dx.p (i := 10) rfl (by kernel_rfl) (mv rfl) rfl ?_
    refine Dx.p (i := 11) rfl (by kernel_rfl) (nilc rfl) rfl ?_
    refine Dx.p (i := 12) rfl (by kernel_rfl) (fa' fo102_1 rfl) rfl ?_
    refine Dx.r (i := 13) rfl (by kernel_rfl) (ld Try.underlying80 rfl rfl rfl) rfl ?_
    refine Dx.p (i := 15) rfl (by kernel_rfl) (mv rfl) rfl ?_
    refine Dx.p (i := 16) rfl (by kernel_rfl) (nilc rfl) rfl ?_
    refine Dx.p (i := 17) rfl (by kernel_rfl) (fa' fo102_2 rfl) rfl ?_
    refine Dx.r (i := 18) rfl (by kernel_rfl) (ld Try.underlying39 rfl rfl rfl) rfl ?_
    refine Dx.one (i := 9) (by kernel_rfl) ?_
    refine Dstep.o (i := 9) rfl (Ox.call rfl rfl rfl (ClB_ct z.1.An z.1.m.now.length z.1.cn (u8s z.1.m.now) _ (u8_all _) (by omega) (by omega)) (pickS _)) rfl (fun v B' H' hΦ hB => ?_)
    obtain ⟨_, rfl, hΦ⟩ := hΦ
    obtain ⟨hBB, A1, c1, rfl, rfl⟩ := hΦ
    have hBB2 := hBB.symm
    subst hBB2
    clear hB
    simp only [star_assoc]
    refine ⟨JOk.yes (JOk.yes (JOk.edge (JOk.yes (JOk.top) (ld Try.underlying94 rfl rfl rfl)) (by kernel_rfl)) (ld Try.underlying80 rfl rfl rfl)) (ld Try.underlying39 rfl rfl rfl), ?_⟩
    refine Dx.one (i := 14) (by kernel_rfl) ?_
    refine Dstep.o (i := 14) rfl (Ox.call rfl rfl rfl (ClB_ct z.1.As z.1.m.sure.length z.1.cs (u8s z.1.m.sure) _ (u8_all _) (by omega) (by omega)) (pickS _)) rfl (fun v B' H' hΦ hB => ?_)
    obtain ⟨_, rfl, hΦ⟩ := hΦ
    obtain ⟨hBB, A2, c2, rfl, rfl⟩ := hΦ
    have hBB2 := hBB.symm
    subst hBB2
    clear hB
    simp only [star_assoc]
    refine ⟨JOk.yes (JOk.edge (JOk.yes (JOk.yes (JOk.top) (ld Try.underlying94 rfl rfl rfl)) (ld Try.underlying80 rfl rfl rfl)) (by kernel_rfl)) (ld Try.underlying39 rfl rfl rfl), ?_⟩
    refine Dx.one (i := 19) (by kernel_rfl) ?_
    refine Dstep.o (i := 19) rfl (Ox.call rfl rfl rfl (ClI_ct z.1.Al z.1.m.loose.length z.1.cl (nv z.1.m.loose) _ (nv_all _) (by omega) (by omega)) (pickS _)) rfl (fun v B' H' hΦ hB => ?_)
    obtain ⟨_, rfl, hΦ⟩ := hΦ
    obtain ⟨hBB, A3, c3, rfl, rfl⟩ := hΦ
    have hBB2 := hBB.symm
    subst hBB2
    clear hB
    simp only [star_assoc]
    refine ⟨JOk.edge (JOk.yes (JOk.yes (JOk.yes (JOk.top) (ld Try.underlying94 rfl rfl rfl)) (ld Try.underlying80 rfl rfl rfl)) (ld Try.underlying80 rfl rfl rfl)) (by kernel_rfl), ?_⟩
    refine Dx.p (i := 20) rfl (by kernel_rfl) (bld ti102 pl102 rfl rfl) rfl ?_
    refine Dx.one (i := 21) (by kernel_rfl) ?_
    refine Dstep.o (i := 21) rfl (boxA rfl) rfl (fun v B' H' hΦ hB => ?_)
    obtain ⟨fb, rfl, hBB, rfl⟩ := hΦ; have hBB2 := hBB.symm; subst hBB2; clear hB
    refine ⟨JOk.yes (JOk.yes (JOk.yes (JOk.yes (JOk.top) (ld Try.underlying94 rfl rfl rfl)) (ld Try.underlying80 rfl rfl rfl)) (ld Try.underlying80 rfl rfl rfl)) (ld Try.underlying39 rfl rfl rfl), ?_⟩
    refine Dx.one (i := 22) (by kernel_rfl) ?_
    refine Dstep.o0 (i := 22) rfl (stM Try.underlying94 Try.underlying3 rfl rfl rfl) (fun v B' H' hΦ hB => ?_)
    obtain ⟨hBB, rfl⟩ := hΦ
    have hBB2 := hBB.symm
    subst hBB2
    refine ⟨JOk.edge (JOk.edge (JOk.edge (JOk.edge (JOk.top) (by kernel_rfl)) (by kernel_rfl)) (by kernel_rfl)) (by kernel_rfl), ?_⟩
    refine Dx.done (by kernel_rfl) ?_
    refine Xx.bn ?_
    exact Xx.againK ⟨dz ++ [z], setF ⟨z.1.m, fb, A1, c1, A2, c2, A3, c3⟩ fs', ⟨hv2, by rw [setF_m, setM_new (findM_none (fs := fs') hnf), hfs, List.map_append]; rfl⟩, rfl, rfl, rfl, (by rw [fisH_new (f' := ⟨z.1.m, fb, A1, c1, A2, c2, A3, c3⟩) hnf, ← mset_set, hRf]; unfold fiH fcs; dsimp only; ac_rfl)⟩ (by rw [List.length_append, List.length_singleton]; omega) (Sub.cons (s := 0) rfl (Sub.cons (s := 2) rfl (Sub.cons (s := 3) rfl (Sub.cons (s := 6) rfl (Sub.cons (s := 7) rfl (Sub.cons (s := 8) rfl (Sub.cons (s := 9) rfl (Sub.cons (s := 10) rfl (Sub.cons (s := 11) rfl (Sub.cons (s := 12) rfl (Sub.cons (s := 13) rfl (Sub.cons (s := 14) rfl (Sub.cons (s := 15) rfl (Sub.cons (s := 16) rfl (Sub.cons (s := 17) rfl (Sub.cons (s := 18) rfl (Sub.cons (s := 19) rfl (Sub.cons (s := 20) rfl (Sub.cons (s := 21) rfl (Sub.cons (s := 22) rfl (Sub.cons (s := 23) rfl (Sub.cons (s := 24) rfl (Sub.cons (s := 25) rfl (Sub.cons (s := 26) rfl (Sub.cons (s := 27) rfl (Sub.cons (s := 28) rfl (Sub.cons (s := 29) rfl (Sub.cons (s := 30) rfl (Sub.cons (s := 31) rfl (Sub.cons (s := 32) rfl (Sub.nil _)))))))))))))))))))))))))))))))
  · skip
    obtain rfl : o = none := by
      cases o with
      | none => rfl
      | some z => exact absurd h16 (by simp)
    obtain ⟨rfl, hall⟩ := ha
    have hp := hv.all hS hall
    rw [hZ] at hp
    refine Cx.exit ?_
    refine Xx.te ?_
    refine Xx.te ?_
    refine Xx.bh ?_
    refine Xx.tn (k12 _ _ _ _ ?_)
    refine Cx.seq (fun K18 k18 => ?_)
    refine Cx.region ?_
    refine Lx.y (mv rfl) rfl ?_
    refine Lx.y (asg rfl) rfl ?_
    refine Lx.nil ?_
    refine Xx.tn (k18 _ _ _ _ ?_)
    refine Cx.ret ?_
    refine Xx.closeF d.mb hS hZ (Xx.dropB it ?_)
    have hper : (fs'.map (·.m)).Perm (d.fs.map (·.m)) := by rw [hfs]; have := hp.map (·.m); rw [List.map_map] at this; exact this
    exact Xx.ret1 rfl rfl ⟨rfl, cb, ⟨fs', d.room, d.dead, d.plan, d.ch, mb2, A9, c9⟩, rfl, hper, rfl, rfl⟩ (Frag.le_refl _) (by unfold dcs; dsimp only; ac_rfl)
end DkM
end Go.Proofs.Ytgcebieihmlaoaa

/-
  Disks without a plan, with power: what they stay; what was synced is there behind a loss of power.
-/
namespace Go.Proofs.Ytgcebieihmlaoaa
open Go.SL Go.RowKit
set_option linter.unusedVariables false
set_option linter.unusedSimpArgs false
set_option maxRecDepth 100000
open DkA DkB DkC DkD DkE DkF DkG DkH DkI DkJ DkK DkL DkM
namespace DkN


/-- A disk with power and no plan, of at most K files of at most L bytes, C changes. -/
structure Calm (K L C : Nat) (D : Dm) : Prop where
  plan : D.plan = []
  dead : D.dead = false
  nd : (D.fs.map (·.n)).Nodup
  rise : ∀ f ∈ D.fs, Rise f.loose
  lim : ∀ f ∈ D.fs, ∀ i ∈ f.loose, i < sec f.now.length
  len : D.fs.length ≤ K
  now : ∀ f ∈ D.fs, f.now.length ≤ L
  sure : ∀ f ∈ D.fs, f.sure.length ≤ f.now.length
  room : 0 ≤ D.room ∧ D.room ≤ 9223372036854775807
  ch : D.ch ≤ C
theorem Calm.fit {K L C : Nat} {D : Dm} (h : Calm K L C D) (hK : K ≤ 1000000) (hL : L ≤ 68719476736) (hC : C ≤ 1152921504606846976) : D.Fit :=
  ⟨h.nd, h.rise, h.lim, Nat.le_trans h.len hK, fun f hf => Nat.le_trans (h.now f hf) hL, h.sure, h.room, Nat.le_trans h.ch hC, by rw [h.plan]; exact Nat.zero_le _⟩
theorem Calm.mono {K L C K' L' C' : Nat} {D : Dm} (h : Calm K L C D) (hK : K ≤ K') (hL : L ≤ L') (hC : C ≤ C') : Calm K' L' C' D :=
  ⟨h.plan, h.dead, h.nd, h.rise, h.lim, Nat.le_trans h.len hK, fun f hf => Nat.le_trans (h.now f hf) hL, h.sure, h.room, Nat.le_trans h.ch hC⟩
theorem Calm.strikes {K L C : Nat} {D : Dm} (h : Calm K L C D) : strikesD D = ({ D with ch := D.ch + 1 }, false) := by
  unfold strikesD
  rw [if_neg (by rw [h.dead]; decide), h.plan]
  rfl
theorem findM_mem {k : Int} : ∀ {fs : List Fm} {f : Fm}, findM k fs = some f → f ∈ fs ∧ f.n = k := by
  intro fs
  induction fs with
  | nil => intro f h; cases h
  | cons g fs ih =>
    intro f h
    simp only [findM] at h
    split at h
    · rename_i e; cases h; exact ⟨by simp, e.symm⟩
    · obtain ⟨h1, h2⟩ := ih h; exact ⟨by simp [h1], h2⟩
theorem findM_of_mem : ∀ {fs : List Fm} {f : Fm}, (fs.map (·.n)).Nodup → f ∈ fs → findM f.n fs = some f := by
  intro fs
  induction fs with
  | nil => intro f _ h; cases h
  | cons g fs ih =>
    intro f hn h
    simp only [findM]
    rw [List.map_cons, List.nodup_cons] at hn
    rcases List.mem_cons.1 h with rfl | h
    · rw [if_pos rfl]
    · rw [if_neg (fun e => hn.1 (by rw [← e]; exact List.mem_map.2 ⟨f, h, rfl⟩)), ih hn.2 h]
theorem setM_mem {f : Fm} : ∀ {ms : List Fm} {g : Fm}, g ∈ setM f ms → g = f ∨ g ∈ ms := by
  intro ms
  induction ms with
  | nil => intro g h; left; simpa [setM] using h
  | cons m ms ih =>
    intro g h
    simp only [setM] at h
    split at h
    · rcases List.mem_cons.1 h with rfl | h
      · exact .inl rfl
      · exact .inr (by simp [h])
    · rcases List.mem_cons.1 h with rfl | h
      · exact .inr (by simp)
      · rcases ih h with e | e
        · exact .inl e
        · exact .inr (by simp [e])
theorem setM_nums {f : Fm} : ∀ {ms : List Fm}, (setM f ms).map (·.n) = if f.n ∈ ms.map (·.n) then ms.map (·.n) else ms.map (·.n) ++ [f.n] := by
  intro ms
  induction ms with
  | nil => rfl
  | cons m ms ih =>
    simp only [setM]
    split
    · rename_i e
      rw [if_pos (by simp [e])]; simp [e]
    · rename_i e
      rw [List.map_cons, ih, List.map_cons]
      by_cases h : f.n ∈ ms.map (·.n)
      · rw [if_pos h, if_pos (by simp only [List.mem_cons]; exact .inr h)]
      · rw [if_neg h, if_neg (by simp only [List.mem_cons, not_or]; exact ⟨e, h⟩)]; rfl
theorem setM_len (f : Fm) (ms : List Fm) : (setM f ms).length ≤ ms.length + 1 := by
  have := congrArg List.length (setM_nums (f := f) (ms := ms))
  rw [List.length_map] at this
  rw [this]
  split
  · rw [List.length_map]; omega
  · rw [List.length_append, List.length_map]; simp
theorem setM_nodup {f : Fm} {ms : List Fm} (h : (ms.map (·.n)).Nodup) : ((setM f ms).map (·.n)).Nodup := by
  rw [setM_nums]
  split
  · exact h
  · rename_i hn
    rw [List.nodup_append]
    exact ⟨h, by simp, fun a ha b hb e => hn (by rw [List.mem_singleton] at hb; rw [← hb, ← e]; exact ha)⟩
theorem findM_set {f : Fm} (k : Int) : ∀ {ms : List Fm}, findM k (setM f ms) = if k = f.n then some f else findM k ms := by
  intro ms
  induction ms with
  | nil => rfl
  | cons m ms ih =>
    simp only [setM]
    split
    · rename_i e
      simp only [findM]
      by_cases h : k = f.n
      · rw [if_pos h, if_pos h]
      · rw [if_neg h, if_neg h, if_neg (by rw [← e]; exact h)]
    · rename_i e
      simp only [findM]
      rw [ih]
      by_cases h : k = m.n
      · rw [if_pos h, if_pos h, if_neg (by rw [h]; exact fun e2 => e e2.symm)]
      · rw [if_neg h, if_neg h]
theorem delM_sub (k : Int) : ∀ (ms : List Fm), (DkB.delM k ms).Sublist ms := by
  intro ms
  induction ms with
  | nil => exact List.Sublist.refl _
  | cons m ms ih =>
    simp only [DkB.delM]
    split
    · exact List.sublist_cons_self _ _
    · exact ih.cons_cons _
theorem fileM_cases (n : Int) (fs : List Fm) : (∃ f ∈ fs, findM n fs = some f ∧ fileM n fs = f ∧ f.n = n) ∨ (findM n fs = none ∧ fileM n fs = ⟨n, [], [], []⟩) := by
  unfold fileM
  cases h : findM n fs with
  | none => exact .inr ⟨rfl, rfl⟩
  | some f => exact .inl ⟨f, (findM_mem h).1, rfl, rfl, (findM_mem h).2⟩
theorem touchL_rise {l : List Nat} (h : Rise l) (a b : Nat) : Rise (touchL l a b) := by
  unfold touchL
  split
  · generalize List.range' (a / 64) (sec b - a / 64) = r
    induction r generalizing l with
    | nil => exact h
    | cons i r ih => exact ih (insN_rise h i)
  · exact h
theorem touchL_mem {l : List Nat} {a b x : Nat} (h : x ∈ touchL l a b) : x ∈ l ∨ (a < b ∧ x < sec b) := by
  unfold touchL at h
  split at h
  · rename_i hab
    have : ∀ (r : List Nat) (l : List Nat), x ∈ r.foldl insN l → x ∈ l ∨ x ∈ r := by
      intro r
      induction r with
      | nil => intro l h; exact .inl h
      | cons i r ih =>
        intro l h
        rcases ih _ h with h | h
        · rcases (insN_mem _ _ _).1 h with h | h
          · exact .inl h
          · exact .inr (by simp [h])
        · exact .inr (by simp [h])
    rcases this _ _ h with h | h
    · exact .inl h
    · right
      rw [List.mem_range'_1] at h
      exact ⟨hab, by omega⟩
  · exact .inl h
theorem sec_mono {a b : Nat} (h : a ≤ b) : sec a ≤ sec b := by unfold sec; omega
/-- a file put in -/
theorem Calm.set {K L C : Nat} {D : Dm} (h : Calm K L C D) {f : Fm} {K' L' : Nat} (hK : K + 1 ≤ K') (hL : L ≤ L') (h1 : Rise f.loose) (h2 : ∀ i ∈ f.loose, i < sec f.now.length) (h3 : f.now.length ≤ L') (h4 : f.sure.length ≤ f.now.length) :
    Calm K' L' (C + 1) { D with ch := D.ch + 1, fs := setM f D.fs } := by
  refine ⟨h.plan, h.dead, setM_nodup h.nd, fun g hg => ?_, fun g hg => ?_, ?_, fun g hg => ?_, fun g hg => ?_, h.room, Nat.succ_le_succ h.ch⟩
  · rcases setM_mem hg with rfl | hg
    · exact h1
    · exact h.rise g hg
  · rcases setM_mem hg with rfl | hg
    · exact h2
    · exact h.lim g hg
  · have h5 := h.len
    have h6 := setM_len f D.fs
    show (setM f D.fs).length ≤ K'
    omega
  · rcases setM_mem hg with rfl | hg
    · exact h3
    · exact Nat.le_trans (h.now g hg) hL
  · rcases setM_mem hg with rfl | hg
    · exact h4
    · exact h.sure g hg
theorem Calm.file {K L C : Nat} {D : Dm} (h : Calm K L C D) (n : Int) : Rise (fileM n D.fs).loose ∧ (∀ i ∈ (fileM n D.fs).loose, i < sec (fileM n D.fs).now.length) ∧ (fileM n D.fs).now.length ≤ L ∧ (fileM n D.fs).sure.length ≤ (fileM n D.fs).now.length := by
  rcases fileM_cases n D.fs with ⟨f, hf, _, e, _⟩ | ⟨_, e⟩
  · rw [e]; exact ⟨h.rise f hf, h.lim f hf, h.now f hf, h.sure f hf⟩
  · rw [e]; exact ⟨List.Pairwise.nil, fun i hi => (by cases hi), Nat.zero_le _, Nat.le_refl _⟩
theorem Calm.append {K L C : Nat} {D : Dm} (h : Calm K L C D) (n : Int) (s : List UInt8) : Calm (K + 1) (L + s.length) (C + 1) (appendD D n s).1 := by
  have hf := h.file n
  have hm := h.mono (K' := K + 1) (L' := L + s.length) (C' := C + 1) (by omega) (by omega) (by omega)
  unfold appendD
  rw [h.strikes, if_neg (by rw [h.dead]; decide)]
  split
  · exact hm
  split
  · exact hm
  rw [if_neg Bool.false_ne_true]
  refine h.set (Nat.le_refl _) (by omega) (touchL_rise hf.1 _ _) (fun i hi => ?_) (by show (_ ++ s).length ≤ _; rw [List.length_append]; omega) (by have := hf.2.2.2; show (fileM n D.fs).sure.length ≤ (_ ++ s).length; rw [List.length_append]; omega)
  show i < sec (_ ++ s).length
  rw [List.length_append]
  rcases touchL_mem hi with hi | hi
  · exact Nat.lt_of_lt_of_le (hf.2.1 i hi) (sec_mono (by omega))
  · exact hi.2
theorem Calm.sync {K L C : Nat} {D : Dm} (h : Calm K L C D) (n : Int) : Calm (K + 1) L (C + 1) (syncD D n).1 := by
  have hf := h.file n
  have hm := h.mono (K' := K + 1) (L' := L) (C' := C + 1) (by omega) (by omega) (by omega)
  unfold syncD
  rw [h.strikes]
  split
  · exact hm
  rw [if_neg Bool.false_ne_true]
  exact h.set (Nat.le_refl _) (Nat.le_refl _) List.Pairwise.nil (fun i hi => (by cases hi)) hf.2.2.1 (Nat.le_refl _)
theorem Calm.cut {K L C : Nat} {D : Dm} (h : Calm K L C D) (n long : Int) : Calm (K + 1) L (C + 1) (cutD D n long).1 := by
  have hf := h.file n
  have hm := h.mono (K' := K + 1) (L' := L) (C' := C + 1) (by omega) (by omega) (by omega)
  unfold cutD
  rw [h.strikes]
  split
  · exact hm
  split
  · exact hm
  rw [if_neg Bool.false_ne_true]
  exact h.set (Nat.le_refl _) (Nat.le_refl _) List.Pairwise.nil (fun i hi => (by cases hi)) (by have := hf.2.2.1; show (List.take _ _).length ≤ _; rw [List.length_take]; omega) (Nat.le_refl _)
theorem Calm.write {K L C : Nat} {D : Dm} (h : Calm K L C D) (n at_ : Int) (s : List UInt8) : Calm (K + 1) L (C + 1) (writeD D n at_ s).1 := by
  have hf := h.file n
  have hm := h.mono (K' := K + 1) (L' := L) (C' := C + 1) (by omega) (by omega) (by omega)
  unfold writeD
  rw [h.strikes]
  split
  · exact hm
  split
  · exact hm
  rename_i hb
  rw [if_neg Bool.false_ne_true]
  have hl : ((fileM n D.fs).now.take at_.toNat ++ s ++ (fileM n D.fs).now.drop (at_.toNat + s.length)).length = (fileM n D.fs).now.length := by
    simp only [List.length_append, List.length_take, List.length_drop]; omega
  refine h.set (Nat.le_refl _) (Nat.le_refl _) (touchL_rise hf.1 _ _) (fun i hi => ?_) (by show List.length (_ ++ _) ≤ _; rw [hl]; exact hf.2.2.1) (by show _ ≤ List.length (_ ++ _); rw [hl]; exact hf.2.2.2)
  show i < sec (List.length (_ ++ _))
  rw [hl]
  rcases touchL_mem hi with hi | hi
  · exact hf.2.1 i hi
  · exact Nat.lt_of_lt_of_le hi.2 (sec_mono (by omega))
theorem Calm.remove {K L C : Nat} {D : Dm} (h : Calm K L C D) (n : Int) : Calm (K + 1) L (C + 1) (removeD D n).1 := by
  have hm := h.mono (K' := K + 1) (L' := L) (C' := C + 1) (by omega) (by omega) (by omega)
  unfold removeD
  rw [h.strikes]
  split
  · exact hm
  rw [if_neg Bool.false_ne_true]
  have hs := delM_sub n D.fs
  exact ⟨h.plan, h.dead, h.nd.sublist (hs.map _), fun f hf => h.rise f (hs.subset hf), fun f hf => h.lim f (hs.subset hf), Nat.le_trans (Nat.le_trans hs.length_le h.len) (by omega), fun f hf => h.now f (hs.subset hf), fun f hf => h.sure f (hs.subset hf), h.room, Nat.succ_le_succ h.ch⟩
/-- some first bytes of a file are sure -/
def SureL (fs : List Fm) (n : Int) (t : List UInt8) : Prop := ∃ f, findM n fs = some f ∧ t <+: f.now ∧ t <+: f.sure
theorem pre_at {t l : List UInt8} : t <+: l ↔ ∀ k, k < t.length → l[k]? = t[k]? := by
  constructor
  · rintro ⟨r, rfl⟩ k hk
    rw [List.getElem?_append_left hk]
  · intro h
    refine List.prefix_iff_getElem?.2 fun k hk => ?_
    rw [h k hk, List.getElem?_eq_getElem hk]
theorem pad_at {l : List UInt8} {n k : Nat} (h : k < l.length) : (pad l n)[k]? = l[k]? := by
  unfold pad; rw [List.getElem?_append_left h]
theorem outF_pre {t now out : List UInt8} {fr T : Nat} (h1 : t <+: now) (h2 : t <+: out) (hT : T ≤ now.length) : t <+: outF now out fr T := by
  unfold outF
  split
  · rename_i hlt
    have hl := pad_len out T
    have ho := h2.length_le
    rw [pre_at] at h1 h2 ⊢
    intro k hk
    have e1 : ((pad out T).take fr).length = fr := by rw [List.length_take]; omega
    have e2 : ((now.drop fr).take (T - fr)).length = T - fr := by rw [List.length_take, List.length_drop]; omega
    by_cases c1 : k < fr
    · rw [List.append_assoc, List.getElem?_append_left (by omega), List.getElem?_take_of_lt c1, pad_at (by omega)]; exact h2 k hk
    · by_cases c2 : k < T
      · rw [List.append_assoc, List.getElem?_append_right (by omega), List.getElem?_append_left (by omega), e1, List.getElem?_take_of_lt (by omega), List.getElem?_drop, show fr + (k - fr) = k by omega]; exact h1 k hk
      · rw [List.getElem?_append_right (by rw [List.length_append]; omega), List.length_append, e1, e2, List.getElem?_drop, show T + (k - (fr + (T - fr))) = k by omega, pad_at (by omega)]; exact h2 k hk
  · exact h2
theorem lostF_pre {t now : List UInt8} {mask : BitVec 64} : ∀ (loose : List Nat) (sure : List UInt8) (bit : Nat) (torn : Int), t <+: now → t <+: sure → (∀ i ∈ loose, i < sec now.length) → t <+: (lostF now sure loose mask bit torn).1 := by
  intro loose
  induction loose with
  | nil => intro sure bit torn _ h2 _; exact h2
  | cons i l ih =>
    intro sure bit torn h1 h2 h3
    show t <+: (lostF now (outF now sure (i * 64) (toF now mask bit torn i)) l mask (bit + 1) (if kept mask bit = true then torn else 0)).1
    exact ih _ _ _ h1 (outF_pre h1 h2 (toF_le (h3 i (by simp))).1) fun j hj => h3 j (by simp [hj])
theorem lost_ok {f : Fm} (h : f.Ok) (mask : BitVec 64) (bit : Nat) (torn : Int) : (lostF f.now f.sure f.loose mask bit torn).1.length ≤ f.now.length := (lostF_len f.now mask f.loose (f.sure, bit, torn) h.2.2.2 h.2.1).1
/-- what a loss of power leaves: files of the same numbers, what was sure, nothing loose -/
structure Left (ks : List Int) (fs0 : List Fm) (fs : List Fm) : Prop where
  nums : fs.map (·.n) = fs0.map (·.n)
  ok : ∀ f ∈ fs, f.Ok
  le : ∀ n f, findM n fs = some f → ∃ g, findM n fs0 = some g ∧ f.now.length ≤ g.now.length
  sure : ∀ n t, SureL fs0 n t → SureL fs n t
  none : ∀ n, n ∈ ks → ∀ f, findM n fs = some f → f.loose = []
theorem crash_left (mask : BitVec 64) (fs0 : List Fm) (ok0 : ∀ f ∈ fs0, f.Ok) : ∀ (ks done : List Int) (s : List Fm × Nat × Int), Left done fs0 s.1 → Left (done ++ ks) fs0 (ks.foldl (crashStep mask) s).1 := by
  intro ks
  induction ks with
  | nil => intro done s h; rw [List.append_nil]; exact h
  | cons k ks ih =>
    intro done s h
    rw [List.foldl_cons, show done ++ k :: ks = (done ++ [k]) ++ ks by simp]
    apply ih
    unfold crashStep
    cases hk : findM k s.1 with
    | none =>
      refine ⟨h.nums, h.ok, h.le, h.sure, fun n hn f hf => ?_⟩
      rcases List.mem_append.1 hn with hn | hn
      · exact h.none n hn f hf
      · rw [List.mem_singleton.1 hn, hk] at hf; cases hf
    | some f =>
      obtain ⟨hfm, hfn⟩ := findM_mem hk
      have hfo := h.ok f hfm
      have hl := lost_ok hfo mask s.2.1 s.2.2
      refine ⟨?_, ?_, ?_, ?_, ?_⟩
      · show (setM _ s.1).map (·.n) = _
        rw [setM_nums, if_pos (List.mem_map.2 ⟨f, hfm, rfl⟩)]; exact h.nums
      · refine setM_ok h.ok ⟨List.Pairwise.nil, fun i hi => (by cases hi), ?_, Nat.le_refl _⟩
        have := hfo.2.2.1
        show (lostF f.now f.sure f.loose mask s.2.1 s.2.2).1.length ≤ _
        omega
      · intro n g hg
        rw [show (setM _ s.1, _).1 = setM _ s.1 from rfl, findM_set] at hg
        split at hg
        · rename_i e
          cases hg
          obtain ⟨g0, hg0, hle⟩ := h.le k f hk
          exact ⟨g0, by rw [e]; show findM f.n fs0 = _; rw [hfn]; exact hg0, Nat.le_trans hl hle⟩
        · exact h.le n g hg
      · intro n t hs
        obtain ⟨g, hg, h1, h2⟩ := h.sure n t hs
        show SureL (setM _ s.1) n t
        unfold SureL
        rw [findM_set]
        by_cases e : n = f.n
        · rw [show n = k from e.trans hfn, hk] at hg
          cases hg
          have hp := lostF_pre (mask := mask) f.loose f.sure s.2.1 s.2.2 h1 h2 hfo.2.1
          exact ⟨_, if_pos e, hp, hp⟩
        · exact ⟨g, by rw [if_neg e]; exact hg, h1, h2⟩
      · intro n hn g hg
        rw [show (setM _ s.1, _).1 = setM _ s.1 from rfl, findM_set] at hg
        split at hg
        · cases hg; rfl
        · rename_i e
          rcases List.mem_append.1 hn with hn | hn
          · exact h.none n hn g hg
          · exact absurd (show n = f.n by rw [hfn]; exact List.mem_singleton.1 hn) e
theorem crash_calm {K L C : Nat} {D : Dm} (h : Calm K L C D) (hL : L ≤ 68719476736) (mask : BitVec 64) (torn : Int) :
    Calm K L C { crashD D mask torn with dead := false } ∧ (crashD D mask torn).dead = true ∧ (crashD D mask torn).fs.map (·.n) = D.fs.map (·.n) ∧ (∀ n t, SureL D.fs n t → SureL (crashD D mask torn).fs n t) ∧ (∀ f ∈ (crashD D mask torn).fs, f.loose = []) := by
  unfold crashD
  rw [if_neg (by rw [h.dead]; decide)]
  have ok0 : ∀ f ∈ D.fs, f.Ok := fun f hf => ⟨h.rise f hf, h.lim f hf, Nat.le_trans (h.now f hf) hL, h.sure f hf⟩
  have hl := crash_left mask D.fs ok0 (sortI (D.fs.map (·.n))) [] (D.fs, 0, torn) ⟨rfl, ok0, fun n f hf => ⟨f, hf, Nat.le_refl _⟩, fun n t hs => hs, fun n hn => (by cases hn)⟩
  have hnd : ((crashFs mask torn D.fs).map (·.n)).Nodup := by rw [show (crashFs mask torn D.fs).map (·.n) = _ from hl.nums]; exact h.nd
  have hloose : ∀ f ∈ crashFs mask torn D.fs, f.loose = [] := fun f hf => by
    refine hl.none f.n ?_ f (findM_of_mem hnd hf)
    rw [List.nil_append]
    refine (List.mergeSort_perm _ _).mem_iff.2 ?_
    rw [← hl.nums]
    exact List.mem_map.2 ⟨f, hf, rfl⟩
  refine ⟨⟨h.plan, rfl, hnd, fun f hf => (hl.ok f hf).1, fun f hf => (hl.ok f hf).2.1, ?_, fun f hf => ?_, fun f hf => (hl.ok f hf).2.2.2, h.room, h.ch⟩, rfl, hl.nums, hl.sure, hloose⟩
  · have := congrArg List.length hl.nums
    rw [List.length_map, List.length_map] at this
    show (crashFs mask torn D.fs).length ≤ K
    have h5 := h.len
    unfold crashFs; omega
  · obtain ⟨g, hg, hle⟩ := hl.le f.n f (findM_of_mem hnd hf)
    exact Nat.le_trans hle (h.now g (findM_mem hg).1)
theorem looseM_zero {fs : List Fm} (h : ∀ f ∈ fs, f.loose = []) : looseM fs = 0 := by
  unfold looseM
  induction fs with
  | nil => rfl
  | cons f fs ih => rw [List.map_cons, List.sum_cons, ih fun g hg => h g (by simp [hg]), h f (by simp)]; rfl
theorem sure_append {K L C : Nat} {D : Dm} (h : Calm K L C D) {m n : Int} {s t : List UInt8} (hs : SureL D.fs n t) : SureL (appendD D m s).1.fs n t := by
  unfold appendD
  rw [h.strikes, if_neg (by rw [h.dead]; decide)]
  split
  · exact hs
  split
  · exact hs
  rw [if_neg Bool.false_ne_true]
  show SureL (setM _ D.fs) n t
  unfold SureL
  rw [findM_set]
  by_cases e : n = m
  · obtain ⟨f, hf, h1, h2⟩ := hs
    have hfile : fileM m D.fs = f := by unfold fileM; rw [← e, hf]; rfl
    rw [hfile]
    exact ⟨_, if_pos e, h1.trans (List.prefix_append _ _), h2⟩
  · obtain ⟨f, hf, h1, h2⟩ := hs
    exact ⟨f, by rw [if_neg e]; exact hf, h1, h2⟩
end DkN
end Go.Proofs.Ytgcebieihmlaoaa

/-
  The bytes of a slice as a text without a copy: the slice is let go.
-/
namespace Go.SL
open Go.RowKit
set_option linter.unusedVariables false
set_option linter.unusedSimpArgs false
section
variable {P : Program} {ρ : Sl} {S : World → Prop} {ty t t2 et : TypeId} {x y : Operand} {A : Option Addr} {n c : Nat}
theorem usD (hx : ev ρ x = some (.slice A n c)) (hz : A = none ∨ c ≠ 0) : Yx P (.call { callee := .builtin .unsafeSliceData, args := #[x], argTypes := #[t] }) ty ρ S (.pointer A) := .of (fun _ h => by cases h) fun f w _ _ _ _ he _ => by
  have h : (Builtin.unsafeSliceData_ #[t] ty #[.slice A n c]).run P w = .ok (.pointer A) w := by
    cases A with
    | none => exact Lib.run_unsafeSliceData_nil _ _ _ _ _
    | some a => exact Lib.run_unsafeSliceData_row _ _ _ _ _ _ (hz.resolve_left (fun h => by cases h))
  simp [execOp, resolve, he _ _ hx, invoke, builtin, h]
/-- A block of one's own turns, and is let go. -/
theorem St.letgo {N0 : Nat} {B : Frag} {b : Nat} {o o' : Obj} {R : HP} {w w' : World} (h : St N0 B (SL.blk b o * R) w) (hb : w'.heap[b]? = some o') (hs : ∀ k, k ≠ b → w'.heap[k]? = w.heap[k]?)
    (hz' : w.heap.size ≤ w'.heap.size) : St N0 B R w' := (h.put hb hs hz').drop
variable {e : Env} {ds : List Deferred} {B : Frag} {H R : HP} {l : List UInt8}
theorem usS {pt it : TypeId} (hpt : e.P.underlying pt = some (.pointer et)) (hc : e.P.cellsOf et = 1) (hx : ev ρ x = some (.pointer A)) (hy : ev ρ y = some (i64 (n : Int))) [hp : PickS H A et 1 n c (u8s l) R] (hl : l.length = n) (hn : n ≤ 9223372036854775807) :
    Ox e ds (.call { callee := .builtin .unsafeString, args := #[x, y], argTypes := #[pt, it] }) ty ρ B H (fun v B' H' => v = str l ∧ B' = B ∧ H' = R) :=
  .of_run (fun _ h => by cases h) fun f w dst pos after guard he s => by
    subst hl
    have s0 := s.of_eq hp.eq
    by_cases h0 : l = []
    · subst h0
      refine ⟨_, w, B, R, ?_, ⟨rfl, rfl, rfl⟩, Frag.le_refl _, Below.refl _ _, s0.drop⟩
      have hr := Lib.run_unsafeString_none (P := e.P) (w := w) pt it ty A
      simp [execOp, resolve, he _ _ hx, he _ _ hy, invoke, builtin]
      rw [hr]; rfl
    · rcases s0.cases_sbuf with ⟨_, h2, _⟩ | ⟨g, sp, e1, e2, e3, e4, s'⟩
      · exact absurd (List.length_eq_zero_iff.1 h2) h0
      · subst e1
        obtain ⟨hg, hB, hN⟩ := s'.blk
        have hcs : (u8s l ++ sp).length = c := by rw [e4, Nat.mul_one]
        have hr := Lib.run_unsafeString_row (P := e.P) w pt it ty et hpt hc g c (by simp [World.shape?, hg, hcs]) l h0 (by omega) hn (fun j x hx => by
          have h1 : w.cell? ⟨g, j, none⟩ = some (.int .u8 x.toNat) := cell_of_heap hg (by
            rw [List.getElem?_append_left (by rw [u8s_len]; exact (List.getElem?_eq_some_iff.1 hx).1)]
            simp [u8s, hx])
          rw [add_mk, Nat.zero_add]; exact h1)
        refine ⟨_, w.freeze ⟨g, 0, none⟩ l.length, B, R, ?_, ⟨rfl, rfl, rfl⟩, Frag.le_refl _, Lib.below_freeze (p := ⟨g, 0, none⟩) (Below.refl _ _) hN _, ?_⟩
        · simp [execOp, resolve, he _ _ hx, he _ _ hy, invoke, builtin]
          rw [hr]; rfl
        · have hlz : ¬ l.length = 0 := fun h => h0 (List.length_eq_zero_iff.1 h)
          unfold World.freeze
          rw [if_neg hlz]
          refine s'.letgo (o' := .cells (u8s l ++ sp).toArray et (0, l.length)) ?_ (fun k hk => ?_) (by simp)
          · rw [Array.getElem?_modify, if_pos rfl, hg]; simp
          · rw [Array.getElem?_modify, if_neg (fun h => hk h.symm)]
end
theorem Xx.retC {P : Program} {B : Frag} {H R : HP} {ρ : Sl} {fn : Func} {N0 nt size : Nat} {w0 : World} {r : Option Nat} {B0 : Frag} {H' R1 : HP} {Φ : Value → Frag → HP → Prop} {t u : Tmp} {x : Value} {ty : TypeId} {d : TypeDesc} {vs : List Value} {b : Nat} {et : TypeId} {fz : Nat × Nat}
    (hr : fn.results = #[.cell t ty, .tmp u]) (ht : P.underlying ty = some d) (hd : aggB d = true) (hi : (P.info? ty).map (·.size) = some size) (hv : lk ρ t = some (.pointer (some ⟨b, 0, none⟩))) [hp : PickB H b (.cells vs.toArray et fz) R1] (hl : vs.length = size) (hx : lk ρ u = some x)
    (hΦ : Φ (.tuple #[.agg vs.toArray, x]) B H') (hB : B0.le B) (hH : R1 = H' * R) : Xx ⟨P, r, N0, w0, nt⟩ [] (bodyPost P fn (Fin N0 w0 R B0 Φ) .ret) ρ B H := fun a w f bl s => by
  have s' : St N0 B (blk b (.cells vs.toArray et fz) * R1) w := hp.eq ▸ s
  have hl := run_loadVar_row (P := P) w b et ty vs.toArray fz d s'.blk.1 ht (by cases d <;> simp_all [aggB]) (by rw [hi]; simp [hl])
  have h1 := f.get t _ hv
  have h2 := f.get u _ hx
  refine ⟨f.defers, .tuple #[.agg vs.toArray, x], ?_, _, B, H', rfl, hΦ, hB, bl, hH ▸ s'.drop⟩
  simp [results, hr, h1, h2, Sem.run_bind, asAddr, hl]
theorem Xx.rBc3 {P : Program} {B B0 : Frag} {H R : HP} {ρ : Sl} {fn : Func} {N0 nt size : Nat} {w0 : World} {r : Option Nat} {Φ : Value → Frag → Prop} {t u u2 : Tmp} {ty : TypeId} {x x2 : Value} {d : TypeDesc} {vs : List Value} {b : Nat} {et : TypeId}
    (hr : fn.results = #[.cell t ty, .tmp u, .tmp u2]) (ht : P.underlying ty = some d) (hd : aggB d = true) (hi : (P.info? ty).map (·.size) = some size) (hv : lk ρ t = some (.pointer (some ⟨b, 0, none⟩))) [hp : PickB H b (.cells vs.toArray et (0, 0)) R] (hl : vs.length = size) (hx : lk ρ u = some x) (hx2 : lk ρ u2 = some x2)
    (hΦ : Φ (.tuple #[.agg vs.toArray, x, x2]) B) (hB : B0.le B) : Xx ⟨P, r, N0, w0, nt⟩ [] (bodyPost P fn (FinB N0 w0 R B0 Φ) .ret) ρ B H := fun a w f bl s => by
  have s' : St N0 B (blk b (.cells vs.toArray et (0, 0)) * R) w := hp.eq ▸ s
  have hl := run_loadVar_row (P := P) w b et ty vs.toArray (0, 0) d s'.blk.1 ht (by cases d <;> simp_all [aggB]) (by rw [hi]; simp [hl])
  have h1 := f.get t _ hv
  have h2 := f.get u _ hx
  have h3 := f.get u2 _ hx2
  refine ⟨f.defers, .tuple #[.agg vs.toArray, x, x2], ?_, _, B, rfl, hΦ, hB, bl, s'.drop⟩
  simp [results, hr, h1, h2, h3, Sem.run_bind, asAddr, hl]
theorem Xx.rBs {P : Program} {B B0 : Frag} {H R : HP} {ρ : Sl} {fn : Func} {N0 nt : Nat} {w0 : World} {r : Option Nat} {Φ : Value → Frag → Prop} {t : Tmp} {ty : TypeId} {v : Value} {b : Nat} {et : TypeId} {d : TypeDesc} (hr : fn.results = #[.cell t ty]) (ht : P.underlying ty = some d) (hd : aggB d = false) (hv : lk ρ t = some (.pointer (some ⟨b, 0, none⟩))) [hp : PickB H b (.cells [v].toArray et (0, 0)) R]
    (hΦ : Φ v B) (hB : B0.le B) : Xx ⟨P, r, N0, w0, nt⟩ [] (bodyPost P fn (FinB N0 w0 R B0 Φ) .ret) ρ B H := fun a w f bl s =>
  ⟨f.defers, v, resC1 hr ht hd hv a w f s, v, B, rfl, hΦ, hB, bl, (hp.eq ▸ s : St N0 B (blk b _ * R) w).drop⟩
theorem Xx.dropT {e : Env} {ds : List Deferred} {K : Act → World → Prop} {ρ : Sl} {B : Frag} {H R : HP} (A : Option Addr) {et : TypeId} {size n c : Nat} {xs : List Value} [hp : PickS H A et size n c xs R] (h : Xx e ds K ρ B R) : Xx e ds K ρ B H := Xx.perm (Xx.drop h) hp.eq
theorem pickTwo {H p q R1 R2 : HP} [h1 : Pick H p R1] [h2 : Pick R1 q R2] : H = (p * q) * R2 := by rw [h1.eq, h2.eq, star_assoc]
end Go.SL

/-
  The builder of texts; a journal: what it is in memory, its small functions.
-/
namespace Go.Proofs.Ytgcebieihmlaoaa
open Go.SL Go.RowKit
set_option linter.unusedVariables false
set_option linter.unusedSimpArgs false
set_option maxRecDepth 100000
open DkA DkB DkC DkD DkE DkF DkG DkH DkI DkJ DkK DkL DkM DkN Fr1
namespace Jn1
theorem sz3 : (Try.prog.info? 3).map (·.size) = some 1 := by kernel_rfl
theorem sz4 : (Try.prog.info? 4).map (·.size) = some 1 := by kernel_rfl
theorem sz9 : (Try.prog.info? 9).map (·.size) = some 1 := by kernel_rfl
theorem sz42 : (Try.prog.info? 42).map (·.size) = some 1 := by kernel_rfl
theorem sz74 : (Try.prog.info? 74).map (·.size) = some 4 := by kernel_rfl
theorem sz80 : (Try.prog.info? 80).map (·.size) = some 1 := by kernel_rfl
theorem sz115 : (Try.prog.info? 115).map (·.size) = some 5 := by kernel_rfl
theorem sz122 : (Try.prog.info? 122).map (·.size) = some 2 := by kernel_rfl
theorem ti5 : TI Try.prog 5 [.int .u8 0] 1 1 := TI.of (by kernel_rfl) rfl rfl
theorem ti42 : TI Try.prog 42 [.int .i64 0] 1 8 := TI.of (by kernel_rfl) rfl rfl
theorem ti74 : TI Try.prog 74 [.int .i64 0, .int .i64 0, str [], .bool false] 4 40 := TI.of (by kernel_rfl) rfl rfl
theorem ti115 : TI Try.prog 115 [.pointer none, .int .i64 0, .int .i64 0, .int .i64 0, .slice none 0 0] 5 56 := TI.of (by kernel_rfl) rfl rfl
theorem ti122 : TI Try.prog 122 [.pointer none, .slice none 0 0] 2 32 := TI.of (by kernel_rfl) rfl rfl
theorem fo115_4 : FO Try.prog 115 4 4 1 false := FO.of Try.underlying115 rfl rfl (by kernel_rfl) Try.underlying113 rfl rfl
theorem fo122_1 : FO Try.prog 122 1 1 1 false := FO.of Try.underlying122 rfl rfl (by kernel_rfl) Try.underlying80 rfl rfl
theorem pl74 : PL Try.prog 74 [(0, 1), (1, 1), (2, 1), (3, 1)] := PL.of Try.underlying74 (by kernel_rfl)

/-- A builder: its address (once it was used), its bytes. -/
def bcell (b : Nat) (u : Bool) (A : Option Addr) (n c : Nat) : List Value := [.pointer (if u = true then some ⟨b, 0, none⟩ else none), .slice A n c]
theorem copyCheck_ct (b : Nat) (u : Bool) (A : Option Addr) (n c : Nat) (B : Frag) : CtC Try.prog 83 [.pointer (some ⟨b, 0, none⟩)] B (row b 122 (bcell b u A n c)) (.tuple #[]) (row b 122 (bcell b true A n c)) :=
  ⟨Go.SL.enters_of Try.func83 rfl (by kernel_rfl), fun N0 w R s => by
    obtain ⟨hg, hB, hN⟩ := s.blk
    cases u with
    | true =>
      refine (Any.Builder_copyCheck_used { Shelf.lays105 with } Shelf.Builder_Extra_105.toX72 b w (cell_of_heap hg rfl)).mono ?_
      rintro e w' ⟨rfl, rfl⟩
      exact ⟨_, B, _, rfl, ⟨rfl, rfl, rfl⟩, Frag.le_refl _, Below.refl _ _, s⟩
    | false =>
      refine (Any.Builder_copyCheck_fresh { Shelf.lays105 with } Shelf.Builder_Extra_105.toX72 b w (cell_of_heap hg rfl) (by simp [World.shape?, hg, bcell]; rfl) (by simp [World.frozen?, hg])).mono ?_
      rintro e w' ⟨rfl, rfl⟩
      refine ⟨_, B, _, rfl, ⟨rfl, rfl, rfl⟩, Frag.le_refl _, (Below.refl _ _).setCell (p := ⟨b, 0, none⟩) hN _, s.put ?_ (fun k hk => ?_) (by simp [World.setCell])⟩
      · simp [World.setCell, Array.getElem?_modify, hg, bcell]
      · simp only [World.setCell, Array.getElem?_modify]
        rw [if_neg (fun h => hk h.symm)]⟩

set_option maxHeartbeats 1000000 in
theorem BLen_ct (b : Nat) (u : Bool) (A : Option Addr) (n c : Nat) (B : Frag) : CtC Try.prog 60 [.pointer (some ⟨b, 0, none⟩)] B (row b 122 (bcell b u A n c)) (i64 (n : Int)) (row b 122 (bcell b u A n c)) := by
  refine Ct.of_body Try.func60 rfl (nt := 8) rfl (by kernel_rfl) rfl ?_
  intro N0 w0 R
  refine Cx.seq (fun K1 k1 => ?_)
  refine Cx.region ?_
  refine Lx.y (asg rfl) rfl ?_
  refine Lx.nil ?_
  refine Xx.tn (k1 _ _ _ _ ?_)
  refine Cx.seq (fun K2 k2 => ?_)
  refine Cx.region ?_
  refine Lx.y (mv rfl) rfl ?_
  refine Lx.y (nilc rfl) rfl ?_
  refine Lx.y (fa' fo122_1 rfl) rfl ?_
  refine Lx.y (ld Try.underlying80 rfl rfl rfl) rfl ?_
  refine Lx.y (lenV (ty' := 0) Try.underlying80 rfl) rfl ?_
  refine Lx.y (asg rfl) rfl ?_
  refine Lx.nil ?_
  refine Xx.tn (k2 _ _ _ _ ?_)
  refine Cx.ret ?_
  exact Xx.ret1 rfl rfl ⟨rfl, rfl, rfl⟩ (Frag.le_refl _) rfl

set_option maxHeartbeats 1000000 in
theorem BWrite_ct (b : Nat) (u : Bool) (A : Option Addr) (l s : List UInt8) (c : Nat) (B : Frag) (hl : l.length + s.length ≤ 140737488355328) : Ct Try.prog 61 [.pointer (some ⟨b, 0, none⟩), str s] B (row b 122 (bcell b u A l.length c) * sbuf 5 1 A l.length c (u8s l)) (fun v B' H' => B' = B ∧ v = .tuple #[i64 (s.length : Int), .nilIface] ∧ ∃ A' c', (0 < (l ++ s).length → c' ≠ 0) ∧ H' = row b 122 (bcell b true A' (l ++ s).length c') * sbuf 5 1 A' (l ++ s).length c' (u8s (l ++ s))) := by
  refine Ct.of_body Try.func61 rfl (nt := 19) rfl (by kernel_rfl) rfl ?_
  intro N0 w0 R
  simp only [star_assoc]
  refine Cx.seq (fun K1 k1 => ?_)
  refine Cx.region ?_
  refine Lx.y (asg rfl) rfl ?_
  refine Lx.y (asg rfl) rfl ?_
  refine Lx.nil ?_
  refine Xx.tn (k1 _ _ _ _ ?_)
  refine Cx.seq (fun K2 k2 => ?_)
  refine Cx.region ?_
  refine Lx.y (mv rfl) rfl ?_
  refine Lx.co rfl rfl rfl (copyCheck_ct b u A l.length c _) (rfl) rfl ?_
  refine Lx.nil ?_
  refine Xx.tn (k2 _ _ _ _ ?_)
  refine Cx.seq (fun K3 k3 => ?_)
  refine Cx.region ?_
  refine Lx.y (mv rfl) rfl ?_
  refine Lx.y (mv rfl) rfl ?_
  refine Lx.y (nilc rfl) rfl ?_
  refine Lx.y (fa' fo122_1 rfl) rfl ?_
  refine Lx.y (ld Try.underlying80 rfl rfl rfl) rfl ?_
  refine Lx.y (mv rfl) rfl ?_
  refine Lx.o (appT (et := 5) (A := A) (l.length + s.length) (u8s (l ++ s)) Try.underlying80 Try.underlying9 ti5 rfl rfl (by omega) (by omega) rfl (by rw [u8s_app])) rfl (fun v B' H' hΦ hB => ?_)
  obtain ⟨A2, c2, rfl, hA2, hc2, hBB, rfl⟩ := hΦ
  have hBB2 := hBB.symm
  subst hBB2
  clear hB
  refine Lx.y (nilc rfl) rfl ?_
  refine Lx.y (fa' fo122_1 rfl) rfl ?_
  refine Lx.st (stO Try.underlying80 sz80 rfl rfl rfl (by show 1 < 2; omega) rfl) ?_
  refine Lx.nil ?_
  refine Xx.tn (k3 _ _ _ _ ?_)
  refine Cx.seq (fun K4 k4 => ?_)
  refine Cx.region ?_
  refine Lx.y (mv rfl) rfl ?_
  refine Lx.y (lenS Try.underlying9 rfl) rfl ?_
  refine Lx.y (asg rfl) rfl ?_
  refine Lx.y (asg rfl) rfl ?_
  refine Lx.nil ?_
  refine Xx.tn (k4 _ _ _ _ ?_)
  refine Cx.ret ?_
  exact Xx.ret2 rfl rfl rfl ⟨rfl, rfl, A2, c2, by rw [List.length_append]; intro h; omega, rfl⟩ (Frag.le_refl _) (by unfold bcell; rw [List.length_append]; ac_rfl)

set_option maxHeartbeats 1000000 in
theorem BString_ct (b : Nat) (u : Bool) (A : Option Addr) (l : List UInt8) (c : Nat) (B : Frag) (hz : A = none ∨ c ≠ 0) (hl : l.length ≤ 140737488355328) : CtC Try.prog 62 [.pointer (some ⟨b, 0, none⟩)] B (row b 122 (bcell b u A l.length c) * sbuf 5 1 A l.length c (u8s l)) (str l) (row b 122 (bcell b u A l.length c)) := by
  refine Ct.of_body Try.func62 rfl (nt := 14) rfl (by kernel_rfl) rfl ?_
  intro N0 w0 R
  simp only [star_assoc]
  refine Cx.seq (fun K1 k1 => ?_)
  refine Cx.region ?_
  refine Lx.y (asg rfl) rfl ?_
  refine Lx.nil ?_
  refine Xx.tn (k1 _ _ _ _ ?_)
  refine Cx.seq (fun K2 k2 => ?_)
  refine Cx.drawn (by kernel_rfl) ?_
  refine Dx.p (i := 0) rfl (by kernel_rfl) (mv rfl) rfl ?_
  refine Dx.p (i := 1) rfl (by kernel_rfl) (nilc rfl) rfl ?_
  refine Dx.p (i := 2) rfl (by kernel_rfl) (fa' fo122_1 rfl) rfl ?_
  refine Dx.r (i := 3) rfl (by kernel_rfl) (ld Try.underlying80 rfl rfl rfl) rfl ?_
  refine Dx.p (i := 4) rfl (by kernel_rfl) (usD rfl hz) rfl ?_
  refine Dx.p (i := 5) rfl (by kernel_rfl) (mv rfl) rfl ?_
  refine Dx.p (i := 6) rfl (by kernel_rfl) (nilc rfl) rfl ?_
  refine Dx.p (i := 7) rfl (by kernel_rfl) (fa' fo122_1 rfl) rfl ?_
  refine Dx.r (i := 8) rfl (by kernel_rfl) (ld Try.underlying80 rfl rfl rfl) rfl ?_
  refine Dx.p (i := 9) rfl (by kernel_rfl) (lenV (ty' := 0) Try.underlying80 rfl) rfl ?_
  refine Dx.one (i := 10) (by kernel_rfl) ?_
  refine Dstep.o (i := 10) rfl (usS (et := 5) (A := A) (n := l.length) (c := c) Try.underlying155 (by kernel_rfl) rfl rfl rfl (by omega)) rfl (fun v B' H' hΦ hB => ?_)
  obtain ⟨rfl, hBB, rfl⟩ := hΦ
  have hBB2 := hBB.symm
  subst hBB2
  refine ⟨JOk.yes (JOk.yes (JOk.top) (ld Try.underlying80 rfl rfl rfl)) (ld Try.underlying80 rfl rfl rfl), ?_⟩
  refine Dx.p (i := 11) rfl (by kernel_rfl) (asg rfl) rfl ?_
  refine Dx.done (by kernel_rfl) ?_
  refine Xx.tn (k2 _ _ _ _ ?_)
  refine Cx.ret ?_
  exact Xx.ret1 rfl rfl ⟨rfl, rfl, rfl⟩ (Frag.le_refl _) rfl

/-- A record: its file, its place there, its body, whether it is as it was. -/
structure Rc where
  file : Nat
  at_ : Nat
  body : List UInt8
  good : Bool
def rcc (r : Rc) : List Value := [i64 (r.file : Int), i64 (r.at_ : Int), str r.body, .bool r.good]
theorem rcc_len (r : Rc) : (rcc r).length = 4 := rfl
theorem rcc_all (l : List Rc) : (l.flatMap rcc).all (·.oneCell') = true := by
  rw [List.all_eq_true]; intro v hv
  obtain ⟨x, _, hx⟩ := List.mem_flatMap.1 hv
  exact List.all_eq_true.1 (show (rcc x).all (·.oneCell') = true from rfl) v hx
/-- A journal. -/
structure Jn where
  db : Nat
  most : Int
  last : Nat
  long : Nat
  l : List Rc
  Al : Option Addr
  cl : Nat
def jcs (j : Jn) : List Value := [.pointer (some ⟨j.db, 0, none⟩), i64 j.most, i64 (j.last : Int), i64 (j.long : Int), .slice j.Al j.l.length j.cl]
def jnH (jb : Nat) (j : Jn) : HP := row jb 115 (jcs j) * sbuf 74 4 j.Al j.l.length j.cl (j.l.flatMap rcc)
def atV (l : List Rc) (i : Int) : Value := if h : 0 ≤ i ∧ i < l.length then .tuple #[.agg (rcc (l[i.toNat]'(by omega))).toArray, .bool true] else .tuple #[.agg ([i64 0, i64 0, str [], .bool false] : List Value).toArray, .bool false]

set_option maxHeartbeats 1000000 in
theorem JLen_ct (jb : Nat) (j : Jn) (B : Frag) : CtC Try.prog 36 [.pointer (some ⟨jb, 0, none⟩)] B (jnH jb j) (i64 (j.l.length : Int)) (jnH jb j) := by
  refine Ct.of_body Try.func36 rfl (nt := 10) rfl (by kernel_rfl) rfl ?_
  intro N0 w0 R
  unfold jnH
  simp only [star_assoc]
  refine Cx.seq (fun K1 k1 => ?_)
  refine Cx.region ?_
  refine Lx.y (asg rfl) rfl ?_
  refine Lx.nil ?_
  refine Xx.tn (k1 _ _ _ _ ?_)
  refine Cx.seq (fun K2 k2 => ?_)
  refine Cx.seq (fun K3 k3 => ?_)
  refine Cx.region ?_
  refine Lx.y (mv rfl) rfl ?_
  refine Lx.y (Yx.ff (eqNilP Try.underlying70 rfl rfl) rfl) rfl ?_
  refine Lx.nil ?_
  refine Xx.tn (k3 _ _ _ _ ?_)
  refine Cx.condF rfl ?_
  refine Cx.skip ?_
  refine Xx.tn (k2 _ _ _ _ ?_)
  refine Cx.seq (fun K4 k4 => ?_)
  refine Cx.region ?_
  refine Lx.y (mv rfl) rfl ?_
  refine Lx.y (nilc rfl) rfl ?_
  refine Lx.y (fa' fo115_4 rfl) rfl ?_
  refine Lx.y (ld Try.underlying113 rfl rfl rfl) rfl ?_
  refine Lx.y (lenV (ty' := 0) Try.underlying113 rfl) rfl ?_
  refine Lx.y (asg rfl) rfl ?_
  refine Lx.nil ?_
  refine Xx.tn (k4 _ _ _ _ ?_)
  refine Cx.ret ?_
  exact Xx.ret1 rfl rfl ⟨rfl, rfl, rfl⟩ (Frag.le_refl _) (by ac_rfl)

set_option maxHeartbeats 1000000 in
theorem JLen_nil (B : Frag) : CtP Try.prog 36 [.pointer none] B (i64 0) := by
  refine CtB.of_body Try.func36 rfl (nt := 10) rfl (by kernel_rfl) rfl ?_
  intro N0 w0 R
  refine Cx.seq (fun K1 k1 => ?_)
  refine Cx.region ?_
  refine Lx.y (asg rfl) rfl ?_
  refine Lx.nil ?_
  refine Xx.tn (k1 _ _ _ _ ?_)
  refine Cx.seq (fun K2 k2 => ?_)
  refine Cx.seq (fun K3 k3 => ?_)
  refine Cx.region ?_
  refine Lx.y (mv rfl) rfl ?_
  refine Lx.y (Yx.tt (eqNilP Try.underlying70 rfl rfl) rfl) rfl ?_
  refine Lx.nil ?_
  refine Xx.tn (k3 _ _ _ _ ?_)
  refine Cx.condT rfl ?_
  refine Cx.seq (fun K4 k4 => ?_)
  refine Cx.region ?_
  refine Lx.y (asg rfl) rfl ?_
  refine Lx.nil ?_
  refine Xx.tn (k4 _ _ _ _ ?_)
  refine Cx.ret ?_
  refine Xx.tr ?_
  exact Xx.rB1 rfl rfl ⟨rfl, rfl⟩ (Frag.le_refl _) rfl

set_option maxHeartbeats 1000000 in
theorem JFiles_nil (B : Frag) : CtP Try.prog 41 [.pointer none] B (i64 0) := by
  refine CtB.of_body Try.func41 rfl (nt := 9) rfl (by kernel_rfl) rfl ?_
  intro N0 w0 R
  refine Cx.seq (fun K1 k1 => ?_)
  refine Cx.region ?_
  refine Lx.y (asg rfl) rfl ?_
  refine Lx.nil ?_
  refine Xx.tn (k1 _ _ _ _ ?_)
  refine Cx.seq (fun K2 k2 => ?_)
  refine Cx.seq (fun K3 k3 => ?_)
  refine Cx.region ?_
  refine Lx.y (mv rfl) rfl ?_
  refine Lx.y (Yx.tt (eqNilP Try.underlying70 rfl rfl) rfl) rfl ?_
  refine Lx.nil ?_
  refine Xx.tn (k3 _ _ _ _ ?_)
  refine Cx.condT rfl ?_
  refine Cx.seq (fun K4 k4 => ?_)
  refine Cx.region ?_
  refine Lx.y (asg rfl) rfl ?_
  refine Lx.nil ?_
  refine Xx.tn (k4 _ _ _ _ ?_)
  refine Cx.ret ?_
  refine Xx.tr ?_
  exact Xx.rB1 rfl rfl ⟨rfl, rfl⟩ (Frag.le_refl _) rfl

set_option maxHeartbeats 2000000 in
theorem JAt_ct (jb : Nat) (j : Jn) (i : Int) (B : Frag) : CtC Try.prog 37 [.pointer (some ⟨jb, 0, none⟩), i64 i] B (jnH jb j) (atV j.l i) (jnH jb j) := by
  refine Ct.of_body Try.func37 rfl (nt := 29) rfl (by kernel_rfl) rfl ?_
  intro N0 w0 R
  unfold jnH
  simp only [star_assoc]
  refine Cx.seq (fun K1 k1 => ?_)
  refine Cx.region ?_
  refine Lx.new (allocO ti74) rfl (fun b4 => ?_)
  refine Lx.y (asg rfl) rfl ?_
  refine Lx.nil ?_
  refine Xx.tn (k1 _ _ _ _ ?_)
  refine Cx.seq (fun K2 k2 => ?_)
  refine Cx.seq (fun K3 k3 => ?_)
  refine Cx.region ?_
  refine Lx.y (mv rfl) rfl ?_
  refine Lx.y (Yx.ff (eqNilP Try.underlying70 rfl rfl) rfl) rfl ?_
  refine Lx.y (mv rfl) rfl ?_
  refine Lx.gT rfl rfl rfl ?_
  refine Lx.y (mv rfl) rfl ?_
  refine Lx.gT rfl rfl rfl ?_
  refine Lx.y (lss rfl rfl) rfl ?_
  refine Lx.y (pickF rfl rfl) rfl ?_
  refine Lx.y (mv rfl) rfl ?_
  refine Xx.ifD (t := 12) rfl (fun h4 => ?_) (fun h4 => ?_)
  · skip
    have g1 : i < 0 := h4
    refine Lx.gF rfl rfl rfl rfl ?_
    refine Lx.gF rfl rfl rfl rfl ?_
    refine Lx.gF rfl rfl rfl rfl ?_
    refine Lx.gF rfl rfl rfl rfl ?_
    refine Lx.gF rfl rfl rfl rfl ?_
    refine Lx.gF rfl rfl rfl rfl ?_
    refine Lx.gF rfl rfl rfl rfl ?_
    refine Lx.y (pickT rfl rfl) rfl ?_
    refine Lx.nil ?_
    refine Xx.tn (k3 _ _ _ _ ?_)
    refine Cx.condT rfl ?_
    refine Cx.seq (fun K5 k5 => ?_)
    refine Cx.region ?_
    refine Lx.y (bld ti74 pl74 rfl rfl) rfl ?_
    refine Lx.st (stA (d := .bool) sz74 rfl rfl rfl rfl (by show 0 + 4 ≤ 4; omega) rfl) ?_
    refine Lx.y (asg rfl) rfl ?_
    refine Lx.nil ?_
    refine Xx.tn (k5 _ _ _ _ ?_)
    refine Cx.ret ?_
    refine Xx.tr ?_
    exact Xx.retC rfl Try.underlying74 rfl sz74 rfl rfl rfl ⟨by unfold atV; rw [dif_neg (by omega)], rfl, rfl⟩ (Frag.le_refl _) (by ac_rfl)
  · skip
    have g1 : ¬ i < 0 := h4
    refine Lx.gT rfl rfl rfl ?_
    refine Lx.y (mv rfl) rfl ?_
    refine Lx.gT rfl rfl rfl ?_
    refine Lx.y (mv rfl) rfl ?_
    refine Lx.gT rfl rfl rfl ?_
    refine Lx.y (nilc rfl) rfl ?_
    refine Lx.gT rfl rfl rfl ?_
    refine Lx.y (fa' fo115_4 rfl) rfl ?_
    refine Lx.gT rfl rfl rfl ?_
    refine Lx.y (ld Try.underlying113 rfl rfl rfl) rfl ?_
    refine Lx.gT rfl rfl rfl ?_
    refine Lx.y (lenV (ty' := 0) Try.underlying113 rfl) rfl ?_
    refine Lx.gT rfl rfl rfl ?_
    refine Lx.y (geq rfl rfl) rfl ?_
    refine Lx.y (pickF rfl rfl) rfl ?_
    refine Lx.nil ?_
    refine Xx.tn (k3 _ _ _ _ ?_)
    refine Cx.condD rfl (fun h6 => ?_) (fun h6 => ?_)
    · skip
      have g2 := h6
      refine Cx.seq (fun K7 k7 => ?_)
      refine Cx.region ?_
      refine Lx.y (bld ti74 pl74 rfl rfl) rfl ?_
      refine Lx.st (stA (d := .bool) sz74 rfl rfl rfl rfl (by show 0 + 4 ≤ 4; omega) rfl) ?_
      refine Lx.y (asg rfl) rfl ?_
      refine Lx.nil ?_
      refine Xx.tn (k7 _ _ _ _ ?_)
      refine Cx.ret ?_
      refine Xx.tr ?_
      exact Xx.retC rfl Try.underlying74 rfl sz74 rfl rfl rfl ⟨by unfold atV; rw [dif_neg (by omega)], rfl, rfl⟩ (Frag.le_refl _) (by ac_rfl)
    · skip
      have g2 := h6
      have g2 : i < (j.l.length : Int) := by have h9 : ¬ (j.l.length : Int) ≤ i := g2; omega
      refine Xx.addrT j.Al (by omega) (fun ba hA hxl hxc => ?_)
      refine Cx.skip ?_
      refine Xx.tn (k2 _ _ _ _ ?_)
      refine Cx.seq (fun K8 k8 => ?_)
      refine Cx.region ?_
      refine Lx.y (mv rfl) rfl ?_
      refine Lx.y (nilc rfl) rfl ?_
      refine Lx.y (fa' fo115_4 rfl) rfl ?_
      refine Lx.y (Yx.val (ld Try.underlying113 rfl rfl rfl) (show _ = Value.slice (some ⟨ba, 0, none⟩) j.l.length j.cl from by rw [← hA])) rfl ?_
      refine Lx.y (mv rfl) rfl ?_
      rw [hA]
      refine Lx.y (ia (j := i.toNat) Try.underlying113 sz74 rfl rfl rfl (by omega) (by omega)) rfl ?_
      refine Lx.y (ldA Try.underlying74 rfl sz74 rfl (Cells.buf (b := ba) (m := 4) (show _ = rcc (j.l[i.toNat]'(by omega)) from by rw [Nat.zero_add]; exact DkF.flatG_at rcc_len i.toNat j.l (by omega)) (by rw [DkF.flatG_len rcc_len]; omega)) rfl) rfl ?_
      refine Lx.st (stA (d := .bool) sz74 rfl rfl rfl rfl (by show 0 + 4 ≤ 4; omega) rfl) ?_
      refine Lx.y (asg rfl) rfl ?_
      refine Lx.nil ?_
      refine Xx.tn (k8 _ _ _ _ ?_)
      refine Cx.ret ?_
      exact Xx.retC rfl Try.underlying74 rfl sz74 rfl rfl rfl ⟨by unfold atV; rw [dif_pos (by omega)]; rfl, rfl, rfl⟩ (Frag.le_refl _) (by rw [← hA]; ac_rfl)

set_option maxHeartbeats 1000000 in
theorem JAt_nil (i : Int) (B : Frag) : CtP Try.prog 37 [.pointer none, i64 i] B (.tuple #[.agg ([i64 0, i64 0, str [], .bool false] : List Value).toArray, .bool false]) := by
  refine CtB.of_body Try.func37 rfl (nt := 29) rfl (by kernel_rfl) rfl ?_
  intro N0 w0 R
  refine Cx.seq (fun K1 k1 => ?_)
  refine Cx.region ?_
  refine Lx.new (allocO ti74) rfl (fun b4 => ?_)
  refine Lx.y (asg rfl) rfl ?_
  refine Lx.nil ?_
  refine Xx.tn (k1 _ _ _ _ ?_)
  refine Cx.seq (fun K2 k2 => ?_)
  refine Cx.seq (fun K3 k3 => ?_)
  refine Cx.region ?_
  refine Lx.y (mv rfl) rfl ?_
  refine Lx.y (Yx.tt (eqNilP Try.underlying70 rfl rfl) rfl) rfl ?_
  refine Lx.y (mv rfl) rfl ?_
  refine Lx.gF rfl rfl rfl rfl ?_
  refine Lx.gF rfl rfl rfl rfl ?_
  refine Lx.y (pickT rfl rfl) rfl ?_
  refine Lx.y (mv rfl) rfl ?_
  refine Lx.gF rfl rfl rfl rfl ?_
  refine Lx.gF rfl rfl rfl rfl ?_
  refine Lx.gF rfl rfl rfl rfl ?_
  refine Lx.gF rfl rfl rfl rfl ?_
  refine Lx.gF rfl rfl rfl rfl ?_
  refine Lx.gF rfl rfl rfl rfl ?_
  refine Lx.gF rfl rfl rfl rfl ?_
  refine Lx.y (pickT rfl rfl) rfl ?_
  refine Lx.nil ?_
  refine Xx.tn (k3 _ _ _ _ ?_)
  refine Cx.condT rfl ?_
  refine Cx.seq (fun K4 k4 => ?_)
  refine Cx.region ?_
  refine Lx.y (bld ti74 pl74 rfl rfl) rfl ?_
  refine Lx.st (stA (d := .bool) sz74 rfl rfl rfl rfl (by show 0 + 4 ≤ 4; omega) rfl) ?_
  refine Lx.y (asg rfl) rfl ?_
  refine Lx.nil ?_
  refine Xx.tn (k4 _ _ _ _ ?_)
  refine Cx.ret ?_
  refine Xx.tr ?_
  exact Xx.rBc rfl Try.underlying74 rfl sz74 rfl rfl rfl ⟨rfl, rfl⟩ (Frag.le_refl _)

set_option maxHeartbeats 1000000 in
theorem JBlank_nil (i a n : Int) (B : Frag) : CtP Try.prog 39 [.pointer none, i64 i, i64 a, i64 n] B (i64 1) := by
  refine CtB.of_body Try.func39 rfl (nt := 121) rfl (by kernel_rfl) rfl ?_
  intro N0 w0 R
  refine Cx.seq (fun K1 k1 => ?_)
  refine Cx.region ?_
  refine Lx.y (asg rfl) rfl ?_
  refine Lx.nil ?_
  refine Xx.tn (k1 _ _ _ _ ?_)
  refine Cx.seq (fun K2 k2 => ?_)
  refine Cx.region ?_
  refine Lx.y (mv rfl) rfl ?_
  refine Lx.y (mv rfl) rfl ?_
  refine Lx.cp rfl rfl rfl (JAt_nil i _) rfl ?_
  refine Lx.y (mv rfl) rfl ?_
  refine Lx.y (ext rfl rfl) rfl ?_
  refine Lx.y (ext rfl rfl) rfl ?_
  refine Lx.new (allocO ti74) rfl (fun b9 => ?_)
  refine Lx.st (stA (d := .bool) sz74 rfl rfl rfl rfl (by show 0 + 4 ≤ 4; omega) rfl) ?_
  refine Lx.y (asg rfl) rfl ?_
  refine Lx.nil ?_
  refine Xx.tn (k2 _ _ _ _ ?_)
  refine Cx.seq (fun K3 k3 => ?_)
  refine Cx.seq (fun K4 k4 => ?_)
  refine Cx.region ?_
  refine Lx.y (mv rfl) rfl ?_
  refine Lx.y (not' rfl) rfl ?_
  refine Lx.y (mv rfl) rfl ?_
  refine Lx.gF rfl rfl rfl rfl ?_
  refine Lx.gF rfl rfl rfl rfl ?_
  refine Lx.y (pickT rfl rfl) rfl ?_
  refine Lx.y (mv rfl) rfl ?_
  refine Lx.gF rfl rfl rfl rfl ?_
  refine Lx.gF rfl rfl rfl rfl ?_
  refine Lx.y (pickT rfl rfl) rfl ?_
  refine Lx.y (mv rfl) rfl ?_
  refine Lx.gF rfl rfl rfl rfl ?_
  refine Lx.gF rfl rfl rfl rfl ?_
  refine Lx.gF rfl rfl rfl rfl ?_
  refine Lx.gF rfl rfl rfl rfl ?_
  refine Lx.gF rfl rfl rfl rfl ?_
  refine Lx.y (pickT rfl rfl) rfl ?_
  refine Lx.y (mv rfl) rfl ?_
  refine Lx.gF rfl rfl rfl rfl ?_
  refine Lx.gF rfl rfl rfl rfl ?_
  refine Lx.gF rfl rfl rfl rfl ?_
  refine Lx.gF rfl rfl rfl rfl ?_
  refine Lx.gF rfl rfl rfl rfl ?_
  refine Lx.gF rfl rfl rfl rfl ?_
  refine Lx.gF rfl rfl rfl rfl ?_
  refine Lx.y (pickT rfl rfl) rfl ?_
  refine Lx.nil ?_
  refine Xx.tn (k4 _ _ _ _ ?_)
  refine Cx.condT rfl ?_
  refine Cx.seq (fun K5 k5 => ?_)
  refine Cx.region ?_
  refine Lx.y (asg rfl) rfl ?_
  refine Lx.nil ?_
  refine Xx.tn (k5 _ _ _ _ ?_)
  refine Cx.ret ?_
  refine Xx.tr ?_
  exact Xx.dropB b9 (Xx.rB1 rfl rfl ⟨rfl, rfl⟩ (Frag.le_refl _) rfl)

set_option maxHeartbeats 1000000 in
theorem JAdd_nil (v : Value) (B : Frag) : CtP Try.prog 38 [.pointer none, v] B (.tuple #[i64 0, i64 1]) := by
  refine CtB.of_body Try.func38 rfl (nt := 123) rfl (by kernel_rfl) rfl ?_
  intro N0 w0 R
  refine Cx.seq (fun K1 k1 => ?_)
  refine Cx.region ?_
  refine Lx.y (asg rfl) rfl ?_
  refine Lx.y (asg rfl) rfl ?_
  refine Lx.nil ?_
  refine Xx.tn (k1 _ _ _ _ ?_)
  refine Cx.seq (fun K2 k2 => ?_)
  refine Cx.seq (fun K3 k3 => ?_)
  refine Cx.region ?_
  refine Lx.y (mv rfl) rfl ?_
  refine Lx.y (Yx.tt (eqNilP Try.underlying70 rfl rfl) rfl) rfl ?_
  refine Lx.nil ?_
  refine Xx.tn (k3 _ _ _ _ ?_)
  refine Cx.condT rfl ?_
  refine Cx.seq (fun K4 k4 => ?_)
  refine Cx.region ?_
  refine Lx.y (asg rfl) rfl ?_
  refine Lx.y (asg rfl) rfl ?_
  refine Lx.nil ?_
  refine Xx.tn (k4 _ _ _ _ ?_)
  refine Cx.ret ?_
  refine Xx.tr ?_
  exact Xx.rB2 rfl rfl rfl ⟨rfl, rfl⟩ (Frag.le_refl _) rfl

set_option maxHeartbeats 1000000 in
theorem JKeep_nil (n : Int) (B : Frag) : CtP Try.prog 40 [.pointer none, i64 n] B (i64 1) := by
  refine CtB.of_body Try.func40 rfl (nt := 135) rfl (by kernel_rfl) rfl ?_
  intro N0 w0 R
  refine Cx.seq (fun K1 k1 => ?_)
  refine Cx.region ?_
  refine Lx.new (boxO rfl rfl) rfl (fun bk => ?_)
  refine Lx.new (allocO ti42) rfl (fun bk1 => ?_)
  refine Lx.nil ?_
  refine Xx.tn (k1 _ _ _ _ ?_)
  refine Cx.seq (fun K2 k2 => ?_)
  refine Cx.seq (fun K3 k3 => ?_)
  refine Cx.region ?_
  refine Lx.y (ld Try.underlying70 rfl rfl rfl) rfl ?_
  refine Lx.y (Yx.tt (eqNilP Try.underlying70 rfl rfl) rfl) rfl ?_
  refine Lx.y (mv rfl) rfl ?_
  refine Lx.gF rfl rfl rfl rfl ?_
  refine Lx.gF rfl rfl rfl rfl ?_
  refine Lx.y (pickT rfl rfl) rfl ?_
  refine Lx.y (mv rfl) rfl ?_
  refine Lx.gF rfl rfl rfl rfl ?_
  refine Lx.gF rfl rfl rfl rfl ?_
  refine Lx.gF rfl rfl rfl rfl ?_
  refine Lx.gF rfl rfl rfl rfl ?_
  refine Lx.gF rfl rfl rfl rfl ?_
  refine Lx.gF rfl rfl rfl rfl ?_
  refine Lx.gF rfl rfl rfl rfl ?_
  refine Lx.y (pickT rfl rfl) rfl ?_
  refine Lx.nil ?_
  refine Xx.tn (k3 _ _ _ _ ?_)
  refine Cx.condT rfl ?_
  refine Cx.seq (fun K4 k4 => ?_)
  refine Cx.region ?_
  refine Lx.st (stO Try.underlying42 sz42 rfl rfl rfl (by show 0 < 1; omega) rfl) ?_
  refine Lx.nil ?_
  refine Xx.tn (k4 _ _ _ _ ?_)
  refine Cx.ret ?_
  refine Xx.tr ?_
  refine Xx.dropB bk ?_
  exact Xx.rBs rfl Try.underlying42 rfl rfl ⟨rfl, rfl⟩ (Frag.le_refl _)
end Jn1
end Go.Proofs.Ytgcebieihmlaoaa

/-
  A journal is opened: the walk.
-/
namespace Go.Proofs.Ytgcebieihmlaoaa
open Go.SL Go.RowKit
set_option linter.unusedVariables false
set_option linter.unusedSimpArgs false
set_option maxRecDepth 100000
open DkA DkB DkC DkD DkE DkF DkG DkH DkI DkJ DkK DkL DkM DkN Fr1 Jn1
namespace Jn2
theorem sz3 : (Try.prog.info? 3).map (·.size) = some 1 := by kernel_rfl
theorem sz4 : (Try.prog.info? 4).map (·.size) = some 1 := by kernel_rfl
theorem sz9 : (Try.prog.info? 9).map (·.size) = some 1 := by kernel_rfl
theorem sz74 : (Try.prog.info? 74).map (·.size) = some 4 := by kernel_rfl
theorem sz113 : (Try.prog.info? 113).map (·.size) = some 1 := by kernel_rfl
theorem sz115 : (Try.prog.info? 115).map (·.size) = some 5 := by kernel_rfl
theorem sz119 : (Try.prog.info? 119).map (·.size) = some 3 := by kernel_rfl
theorem sz122 : (Try.prog.info? 122).map (·.size) = some 2 := by kernel_rfl
theorem ti5 : TI Try.prog 5 [.int .u8 0] 1 1 := TI.of (by kernel_rfl) rfl rfl
theorem ti74 : TI Try.prog 74 [.int .i64 0, .int .i64 0, str [], .bool false] 4 40 := TI.of (by kernel_rfl) rfl rfl
theorem ti115 : TI Try.prog 115 [.pointer none, .int .i64 0, .int .i64 0, .int .i64 0, .slice none 0 0] 5 56 := TI.of (by kernel_rfl) rfl rfl
theorem ti119 : TI Try.prog 119 [.int .i64 0, str [], .bool false] 3 32 := TI.of (by kernel_rfl) rfl rfl
theorem ti122 : TI Try.prog 122 [.pointer none, .slice none 0 0] 2 32 := TI.of (by kernel_rfl) rfl rfl
theorem fo115_2 : FO Try.prog 115 2 2 1 false := FO.of Try.underlying115 rfl rfl (by kernel_rfl) Try.underlying3 rfl rfl
theorem fo115_3 : FO Try.prog 115 3 3 1 false := FO.of Try.underlying115 rfl rfl (by kernel_rfl) Try.underlying3 rfl rfl
theorem fo115_4 : FO Try.prog 115 4 4 1 false := FO.of Try.underlying115 rfl rfl (by kernel_rfl) Try.underlying113 rfl rfl
theorem fo119_0 : FO Try.prog 119 0 0 1 false := FO.of Try.underlying119 rfl rfl (by kernel_rfl) Try.underlying3 rfl rfl
theorem fo119_1 : FO Try.prog 119 1 1 1 false := FO.of Try.underlying119 rfl rfl (by kernel_rfl) Try.underlying9 rfl rfl
theorem fo119_2 : FO Try.prog 119 2 2 1 false := FO.of Try.underlying119 rfl rfl (by kernel_rfl) Try.underlying4 rfl rfl
theorem pl74 : PL Try.prog 74 [(0, 1), (1, 1), (2, 1), (3, 1)] := PL.of Try.underlying74 (by kernel_rfl)
theorem pl115 : PL Try.prog 115 [(0, 1), (1, 1), (2, 1), (3, 1), (4, 1)] := PL.of Try.underlying115 (by kernel_rfl)

/-- the frames of a file as records -/
def recF (file : Nat) (fs : List Fr2.Fm) : List Rc := fs.map fun f => ⟨file, f.pos, f.body, f.good⟩
/-- what a journal reads of a disk's files: from one number on -/
def openF (fs : List DkB.Fm) : Nat → List Rc × Nat × Nat → List Rc × Nat × Nat
  | 0, s => s
  | n + 1, s => match findM ((s.2.1 + 1 : Nat) : Int) fs with
    | none => s
    | some f => if Fr2.endL (Fr2.scanL f.now) < f.now.length then (s.1 ++ recF (s.2.1 + 1) (Fr2.scanL f.now), s.2.1 + 1, f.now.length)
        else openF fs n (s.1 ++ recF (s.2.1 + 1) (Fr2.scanL f.now), s.2.1 + 1, f.now.length)
theorem recF_snoc (file : Nat) (fs : List Fr2.Fm) (f : Fr2.Fm) : recF file (fs ++ [f]) = recF file fs ++ [⟨file, f.pos, f.body, f.good⟩] := by simp [recF]
theorem recF_len (file : Nat) (fs : List Fr2.Fm) : (recF file fs).length = fs.length := by simp [recF]
def fmc (f : Fr2.Fm) : List Value := [i64 (f.pos : Int), str f.body, .bool f.good]
theorem fmc_len (f : Fr2.Fm) : (fmc f).length = 3 := rfl
/-- files that follow one another are no more than all -/
theorem run_le {fs : List DkB.Fm} {n : Nat} (h : ∀ k, k < n → ((k + 1 : Nat) : Int) ∈ fs.map (·.n)) : n ≤ fs.length := by
  have h1 : ((List.range n).map fun k => ((k + 1 : Nat) : Int)).Nodup := by
    rw [List.Nodup, List.pairwise_map]
    exact List.nodup_range.imp fun h e => h (by omega)
  have h2 := nodup_len _ (fs.map (·.n)) h1 (fun x hx => by
    obtain ⟨k, hk, rfl⟩ := List.mem_map.1 hx
    exact h k (List.mem_range.1 hk))
  simpa using h2

set_option maxHeartbeats 8000000 in
theorem JOpen_ct (d : Dk) (db : Nat) (most : Int) (B : Frag) (hF : d.abs.Fit) (hdd : d.dead = false) (hm : 1 ≤ most) (hsz : ∀ f ∈ d.abs.fs, f.now.length ≤ 1048576) : Ct Try.prog 34 [.pointer (some ⟨db, 0, none⟩), i64 most] B (dkH db d) (fun v B' H' => ∃ (jb : Nat) (Al : Option Addr) (cl : Nat), v = .tuple #[.pointer (some ⟨jb, 0, none⟩), i64 0] ∧ H' = dkH db d * jnH jb ⟨db, most, (openF d.abs.fs (d.abs.fs.length + 1) ([], 0, 0)).2.1, (openF d.abs.fs (d.abs.fs.length + 1) ([], 0, 0)).2.2, (openF d.abs.fs (d.abs.fs.length + 1) ([], 0, 0)).1, Al, cl⟩) := by
  have hfl : d.abs.fs.length ≤ 1000000 := hF.len
  refine Ct.of_body Try.func34 rfl (nt := 87) rfl (by kernel_rfl) rfl ?_
  intro N0 w0 R
  refine Cx.seq (fun K1 k1 => ?_)
  refine Cx.region ?_
  refine Lx.y (asg rfl) rfl ?_
  refine Lx.y (asg rfl) rfl ?_
  refine Lx.nil ?_
  refine Xx.tn (k1 _ _ _ _ ?_)
  refine Cx.seq (fun K2 k2 => ?_)
  refine Cx.seq (fun K3 k3 => ?_)
  refine Cx.region ?_
  refine Lx.y (mv rfl) rfl ?_
  refine Lx.y (Yx.ff (eqNilP Try.underlying26 rfl rfl) rfl) rfl ?_
  refine Lx.y (mv rfl) rfl ?_
  refine Lx.gT rfl rfl rfl ?_
  refine Lx.y (mv rfl) rfl ?_
  refine Lx.gT rfl rfl rfl ?_
  refine Lx.y (lss rfl rfl) rfl ?_
  refine Lx.y (pickF rfl rfl) rfl ?_
  refine Lx.nil ?_
  refine Xx.tn (k3 _ _ _ _ ?_)
  refine Cx.condD rfl (fun h4 => ?_) (fun h4 => ?_)
  · skip
    have h1 : most < 1 := h4
    omega
  · skip
    refine Cx.skip ?_
    refine Xx.tn (k2 _ _ _ _ ?_)
    refine Cx.seq (fun K5 k5 => ?_)
    refine Cx.seq (fun K6 k6 => ?_)
    refine Cx.region ?_
    refine Lx.y (mv rfl) rfl ?_
    refine Lx.co rfl rfl rfl (Dead_ct d db _) (rfl) rfl ?_
    refine Lx.nil ?_
    refine Xx.tn (k6 _ _ _ _ ?_)
    refine Cx.condB rfl (fun h7 => ?_) (fun h7 => ?_)
    · skip
      have h2 : d.dead = true := h7
      rw [hdd] at h2; cases h2
    · skip
      refine Cx.skip ?_
      refine Xx.tn (k5 _ _ _ _ ?_)
      refine Cx.seq (fun K8 k8 => ?_)
      refine Cx.region ?_
      refine Lx.y (mv rfl) rfl ?_
      refine Lx.y (mv rfl) rfl ?_
      refine Lx.y (bld ti115 pl115 rfl rfl) rfl ?_
      refine Lx.new (boxA rfl) rfl (fun jb => ?_)
      refine Lx.y (asg rfl) rfl ?_
      refine Lx.nil ?_
      refine Xx.tn (k8 _ _ _ _ ?_)
      refine Cx.block ?_
      refine Cx.loopK (Sub.cons (s := 0) rfl (Sub.cons (s := 1) rfl (Sub.cons (s := 6) rfl (Sub.cons (s := 13) rfl (Sub.cons (s := 14) rfl (Sub.cons (s := 15) rfl (Sub.cons (s := 16) rfl (Sub.cons (s := 17) rfl (Sub.cons (s := 18) rfl (Sub.cons (s := 19) rfl (Sub.cons (s := 20) rfl (Sub.cons (s := 21) rfl (Sub.cons (s := 22) rfl (Sub.cons (s := 23) rfl (Sub.cons (s := 24) rfl (Sub.nil _)))))))))))))))) (fun m ρ' B' H' => ∃ (n ls lg : Nat) (l : List Rc) (A : Option Addr) (c : Nat) (B2 : Frag), (openF d.abs.fs n (l, ls, lg) = (openF d.abs.fs (d.abs.fs.length + 1) ([], 0, 0)) ∧ n + ls = d.abs.fs.length + 1 ∧ (∀ k, k < ls → ((k + 1 : Nat) : Int) ∈ d.abs.fs.map (·.n)) ∧ l.length ≤ ls * 1048576 ∧ B.le B2) ∧ m = n + 1 ∧ ρ' = [] ∧ B2 = B' ∧ row jb 115 [.pointer (some ⟨db, 0, none⟩), i64 most, i64 ((ls : Nat) : Int), i64 ((lg : Nat) : Int), .slice A l.length c] * (sbuf 74 4 A l.length c (l.flatMap rcc) * (dkH db d * R)) = H') ⟨d.abs.fs.length + 1, 0, 0, [], none, 0, _, ⟨rfl, rfl, fun k hk => absurd hk (by omega), Nat.zero_le _, Frag.le_refl _⟩, rfl, rfl, rfl, by show _ * (sbuf _ 4 none 0 0 [] * _) = _; rw [sbuf_nil, one_star]; rfl⟩ (Sub.cons (s := 0) rfl (Sub.cons (s := 1) rfl (Sub.cons (s := 6) rfl (Sub.cons (s := 13) rfl (Sub.cons (s := 14) rfl (Sub.cons (s := 15) rfl (Sub.cons (s := 16) rfl (Sub.cons (s := 17) rfl (Sub.cons (s := 18) rfl (Sub.cons (s := 19) rfl (Sub.cons (s := 20) rfl (Sub.cons (s := 21) rfl (Sub.cons (s := 22) rfl (Sub.cons (s := 23) rfl (Sub.cons (s := 24) rfl (Sub.nil _)))))))))))))))) ?_
      rintro m ρ' B' H' ⟨n, ls, lg, l, A, c, B2, ⟨hst, hnl, hrun, hll, hBle⟩, rfl, rfl, rfl, rfl⟩
      have hrl := run_le hrun
      obtain ⟨n, rfl⟩ : ∃ k, n = k + 1 := ⟨n - 1, by omega⟩
      refine Cx.block ?_
      refine Cx.seq (fun K9 k9 => ?_)
      refine Cx.region ?_
      refine Lx.y (mv rfl) rfl ?_
      refine Lx.y (mv rfl) rfl ?_
      refine Lx.y (nilc rfl) rfl ?_
      refine Lx.y (fa' fo115_2 rfl) rfl ?_
      refine Lx.y (ld Try.underlying3 rfl rfl rfl) rfl ?_
      refine Lx.y (Yx.val (add rfl rfl (by first | exact wrap64 (by omega) (by omega) | rfl)) (show _ = i64 ((ls + 1 : Nat) : Int) from rfl)) rfl ?_
      refine Lx.co rfl rfl rfl (Read_ct d db ((ls + 1 : Nat) : Int) _ hF) ((show _ = dkH db d * (row jb 115 [.pointer (some ⟨db, 0, none⟩), i64 most, i64 ((ls : Nat) : Int), i64 ((lg : Nat) : Int), .slice A l.length c] * (sbuf 74 4 A l.length c (l.flatMap rcc) * R)) by ac_rfl)) rfl ?_
      refine Lx.y (mv rfl) rfl ?_
      refine Lx.y (ext rfl rfl) rfl ?_
      refine Lx.y (ext rfl rfl) rfl ?_
      refine Lx.y (asg rfl) rfl ?_
      refine Lx.y (asg rfl) rfl ?_
      refine Lx.nil ?_
      refine Xx.tn (k9 _ _ _ _ ?_)
      refine Cx.seq (fun K10 k10 => ?_)
      refine Cx.seq (fun K11 k11 => ?_)
      refine Cx.region ?_
      refine Lx.y (mv rfl) rfl ?_
      refine Lx.y (neI rfl rfl) rfl ?_
      refine Lx.nil ?_
      refine Xx.tn (k11 _ _ _ _ ?_)
      refine Cx.condN rfl (fun h12 => ?_) (fun h12 => ?_)
      · skip
        have he := h12
        have hnone : findM ((ls + 1 : Nat) : Int) d.abs.fs = none := by
          unfold errM at he
          rw [if_neg (by rw [show d.abs.dead = d.dead from rfl, hdd]; decide)] at he
          cases hq : findM ((ls + 1 : Nat) : Int) d.abs.fs with
          | none => rfl
          | some f => rw [hq] at he; exact absurd rfl he
        have hfin : (openF d.abs.fs (d.abs.fs.length + 1) ([], 0, 0)) = (l, ls, lg) := by rw [← hst]; unfold openF; rw [hnone]
        refine Cx.seq (fun K13 k13 => ?_)
        refine Cx.region ?_
        refine Lx.y (mv rfl) rfl ?_
        refine Lx.y (asg rfl) rfl ?_
        refine Lx.y (asg rfl) rfl ?_
        refine Lx.nil ?_
        refine Xx.tn (k13 _ _ _ _ ?_)
        refine Cx.ret ?_
        refine Xx.tr ?_
        refine Xx.br ?_
        refine Xx.tr ?_
        refine Xx.br ?_
        exact Xx.ret2 rfl rfl rfl ⟨jb, A, c, rfl, rfl⟩ hBle (by rw [hfin]; unfold jnH jcs; ac_rfl)
      · skip
        have he := h12
        obtain ⟨_, f, hff, _, hfm⟩ := file_ok he
        have hsome : findM ((ls + 1 : Nat) : Int) d.abs.fs = some f.m := by
          have := findF_m ((ls + 1 : Nat) : Int) d.fs
          rw [hff] at this
          exact this.symm
        have hfs := hsz _ (findM_mem hsome).1
        obtain ⟨fr, hfr⟩ : ∃ fr, fr = Fr2.scanL f.m.now := ⟨_, rfl⟩
        have hfrl : fr.length ≤ 1048576 := by
          have := Fr2.scanF_len f.m.now (f.m.now.length + 1) 0 (by omega)
          rw [hfr]; unfold Fr2.scanL; omega
        have hrun2 : ∀ k, k < ls + 1 → ((k + 1 : Nat) : Int) ∈ d.abs.fs.map (·.n) := fun k hk => by
          by_cases e : k = ls
          · rw [e]; obtain ⟨g1, g2⟩ := findM_mem hsome; exact List.mem_map.2 ⟨f.m, g1, g2⟩
          · exact hrun k (by omega)
        have hls2 := run_le hrun2
        rw [if_pos he, hfm]
        refine Cx.skip ?_
        refine Xx.tn (k10 _ _ _ _ ?_)
        refine Cx.seq (fun K14 k14 => ?_)
        refine Cx.region ?_
        refine Lx.y (mv rfl) rfl ?_
        refine Lx.y (nilc rfl) rfl ?_
        refine Lx.y (fa' fo115_2 rfl) rfl ?_
        refine Lx.y (ld Try.underlying3 rfl rfl rfl) rfl ?_
        refine Lx.y (Yx.val (add rfl rfl (by first | exact wrap64 (by omega) (by omega) | rfl)) (show _ = i64 ((ls + 1 : Nat) : Int) from rfl)) rfl ?_
        refine Lx.y (nilc rfl) rfl ?_
        refine Lx.y (fa' fo115_2 rfl) rfl ?_
        refine Lx.st (stO Try.underlying3 sz3 rfl rfl rfl (by show 2 < 5; omega) rfl) ?_
        refine Lx.nil ?_
        refine Xx.tn (k14 _ _ _ _ ?_)
        refine Cx.seq (fun K15 k15 => ?_)
        refine Cx.region ?_
        refine Lx.y (mv rfl) rfl ?_
        refine Lx.cb rfl rfl rfl (Fr3.Scan_ct f.m.now _ hfs) rfl ?_
        rintro v3 B3 ⟨Af, cf, rfl, hRo, hcf⟩ hB3
        rw [← hfr] at hRo ⊢
        have hBle3 := Frag.le_trans hBle hB3
        have hRf : 0 < fr.length → RoS B3 3 Af fr.length (fr.flatMap fmc) := fun _ => hRo
        refine Lx.y (mv rfl) rfl ?_
        refine Lx.y (ext rfl rfl) rfl ?_
        refine Lx.y (ext rfl rfl) rfl ?_
        refine Lx.y (asg rfl) rfl ?_
        refine Lx.y (asg rfl) rfl ?_
        refine Lx.nil ?_
        refine Xx.tn (k15 _ _ _ _ ?_)
        refine Cx.seq (fun K17 k17 => ?_)
        refine Cx.region ?_
        refine Lx.y (mv rfl) rfl ?_
        refine Lx.y (mv rfl) rfl ?_
        refine Lx.y (lenS Try.underlying9 rfl) rfl ?_
        refine Lx.y (nilc rfl) rfl ?_
        refine Lx.y (fa' fo115_3 rfl) rfl ?_
        refine Lx.st (stO Try.underlying3 sz3 rfl rfl rfl (by show 3 < 5; omega) rfl) ?_
        refine Lx.nil ?_
        refine Xx.tn (k17 _ _ _ _ ?_)
        refine Cx.seq (fun K18 k18 => ?_)
        refine Cx.seq (fun K19 k19 => ?_)
        refine Cx.region ?_
        refine Lx.y (mv rfl) rfl ?_
        refine Lx.y (lenV (ty' := 0) Try.underlying116 rfl) rfl ?_
        refine Lx.y (mv rfl) rfl ?_
        refine Lx.nil ?_
        refine Xx.tn (k19 _ _ _ _ ?_)
        refine Cx.block ?_
        refine Cx.loopK (Sub.cons (s := 0) rfl (Sub.cons (s := 1) rfl (Sub.cons (s := 6) rfl (Sub.cons (s := 7) rfl (Sub.cons (s := 8) rfl (Sub.cons (s := 9) rfl (Sub.cons (s := 10) rfl (Sub.cons (s := 13) rfl (Sub.cons (s := 14) rfl (Sub.cons (s := 15) rfl (Sub.cons (s := 16) rfl (Sub.cons (s := 17) rfl (Sub.cons (s := 18) rfl (Sub.cons (s := 19) rfl (Sub.cons (s := 20) rfl (Sub.cons (s := 21) rfl (Sub.cons (s := 22) rfl (Sub.cons (s := 23) rfl (Sub.cons (s := 24) rfl (Sub.cons (s := 25) rfl (Sub.cons (s := 26) rfl (Sub.cons (s := 27) rfl (Sub.cons (s := 28) rfl (Sub.cons (s := 29) rfl (Sub.cons (s := 30) rfl (Sub.cons (s := 31) rfl (Sub.cons (s := 32) rfl (Sub.cons (s := 33) rfl (Sub.cons (s := 34) rfl (Sub.cons (s := 35) rfl (Sub.cons (s := 36) rfl (Sub.cons (s := 38) rfl (Sub.cons (s := 39) rfl (Sub.cons (s := 40) rfl (Sub.cons (s := 41) rfl (Sub.cons (s := 42) rfl (Sub.cons (s := 43) rfl (Sub.cons (s := 44) rfl (Sub.cons (s := 45) rfl (Sub.cons (s := 46) rfl (Sub.cons (s := 47) rfl (Sub.cons (s := 48) rfl (Sub.cons (s := 49) rfl (Sub.cons (s := 50) rfl (Sub.cons (s := 51) rfl (Sub.cons (s := 52) rfl (Sub.cons (s := 53) rfl (Sub.cons (s := 54) rfl (Sub.cons (s := 55) rfl (Sub.cons (s := 56) rfl (Sub.nil _))))))))))))))))))))))))))))))))))))))))))))))))))) (fun m ρ' B' H' => ∃ (i : Nat) (A : Option Addr) (c : Nat), (i ≤ fr.length) ∧ m = fr.length - i ∧ ρ' = [(57, i64 (i : Int))] ∧ B3 = B' ∧ row jb 115 [.pointer (some ⟨db, 0, none⟩), i64 most, i64 ((ls + 1 : Nat) : Int), i64 ((f.m.now.length : Nat) : Int), .slice A (l ++ recF (ls + 1) (fr.take i)).length c] * (sbuf 74 4 A (l ++ recF (ls + 1) (fr.take i)).length c ((l ++ recF (ls + 1) (fr.take i)).flatMap rcc) * (dkH db d * R)) = H') ⟨0, A, c, Nat.zero_le _, rfl, rfl, rfl, (by rw [List.take_zero]; show row jb _ [_, _, _, _, .slice A (l ++ []).length c] * (sbuf _ 4 A (l ++ []).length c ((l ++ []).flatMap rcc) * _) = _; rw [List.append_nil]; ac_rfl)⟩ (Sub.cons (s := 57) rfl (Sub.cons (s := 0) rfl (Sub.cons (s := 1) rfl (Sub.cons (s := 6) rfl (Sub.cons (s := 7) rfl (Sub.cons (s := 8) rfl (Sub.cons (s := 9) rfl (Sub.cons (s := 10) rfl (Sub.cons (s := 13) rfl (Sub.cons (s := 14) rfl (Sub.cons (s := 15) rfl (Sub.cons (s := 16) rfl (Sub.cons (s := 17) rfl (Sub.cons (s := 18) rfl (Sub.cons (s := 19) rfl (Sub.cons (s := 20) rfl (Sub.cons (s := 21) rfl (Sub.cons (s := 22) rfl (Sub.cons (s := 23) rfl (Sub.cons (s := 24) rfl (Sub.cons (s := 25) rfl (Sub.cons (s := 26) rfl (Sub.cons (s := 27) rfl (Sub.cons (s := 28) rfl (Sub.cons (s := 29) rfl (Sub.cons (s := 30) rfl (Sub.cons (s := 31) rfl (Sub.cons (s := 32) rfl (Sub.cons (s := 33) rfl (Sub.cons (s := 34) rfl (Sub.cons (s := 35) rfl (Sub.cons (s := 36) rfl (Sub.cons (s := 38) rfl (Sub.cons (s := 39) rfl (Sub.cons (s := 40) rfl (Sub.cons (s := 41) rfl (Sub.cons (s := 42) rfl (Sub.cons (s := 43) rfl (Sub.cons (s := 44) rfl (Sub.cons (s := 45) rfl (Sub.cons (s := 46) rfl (Sub.cons (s := 47) rfl (Sub.cons (s := 48) rfl (Sub.cons (s := 49) rfl (Sub.cons (s := 50) rfl (Sub.cons (s := 51) rfl (Sub.cons (s := 52) rfl (Sub.cons (s := 53) rfl (Sub.cons (s := 54) rfl (Sub.cons (s := 55) rfl (Sub.cons (s := 56) rfl (Sub.nil _)))))))))))))))))))))))))))))))))))))))))))))))))))) ?_
        rintro m ρ' B' H' ⟨i, A, c, hi, rfl, rfl, rfl, rfl⟩
        refine Cx.seq (fun K20 k20 => ?_)
        refine Cx.region ?_
        refine Lx.y (lss rfl rfl) rfl ?_
        refine Lx.nil ?_
        refine Xx.tn (k20 _ _ _ _ ?_)
        refine Cx.seq (fun K21 k21 => ?_)
        refine Cx.condD rfl (fun h22 => ?_) (fun h22 => ?_)
        · skip
          have hlt := h22
          have hlt : i < fr.length := by omega
          obtain ⟨b0, o0, cs0, et0, fz0, hA0, hB0, hc0⟩ := DkF.flat_at fmc_len hRo hlt
          obtain ⟨x, hx⟩ : ∃ x, x = fr[i] := ⟨_, rfl⟩
          rw [← hx] at hc0
          have hsn : l ++ recF (ls + 1) (fr.take (i + 1)) = (l ++ recF (ls + 1) (fr.take i)) ++ [(⟨ls + 1, x.pos, x.body, x.good⟩ : Rc)] := by rw [List.take_succ_eq_append_getElem hlt, recF_snoc, hx, List.append_assoc]
          have hrl2 : (l ++ recF (ls + 1) (fr.take i)).length = l.length + i := by rw [List.length_append, recF_len, List.length_take]; omega
          refine Cx.skip ?_
          refine Xx.tn (k21 _ _ _ _ ?_)
          refine Cx.seq (fun K23 k23 => ?_)
          refine Cx.block ?_
          refine Cx.seq (fun K24 k24 => ?_)
          refine Cx.region ?_
          refine Lx.y (Yx.val (ia (b := b0) (o := o0) Try.underlying116 sz119 (by rw [← hA0]; rfl) rfl (Int.toNat_natCast _) (by omega) (by omega)) rfl) rfl ?_
          refine Lx.y (ldA Try.underlying119 rfl sz119 rfl (Cells.base (n := 3) hB0 hc0) rfl) rfl ?_
          refine Lx.new (allocO ti119) rfl (fun bf => ?_)
          refine Lx.st (stA (d := .bool) sz119 rfl rfl rfl rfl (by show 0 + 3 ≤ 3; omega) rfl) ?_
          refine Lx.nil ?_
          refine Xx.tn (k24 _ _ _ _ ?_)
          refine Cx.drawn (by kernel_rfl) ?_
          refine Dx.p (i := 0) rfl (by kernel_rfl) (mv rfl) rfl ?_
          refine Dx.p (i := 1) rfl (by kernel_rfl) (mv rfl) rfl ?_
          refine Dx.p (i := 2) rfl (by kernel_rfl) (nilc rfl) rfl ?_
          refine Dx.p (i := 3) rfl (by kernel_rfl) (fa' fo115_4 rfl) rfl ?_
          refine Dx.r (i := 4) rfl (by kernel_rfl) (ld Try.underlying113 rfl rfl rfl) rfl ?_
          refine Dx.p (i := 5) rfl (by kernel_rfl) (mv rfl) rfl ?_
          refine Dx.p (i := 6) rfl (by kernel_rfl) (nilc rfl) rfl ?_
          refine Dx.p (i := 7) rfl (by kernel_rfl) (fa' fo115_2 rfl) rfl ?_
          refine Dx.r (i := 8) rfl (by kernel_rfl) (ld Try.underlying3 rfl rfl rfl) rfl ?_
          refine Dx.p (i := 9) rfl (by kernel_rfl) (fa' fo119_0 rfl) rfl ?_
          refine Dx.r (i := 10) rfl (by kernel_rfl) (ld Try.underlying3 rfl rfl rfl) rfl ?_
          refine Dx.p (i := 11) rfl (by kernel_rfl) (fa' fo119_1 rfl) rfl ?_
          refine Dx.r (i := 12) rfl (by kernel_rfl) (ld Try.underlying9 rfl rfl rfl) rfl ?_
          refine Dx.p (i := 13) rfl (by kernel_rfl) (fa' fo119_2 rfl) rfl ?_
          refine Dx.r (i := 14) rfl (by kernel_rfl) (ld Try.underlying4 rfl rfl rfl) rfl ?_
          refine Dx.p (i := 15) rfl (by kernel_rfl) (bld ti74 pl74 rfl rfl) rfl ?_
          refine Dx.one (i := 16) (by kernel_rfl) ?_
          refine Dstep.o (i := 16) rfl (bslA Try.underlying113 ti74 rfl rfl (by decide)) rfl (fun v B' H' hΦ hB => ?_)
          obtain ⟨bv, rfl, hBB, rfl⟩ := hΦ; have hBB2 := hBB.symm; subst hBB2; clear hB
          refine ⟨JOk.yes (JOk.yes (JOk.yes (JOk.yes (JOk.yes (JOk.top) (ld Try.underlying113 rfl rfl rfl)) (ld Try.underlying3 rfl rfl rfl)) (ld Try.underlying3 rfl rfl rfl)) (ld Try.underlying9 rfl rfl rfl)) (ld Try.underlying4 rfl rfl rfl), ?_⟩
          refine Dx.one (i := 17) (by kernel_rfl) ?_
          refine Dstep.o (i := 17) rfl (appN (A := A) ((l ++ recF (ls + 1) (fr.take i)).length + 1) (rcc ⟨ls + 1, x.pos, x.body, x.good⟩) (((l ++ recF (ls + 1) (fr.take i)) ++ [(⟨ls + 1, x.pos, x.body, x.good⟩ : Rc)]).flatMap rcc) Try.underlying113 Try.underlying113 ti74 rfl rfl rfl rfl rfl (by omega) (by omega) rfl (by simp only [List.flatMap_append, List.flatMap_cons, List.flatMap_nil, List.append_nil])) rfl (fun v B' H' hΦ hB => ?_)
          obtain ⟨A2, c2, rfl, hA2, hl2, hc2, hBB, rfl⟩ := hΦ
          have hBB2 := hBB.symm
          subst hBB2
          refine ⟨JOk.yes (JOk.yes (JOk.yes (JOk.yes (JOk.edge (JOk.top) (by kernel_rfl)) (ld Try.underlying3 rfl rfl rfl)) (ld Try.underlying3 rfl rfl rfl)) (ld Try.underlying9 rfl rfl rfl)) (ld Try.underlying4 rfl rfl rfl), ?_⟩
          refine Dx.p (i := 18) rfl (by kernel_rfl) (nilc rfl) rfl ?_
          refine Dx.p (i := 19) rfl (by kernel_rfl) (fa' fo115_4 rfl) rfl ?_
          refine Dx.one (i := 20) (by kernel_rfl) ?_
          refine Dstep.o0 (i := 20) rfl (stO Try.underlying113 sz113 rfl rfl rfl (by show 4 < 5; omega) rfl) (fun v B' H' hΦ hB => ?_)
          obtain ⟨hBB, rfl⟩ := hΦ; have hBB2 := hBB.symm; subst hBB2; clear hB v
          refine ⟨JOk.edge (JOk.edge (JOk.edge (JOk.edge (JOk.edge (JOk.top) (by kernel_rfl)) (by kernel_rfl)) (by kernel_rfl)) (by kernel_rfl)) (by kernel_rfl), ?_⟩
          refine Dx.done (by kernel_rfl) ?_
          refine Xx.bn ?_
          refine Xx.tn (k23 _ _ _ _ ?_)
          refine Xx.dropB bv (Xx.dropB bf ?_)
          have hsl : (l ++ recF (ls + 1) (fr.take (i + 1))).length = (l ++ recF (ls + 1) (fr.take i)).length + 1 := by rw [hsn, List.length_append]; rfl
          refine Cx.region ?_
          refine Lx.y (Yx.val (add rfl rfl (by first | exact wrap64 (by omega) (by omega) | rfl)) (show _ = i64 ((i + 1 : Nat) : Int) from rfl)) rfl ?_
          refine Lx.y (mv rfl) rfl ?_
          refine Lx.nil ?_
          exact Xx.againK ⟨i + 1, A2, c2, hlt, rfl, rfl, rfl, (by rw [hsl, hsn])⟩ (by omega) (Sub.cons (s := 57) rfl (Sub.cons (s := 0) rfl (Sub.cons (s := 1) rfl (Sub.cons (s := 6) rfl (Sub.cons (s := 7) rfl (Sub.cons (s := 8) rfl (Sub.cons (s := 9) rfl (Sub.cons (s := 10) rfl (Sub.cons (s := 13) rfl (Sub.cons (s := 14) rfl (Sub.cons (s := 15) rfl (Sub.cons (s := 16) rfl (Sub.cons (s := 17) rfl (Sub.cons (s := 18) rfl (Sub.cons (s := 19) rfl (Sub.cons (s := 20) rfl (Sub.cons (s := 21) rfl (Sub.cons (s := 22) rfl (Sub.cons (s := 23) rfl (Sub.cons (s := 24) rfl (Sub.cons (s := 25) rfl (Sub.cons (s := 26) rfl (Sub.cons (s := 27) rfl (Sub.cons (s := 28) rfl (Sub.cons (s := 29) rfl (Sub.cons (s := 30) rfl (Sub.cons (s := 31) rfl (Sub.cons (s := 32) rfl (Sub.cons (s := 33) rfl (Sub.cons (s := 34) rfl (Sub.cons (s := 35) rfl (Sub.cons (s := 36) rfl (Sub.cons (s := 38) rfl (Sub.cons (s := 39) rfl (Sub.cons (s := 40) rfl (Sub.cons (s := 41) rfl (Sub.cons (s := 42) rfl (Sub.cons (s := 43) rfl (Sub.cons (s := 44) rfl (Sub.cons (s := 45) rfl (Sub.cons (s := 46) rfl (Sub.cons (s := 47) rfl (Sub.cons (s := 48) rfl (Sub.cons (s := 49) rfl (Sub.cons (s := 50) rfl (Sub.cons (s := 51) rfl (Sub.cons (s := 52) rfl (Sub.cons (s := 53) rfl (Sub.cons (s := 54) rfl (Sub.cons (s := 55) rfl (Sub.cons (s := 56) rfl (Sub.nil _))))))))))))))))))))))))))))))))))))))))))))))))))))
        · skip
          have hge := h22
          obtain rfl : i = fr.length := by omega
          rw [List.take_length]
          refine Cx.exit ?_
          refine Xx.te ?_
          refine Xx.te ?_
          refine Xx.bh ?_
          refine Xx.tn (k18 _ _ _ _ ?_)
          refine Cx.seq (fun K25 k25 => ?_)
          refine Cx.region ?_
          refine Lx.y (mv rfl) rfl ?_
          refine Lx.y (mv rfl) rfl ?_
          refine Lx.y (lenS Try.underlying9 rfl) rfl ?_
          refine Lx.y (lss rfl rfl) rfl ?_
          refine Lx.nil ?_
          refine Xx.tn (k25 _ _ _ _ ?_)
          refine Cx.condD rfl (fun h26 => ?_) (fun h26 => ?_)
          · skip
            have hend := h26
            have hfin : (openF d.abs.fs (d.abs.fs.length + 1) ([], 0, 0)) = (l ++ recF (ls + 1) fr, ls + 1, f.m.now.length) := by rw [← hst]; unfold openF; rw [hsome]; simp only [← hfr]; rw [if_pos (by omega)]
            refine Cx.seq (fun K27 k27 => ?_)
            refine Cx.region ?_
            refine Lx.y (mv rfl) rfl ?_
            refine Lx.y (asg rfl) rfl ?_
            refine Lx.y (asg rfl) rfl ?_
            refine Lx.nil ?_
            refine Xx.tn (k27 _ _ _ _ ?_)
            refine Cx.ret ?_
            refine Xx.br ?_
            refine Xx.tr ?_
            refine Xx.br ?_
            exact Xx.ret2 rfl rfl rfl ⟨jb, A, c, rfl, rfl⟩ hBle3 (by rw [hfin]; unfold jnH jcs; ac_rfl)
          · skip
            have hend := h26
            have hst2 : openF d.abs.fs n (l ++ recF (ls + 1) fr, ls + 1, f.m.now.length) = (openF d.abs.fs (d.abs.fs.length + 1) ([], 0, 0)) := by rw [← hst]; conv => rhs; unfold openF; rw [hsome]; simp only [← hfr]; rw [if_neg (by omega)]
            refine Cx.skip ?_
            refine Xx.bn ?_
            exact Xx.againK ⟨n, ls + 1, f.m.now.length, l ++ recF (ls + 1) fr, A, c, _, ⟨hst2, by omega, hrun2, by rw [List.length_append, recF_len]; omega, hBle3⟩, rfl, rfl, rfl, rfl⟩ (by omega) (Sub.cons (s := 0) rfl (Sub.cons (s := 1) rfl (Sub.cons (s := 6) rfl (Sub.cons (s := 13) rfl (Sub.cons (s := 14) rfl (Sub.cons (s := 15) rfl (Sub.cons (s := 16) rfl (Sub.cons (s := 17) rfl (Sub.cons (s := 18) rfl (Sub.cons (s := 19) rfl (Sub.cons (s := 20) rfl (Sub.cons (s := 21) rfl (Sub.cons (s := 22) rfl (Sub.cons (s := 23) rfl (Sub.cons (s := 24) rfl (Sub.nil _))))))))))))))))
end Jn2
end Go.Proofs.Ytgcebieihmlaoaa

/-
  Records are added to a journal: the walk.
-/
namespace Go.Proofs.Ytgcebieihmlaoaa
open Go.SL Go.RowKit
set_option linter.unusedVariables false
set_option linter.unusedSimpArgs false
set_option maxRecDepth 100000
open DkA DkB DkC DkD DkE DkF DkG DkH DkI DkJ DkK DkL DkM DkN Fr1 Jn1 Jn2
namespace Jn3
theorem sz3 : (Try.prog.info? 3).map (·.size) = some 1 := by kernel_rfl
theorem sz4 : (Try.prog.info? 4).map (·.size) = some 1 := by kernel_rfl
theorem sz9 : (Try.prog.info? 9).map (·.size) = some 1 := by kernel_rfl
theorem sz74 : (Try.prog.info? 74).map (·.size) = some 4 := by kernel_rfl
theorem sz113 : (Try.prog.info? 113).map (·.size) = some 1 := by kernel_rfl
theorem sz115 : (Try.prog.info? 115).map (·.size) = some 5 := by kernel_rfl
theorem sz122 : (Try.prog.info? 122).map (·.size) = some 2 := by kernel_rfl
theorem ti5 : TI Try.prog 5 [.int .u8 0] 1 1 := TI.of (by kernel_rfl) rfl rfl
theorem ti74 : TI Try.prog 74 [.int .i64 0, .int .i64 0, str [], .bool false] 4 40 := TI.of (by kernel_rfl) rfl rfl
theorem ti115 : TI Try.prog 115 [.pointer none, .int .i64 0, .int .i64 0, .int .i64 0, .slice none 0 0] 5 56 := TI.of (by kernel_rfl) rfl rfl
theorem ti122 : TI Try.prog 122 [.pointer none, .slice none 0 0] 2 32 := TI.of (by kernel_rfl) rfl rfl
theorem fo74_1 : FO Try.prog 74 1 1 1 false := FO.of Try.underlying74 rfl rfl (by kernel_rfl) Try.underlying3 rfl rfl
theorem fo115_0 : FO Try.prog 115 0 0 1 false := FO.of Try.underlying115 rfl rfl (by kernel_rfl) Try.underlying26 rfl rfl
theorem fo115_1 : FO Try.prog 115 1 1 1 false := FO.of Try.underlying115 rfl rfl (by kernel_rfl) Try.underlying3 rfl rfl
theorem fo115_2 : FO Try.prog 115 2 2 1 false := FO.of Try.underlying115 rfl rfl (by kernel_rfl) Try.underlying3 rfl rfl
theorem fo115_3 : FO Try.prog 115 3 3 1 false := FO.of Try.underlying115 rfl rfl (by kernel_rfl) Try.underlying3 rfl rfl
theorem fo115_4 : FO Try.prog 115 4 4 1 false := FO.of Try.underlying115 rfl rfl (by kernel_rfl) Try.underlying113 rfl rfl
theorem pl74 : PL Try.prog 74 [(0, 1), (1, 1), (2, 1), (3, 1)] := PL.of Try.underlying74 (by kernel_rfl)

/-- frames one behind the other -/
def allF (bodies : List (List UInt8)) : List UInt8 := (bodies.map fun s => headL s ++ s).flatten
theorem allF_snoc (xs : List (List UInt8)) (s : List UInt8) : allF (xs ++ [s]) = allF xs ++ (headL s ++ s) := by simp [allF]
theorem allF_len_take (xs : List (List UInt8)) (i : Nat) : (allF (xs.take i)).length ≤ (allF xs).length := by
  conv => rhs; rw [← List.take_append_drop i xs]
  unfold allF
  rw [List.map_append, List.flatten_append, List.length_append]; omega
def fileOf (j : Jn) : Nat := max j.last 1 + if j.most ≤ (j.long : Int) then 1 else 0
def recsAt (file a : Nat) : List (List UInt8) → List Rc
  | [] => []
  | s :: ss => ⟨file, a + 12, s, true⟩ :: recsAt file (a + 12 + s.length) ss
theorem headL_len' (l : List UInt8) : (headL l).length = 12 := headL_len l
theorem recsAt_snoc (file : Nat) : ∀ (xs : List (List UInt8)) (a : Nat) (s : List UInt8), recsAt file a (xs ++ [s]) = recsAt file a xs ++ [(⟨file, a + (allF xs).length + 12, s, true⟩ : Rc)] := by
  intro xs
  induction xs with
  | nil => intro a s; rfl
  | cons x xs ih =>
    intro a s
    rw [List.cons_append]
    simp only [recsAt]
    rw [ih, List.cons_append]
    have : (allF (x :: xs)).length = 12 + x.length + (allF xs).length := by
      show ((headL x ++ x) ++ allF xs).length = _
      rw [List.length_append, List.length_append, headL_len]
    rw [this, show a + (12 + x.length + (allF xs).length) + 12 = a + 12 + x.length + (allF xs).length + 12 by omega]
theorem recsAt_len (file : Nat) : ∀ (xs : List (List UInt8)) (a : Nat), (recsAt file a xs).length = xs.length := by
  intro xs
  induction xs with
  | nil => intro a; rfl
  | cons x xs ih => intro a; simp [recsAt, ih]
def shR (a : Nat) (r : Rc) : Rc := { r with at_ := r.at_ + a }
theorem recsAt_sh (file : Nat) : ∀ (xs : List (List UInt8)) (a b : Nat), (recsAt file b xs).map (shR a) = recsAt file (b + a) xs := by
  intro xs
  induction xs with
  | nil => intro a b; rfl
  | cons x xs ih =>
    intro a b
    simp only [recsAt, List.map_cons, ih]
    congr 1
    · unfold shR; simp only; congr 1; omega
    · rw [show b + 12 + x.length + a = b + a + 12 + x.length by omega]
/-- the first i records at their places in the file, the others at those in the text -/
def mixF (a : Nat) (l : List Rc) (i : Nat) : List Rc := (l.take i).map (shR a) ++ l.drop i
theorem mix_len (a : Nat) (l : List Rc) (i : Nat) : (mixF a l i).length = l.length := by
  unfold mixF; rw [List.length_append, List.length_map, List.length_take, List.length_drop]; omega
theorem mix_at (a : Nat) (l : List Rc) {i : Nat} (h : i < l.length) : (mixF a l i)[i]'(by rw [mix_len]; exact h) = l[i] := by
  unfold mixF
  rw [List.getElem_append_right (by rw [List.length_map, List.length_take]; omega)]
  simp [List.length_take, Nat.min_eq_left (Nat.le_of_lt h)]
theorem mix_set (a : Nat) (l : List Rc) {i : Nat} (h : i < l.length) : (mixF a l i).set i (shR a l[i]) = mixF a l (i + 1) := by
  unfold mixF
  rw [List.set_append_right _ _ (by rw [List.length_map, List.length_take]; omega), List.length_map, List.length_take, Nat.min_eq_left (Nat.le_of_lt h), Nat.sub_self, List.take_succ_eq_append_getElem h, List.map_append, List.append_assoc]
  congr 1
  rw [List.drop_eq_getElem_cons h]; rfl
theorem rcc_set : ∀ (l : List Rc) (i : Nat) (h : i < l.length) (v : Nat), (l.flatMap rcc).set (i * 4 + 1) (i64 (v : Int)) = (l.set i { l[i] with at_ := v }).flatMap rcc := by
  intro l
  induction l with
  | nil => intro i h; simp at h
  | cons x l ih =>
    intro i h v
    cases i with
    | zero => rfl
    | succ i =>
      have h' : i < l.length := by simpa using h
      rw [List.flatMap_cons, List.set_cons_succ, List.flatMap_cons, List.getElem_cons_succ, ← ih i h' v, List.set_append_right _ _ (by rw [rcc_len]; omega), rcc_len, show (i + 1) * 4 + 1 - 4 = i * 4 + 1 by omega]
theorem mix_all (a : Nat) (l : List Rc) : mixF a l l.length = l.map (shR a) := by unfold mixF; simp
theorem rcc_at (l : List Rc) {i : Nat} (h : i < l.length) : (l.flatMap rcc)[i * 4 + 1]? = some (i64 ((l[i].at_ : Nat) : Int)) := by
  have h1 := DkF.flatG_at rcc_len i l h
  have h2 : ((l.flatMap rcc).drop (i * 4))[1]? = some (i64 ((l[i].at_ : Nat) : Int)) := by
    have h3 : (((l.flatMap rcc).drop (i * 4)).take 4)[1]? = some (i64 ((l[i].at_ : Nat) : Int)) := by rw [h1]; rfl
    rwa [List.getElem?_take_of_lt (by decide)] at h3
  rwa [List.getElem?_drop] at h2
theorem append_at {D : Dm} {n : Int} {s : List UInt8} (h : (appendD D n s).2.2 = 0) : (appendD D n s).2.1 = (((fileM n D.fs).now.length : Nat) : Int) := by
  unfold appendD at h ⊢
  split at h
  · cases h
  · rename_i h1
    rw [if_neg h1]
    split at h
    · cases h
    · rename_i h2
      rw [if_neg h2]
      split at h
      · cases h
      · rename_i h3
        rw [if_neg h3]
        split at h
        · cases h
        · rename_i h4
          rw [if_neg h4]
/-- what adding does to the disk: the disk behind it, the error -/
def addD (D : Dm) (file : Nat) (all : List UInt8) : Dm × Int :=
  if (appendD D (file : Int) all).2.2 ≠ 0 then ((appendD D (file : Int) all).1, (appendD D (file : Int) all).2.2)
  else syncD (appendD D (file : Int) all).1 (file : Int)
theorem max_val (n : Nat) : (if (1 : Int) > (n : Int) then (1 : Int) else (n : Int)) = ((max n 1 : Nat) : Int) := by split <;> omega

theorem rec_bound (file : Nat) : ∀ (xs : List (List UInt8)) (a i : Nat) (h : i < (recsAt file a xs).length), (recsAt file a xs)[i].at_ ≤ a + (allF xs).length := by
  intro xs
  induction xs with
  | nil => intro a i h; simp [recsAt] at h
  | cons x xs ih =>
    intro a i h
    have hl : (allF (x :: xs)).length = 12 + x.length + (allF xs).length := by
      show ((headL x ++ x) ++ allF xs).length = _
      rw [List.length_append, List.length_append, headL_len]
    rw [hl]
    cases i with
    | zero => show a + 12 ≤ _; omega
    | succ i =>
      have := ih (a + 12 + x.length) i (by simpa [recsAt] using h)
      show ((recsAt file (a + 12 + x.length) xs)[i]'(by simpa [recsAt] using h)).at_ ≤ _
      omega

set_option maxHeartbeats 8000000 in
theorem JAdd_ct (jb : Nat) (j : Jn) (d : Dk) (bodies : List (List UInt8)) (Ab : Option Addr) (cb K L C : Nat) (B : Frag) (hRb : RoS B 1 Ab bodies.length (bodies.map str)) (hc : DkN.Calm K L C d.abs) (hK : K ≤ 900000) (hL : L ≤ 10000000000) (hC : C ≤ 1000000000) (hbs : ∀ s ∈ bodies, s.length ≤ 65536) (hall : (allF bodies).length ≤ 10000000000) (hbl : bodies.length ≤ 1000000) (hjl : j.l.length ≤ 1000000000) (hjf : j.last ≤ 1000000000) : Ct Try.prog 38 [.pointer (some ⟨jb, 0, none⟩), .slice Ab bodies.length cb] B (jnH jb j * dkH j.db d) (fun v B' H' => ∃ d' : Dk, d'.abs = (addD d.abs (fileOf j) (allF bodies)).1 ∧ (((addD d.abs (fileOf j) (allF bodies)).2 ≠ 0 ∧ v = .tuple #[i64 0, i64 (addD d.abs (fileOf j) (allF bodies)).2] ∧ H' = jnH jb j * dkH j.db d') ∨ ((addD d.abs (fileOf j) (allF bodies)).2 = 0 ∧ v = .tuple #[i64 (j.l.length : Int), i64 0] ∧ ∃ Al cl, H' = jnH jb { j with last := fileOf j, long := (fileM ((fileOf j : Nat) : Int) d.abs.fs).now.length + (allF bodies).length, l := j.l ++ recsAt (fileOf j) (fileM ((fileOf j : Nat) : Int) d.abs.fs).now.length bodies, Al := Al, cl := cl } * dkH j.db d'))) := by
  have hF := hc.fit (by omega) (by omega) (by omega)
  have hc1 := hc.append ((fileOf j : Nat) : Int) (allF bodies)
  have hF1 := hc1.fit (by omega) (by omega) (by omega)
  have hnow := (hc.file ((fileOf j : Nat) : Int)).2.2.1
  have hfo : fileOf j ≤ 1000000002 := by unfold fileOf; split <;> omega
  refine Ct.of_body Try.func38 rfl (nt := 123) rfl (by kernel_rfl) rfl ?_
  intro N0 w0 R
  unfold jnH
  simp only [star_assoc]
  refine Cx.seq (fun K1 k1 => ?_)
  refine Cx.region ?_
  refine Lx.y (asg rfl) rfl ?_
  refine Lx.y (asg rfl) rfl ?_
  refine Lx.nil ?_
  refine Xx.tn (k1 _ _ _ _ ?_)
  refine Cx.seq (fun K2 k2 => ?_)
  refine Cx.seq (fun K3 k3 => ?_)
  refine Cx.region ?_
  refine Lx.y (mv rfl) rfl ?_
  refine Lx.y (Yx.ff (eqNilP Try.underlying70 rfl rfl) rfl) rfl ?_
  refine Lx.nil ?_
  refine Xx.tn (k3 _ _ _ _ ?_)
  refine Cx.condF rfl ?_
  refine Cx.skip ?_
  refine Xx.tn (k2 _ _ _ _ ?_)
  refine Cx.seq (fun K4 k4 => ?_)
  refine Cx.region ?_
  refine Lx.y (mv rfl) rfl ?_
  refine Lx.y (nilc rfl) rfl ?_
  refine Lx.y (fa' fo115_2 rfl) rfl ?_
  refine Lx.y (ld Try.underlying3 rfl rfl rfl) rfl ?_
  refine Lx.y (Yx.val (maxI rfl rfl) (show _ = i64 ((max j.last 1 : Nat) : Int) from by rw [max_val])) rfl ?_
  refine Lx.y (asg rfl) rfl ?_
  refine Lx.nil ?_
  refine Xx.tn (k4 _ _ _ _ ?_)
  refine Cx.cutK (ds' := []) (Sub.cons (s := 0) rfl (Sub.cons (s := 1) rfl (Sub.cons (s := 4) rfl (Sub.cons (s := 5) rfl (Sub.cons (s := 18) rfl (Sub.cons (s := 19) rfl (Sub.cons (s := 20) rfl (Sub.cons (s := 21) rfl (Sub.cons (s := 22) rfl (Sub.cons (s := 23) rfl (Sub.cons (s := 24) rfl (Sub.nil _)))))))))))) (fun ρ' B' H' => ρ' = [(6, i64 ((fileOf j : Nat) : Int))] ∧ B = B' ∧ row jb 115 (jcs j) * (sbuf 74 4 j.Al j.l.length j.cl (j.l.flatMap rcc) * (dkH j.db d * R)) = H') ?_ ?_
  · skip
    refine Cx.seq (fun K5 k5 => ?_)
    refine Cx.drawn (by kernel_rfl) ?_
    refine Dx.p (i := 0) rfl (by kernel_rfl) (mv rfl) rfl ?_
    refine Dx.p (i := 1) rfl (by kernel_rfl) (nilc rfl) rfl ?_
    refine Dx.p (i := 2) rfl (by kernel_rfl) (fa' fo115_3 rfl) rfl ?_
    refine Dx.r (i := 3) rfl (by kernel_rfl) (ld Try.underlying3 rfl rfl rfl) rfl ?_
    refine Dx.p (i := 4) rfl (by kernel_rfl) (mv rfl) rfl ?_
    refine Dx.p (i := 5) rfl (by kernel_rfl) (nilc rfl) rfl ?_
    refine Dx.p (i := 6) rfl (by kernel_rfl) (fa' fo115_1 rfl) rfl ?_
    refine Dx.r (i := 7) rfl (by kernel_rfl) (ld Try.underlying3 rfl rfl rfl) rfl ?_
    refine Dx.p (i := 8) rfl (by kernel_rfl) (geq rfl rfl) rfl ?_
    refine Dx.done (by kernel_rfl) ?_
    refine Xx.tn (k5 _ _ _ _ ?_)
    refine Cx.condD rfl (fun h6 => ?_) (fun h6 => ?_)
    · skip
      have hm := h6
      have hfile : fileOf j = max j.last 1 + 1 := by unfold fileOf; rw [if_pos hm]
      refine Cx.region ?_
      refine Lx.y (mv rfl) rfl ?_
      refine Lx.y (Yx.val (add rfl rfl (by first | exact wrap64 (by omega) (by omega) | rfl)) (show _ = i64 ((fileOf j : Nat) : Int) from by rw [hfile]; rfl)) rfl ?_
      refine Lx.y (asg rfl) rfl ?_
      refine Lx.nil ?_
      exact Xx.mkK (⟨rfl, rfl, by ac_rfl⟩) (Sub.cons (s := 6) rfl (Sub.cons (s := 0) rfl (Sub.cons (s := 1) rfl (Sub.cons (s := 4) rfl (Sub.cons (s := 5) rfl (Sub.cons (s := 18) rfl (Sub.cons (s := 19) rfl (Sub.cons (s := 20) rfl (Sub.cons (s := 21) rfl (Sub.cons (s := 22) rfl (Sub.cons (s := 23) rfl (Sub.cons (s := 24) rfl (Sub.nil _)))))))))))))
    · skip
      have hm := h6
      have hfile : fileOf j = max j.last 1 := by unfold fileOf; rw [if_neg hm]; rfl
      refine Cx.skip ?_
      exact Xx.mkK (⟨rfl, rfl, by ac_rfl⟩) (Sub.consE (s := 6) rfl (by rw [hfile]) (Sub.cons (s := 0) rfl (Sub.cons (s := 1) rfl (Sub.cons (s := 4) rfl (Sub.cons (s := 5) rfl (Sub.cons (s := 18) rfl (Sub.cons (s := 19) rfl (Sub.cons (s := 20) rfl (Sub.cons (s := 21) rfl (Sub.cons (s := 22) rfl (Sub.cons (s := 23) rfl (Sub.cons (s := 24) rfl (Sub.nil _)))))))))))))
  · rintro ρ' B' H' ⟨rfl, rfl, rfl⟩
    refine Cx.seq (fun K7 k7 => ?_)
    refine Cx.region ?_
    refine Lx.new (allocO ti122) rfl (fun b7 => ?_)
    refine Lx.nil ?_
    refine Xx.tn (k7 _ _ _ _ ?_)
    refine Cx.seq (fun K8 k8 => ?_)
    refine Cx.region ?_
    refine Lx.y (asg rfl) rfl ?_
    refine Lx.nil ?_
    refine Xx.tn (k8 _ _ _ _ ?_)
    refine Cx.seq (fun K9 k9 => ?_)
    refine Cx.seq (fun K10 k10 => ?_)
    refine Cx.region ?_
    refine Lx.y (mv rfl) rfl ?_
    refine Lx.y (lenV (ty' := 0) Try.underlying62 rfl) rfl ?_
    refine Lx.y (mv rfl) rfl ?_
    refine Lx.nil ?_
    refine Xx.tn (k10 _ _ _ _ ?_)
    refine Cx.block ?_
    refine Cx.loopK (Sub.cons (s := 0) rfl (Sub.cons (s := 1) rfl (Sub.cons (s := 6) rfl (Sub.cons (s := 7) rfl (Sub.cons (s := 18) rfl (Sub.cons (s := 19) rfl (Sub.cons (s := 20) rfl (Sub.cons (s := 21) rfl (Sub.cons (s := 22) rfl (Sub.cons (s := 23) rfl (Sub.cons (s := 24) rfl (Sub.cons (s := 36) rfl (Sub.cons (s := 37) rfl (Sub.nil _)))))))))))))) (fun m ρ' B' H' => ∃ (i : Nat) (u : Bool) (A3 : Option Addr) (c3 : Nat) (A : Option Addr) (c : Nat), (i ≤ bodies.length ∧ (A3 = none ∨ c3 ≠ 0)) ∧ m = bodies.length - i ∧ ρ' = [(8, .slice A i c), (38, i64 (i : Int))] ∧ B = B' ∧ row jb 115 (jcs j) * (sbuf 74 4 j.Al j.l.length j.cl (j.l.flatMap rcc) * (dkH j.db d * (row b7 122 (bcell b7 u A3 (allF (bodies.take i)).length c3) * (sbuf 5 1 A3 (allF (bodies.take i)).length c3 (u8s (allF (bodies.take i))) * (sbuf 74 4 A i c ((recsAt (fileOf j) 0 (bodies.take i)).flatMap rcc) * R))))) = H') ⟨0, false, none, 0, none, 0, ⟨Nat.zero_le _, .inl rfl⟩, rfl, rfl, rfl, by rw [List.take_zero]; show _ = row b7 _ (bcell b7 false none 0 0) * _; rw [show allF [] = [] from rfl, show recsAt (fileOf j) 0 [] = [] from rfl, show u8s [] = [] from rfl, List.length_nil, List.flatMap_nil, sbuf_nil, sbuf_nil, one_star, one_star]; ac_rfl⟩ (Sub.cons (s := 8) rfl (Sub.cons (s := 38) rfl (Sub.cons (s := 0) rfl (Sub.cons (s := 1) rfl (Sub.cons (s := 6) rfl (Sub.cons (s := 7) rfl (Sub.cons (s := 18) rfl (Sub.cons (s := 19) rfl (Sub.cons (s := 20) rfl (Sub.cons (s := 21) rfl (Sub.cons (s := 22) rfl (Sub.cons (s := 23) rfl (Sub.cons (s := 24) rfl (Sub.cons (s := 36) rfl (Sub.cons (s := 37) rfl (Sub.nil _)))))))))))))))) ?_
    rintro m ρ' B' H' ⟨i, u, A3, c3, A, c, ⟨hi, hz⟩, rfl, rfl, rfl, rfl⟩
    refine Cx.seq (fun K11 k11 => ?_)
    refine Cx.region ?_
    refine Lx.y (lss rfl rfl) rfl ?_
    refine Lx.nil ?_
    refine Xx.tn (k11 _ _ _ _ ?_)
    refine Cx.seq (fun K12 k12 => ?_)
    refine Cx.condD rfl (fun h13 => ?_) (fun h13 => ?_)
    · skip
      have hlt := h13
      have hlt : i < bodies.length := by omega
      obtain ⟨b0, o0, cs0, et0, fz0, hA0, hB0, hv0⟩ := hRb.at1 hlt
      obtain ⟨s, hs⟩ : ∃ s, s = bodies[i] := ⟨_, rfl⟩
      rw [List.getElem?_map, List.getElem?_eq_getElem hlt, ← hs] at hv0
      have hsl : s.length ≤ 65536 := by rw [hs]; exact hbs _ (List.getElem_mem hlt)
      have hat : (allF (bodies.take i)) ++ (headL s ++ s) = (allF (bodies.take (i + 1))) := by rw [List.take_succ_eq_append_getElem hlt, allF_snoc, hs]
      have hrt : (recsAt (fileOf j) 0 (bodies.take (i + 1))) = (recsAt (fileOf j) 0 (bodies.take i)) ++ [(⟨fileOf j, (allF (bodies.take i)).length + 12, s, true⟩ : Rc)] := by rw [List.take_succ_eq_append_getElem hlt, recsAt_snoc, Nat.zero_add, hs]
      have hal := allF_len_take bodies i
      have hal2 := allF_len_take bodies (i + 1)
      rw [← hat, List.length_append, List.length_append, headL_len] at hal2
      refine Cx.skip ?_
      refine Xx.tn (k12 _ _ _ _ ?_)
      refine Cx.seq (fun K14 k14 => ?_)
      refine Cx.block ?_
      refine Cx.seq (fun K15 k15 => ?_)
      refine Cx.region ?_
      refine Lx.y (Yx.val (ia (b := b0) (o := o0) Try.underlying62 sz9 (by rw [← hA0]; rfl) rfl (Int.toNat_natCast _) (by omega) (by omega)) rfl) rfl ?_
      refine Lx.y (ldB Try.underlying9 rfl rfl hB0 hv0) rfl ?_
      refine Lx.y (asg rfl) rfl ?_
      refine Lx.nil ?_
      refine Xx.tn (k15 _ _ _ _ ?_)
      refine Cx.seq (fun K16 k16 => ?_)
      refine Cx.region ?_
      refine Lx.y (mv rfl) rfl ?_
      refine Lx.cp rfl rfl rfl (Fr7.MakeY_ct s _ hsl) rfl ?_
      refine Lx.y (mv rfl) rfl ?_
      refine Lx.y (ext rfl rfl) rfl ?_
      refine Lx.y (ext rfl rfl) rfl ?_
      refine Lx.y (asg rfl) rfl ?_
      refine Lx.y (asg rfl) rfl ?_
      refine Lx.nil ?_
      refine Xx.tn (k16 _ _ _ _ ?_)
      refine Cx.seq (fun K17 k17 => ?_)
      refine Cx.seq (fun K18 k18 => ?_)
      refine Cx.region ?_
      refine Lx.y (mv rfl) rfl ?_
      refine Lx.y (Yx.ff (neI rfl rfl) rfl) rfl ?_
      refine Lx.nil ?_
      refine Xx.tn (k18 _ _ _ _ ?_)
      refine Cx.condF rfl ?_
      refine Cx.skip ?_
      refine Xx.tn (k17 _ _ _ _ ?_)
      refine Cx.seq (fun K19 k19 => ?_)
      refine Cx.region ?_
      refine Lx.y (mv rfl) rfl ?_
      refine Lx.y (mv rfl) rfl ?_
      refine Lx.co rfl rfl rfl (BLen_ct b7 u A3 (allF (bodies.take i)).length c3 _) (PickB.eq) rfl ?_
      refine Lx.y (Yx.val (add rfl rfl (by first | exact wrap64 (by omega) (by omega) | rfl)) (show _ = i64 (((allF (bodies.take i)).length + 12 : Nat) : Int) from rfl)) rfl ?_
      refine Lx.y (mv rfl) rfl ?_
      refine Lx.y (bld ti74 pl74 rfl rfl) rfl ?_
      refine Lx.bsl (bslA Try.underlying113 ti74 rfl rfl (by decide)) rfl (fun bv => ?_)
      refine Lx.o (appN (et := 74) (A := A) (i + 1) (rcc ⟨fileOf j, (allF (bodies.take i)).length + 12, s, true⟩) ((recsAt (fileOf j) 0 (bodies.take (i + 1))).flatMap rcc) Try.underlying113 Try.underlying113 ti74 rfl rfl rfl rfl rfl (by omega) (by omega) rfl (by rw [hrt]; simp only [List.flatMap_append, List.flatMap_cons, List.flatMap_nil, List.append_nil])) rfl (fun v B' H' hΦ hB => ?_)
      obtain ⟨A2, c2, rfl, hA2, hl2, hc2, hBB, rfl⟩ := hΦ
      have hBB2 := hBB.symm
      subst hBB2
      refine Xx.dropB bv ?_
      clear hB
      refine Lx.y (asg rfl) rfl ?_
      refine Lx.nil ?_
      refine Xx.tn (k19 _ _ _ _ ?_)
      refine Cx.region ?_
      refine Lx.y (mv rfl) rfl ?_
      refine Lx.c rfl rfl rfl (BWrite_ct b7 u A3 (allF (bodies.take i)) (headL s ++ s) c3 _ (by rw [List.length_append, headL_len]; omega)) (pickTwo) rfl ?_
      rintro v4 B4 H4 ⟨hBB, rfl, A4, c4, hc4, rfl⟩ hB4
      have hBB2 := hBB.symm
      subst hBB2
      clear hB4
      simp only [star_assoc]
      refine Lx.nil ?_
      refine Xx.bn ?_
      refine Xx.tn (k14 _ _ _ _ ?_)
      refine Cx.region ?_
      refine Lx.y (Yx.val (add rfl rfl (by first | exact wrap64 (by omega) (by omega) | rfl)) (show _ = i64 ((i + 1 : Nat) : Int) from rfl)) rfl ?_
      refine Lx.y (mv rfl) rfl ?_
      refine Lx.nil ?_
      exact Xx.againK ⟨i + 1, true, A4, c4, A2, c2, ⟨hlt, .inr (hc4 (by rw [List.length_append, List.length_append, headL_len]; omega))⟩, rfl, rfl, rfl, (by rw [hrt, ← hat]; ac_rfl)⟩ (by omega) (Sub.cons (s := 8) rfl (Sub.cons (s := 38) rfl (Sub.cons (s := 0) rfl (Sub.cons (s := 1) rfl (Sub.cons (s := 6) rfl (Sub.cons (s := 7) rfl (Sub.cons (s := 18) rfl (Sub.cons (s := 19) rfl (Sub.cons (s := 20) rfl (Sub.cons (s := 21) rfl (Sub.cons (s := 22) rfl (Sub.cons (s := 23) rfl (Sub.cons (s := 24) rfl (Sub.cons (s := 36) rfl (Sub.cons (s := 37) rfl (Sub.nil _))))))))))))))))
    · skip
      have hge := h13
      obtain rfl : i = bodies.length := by omega
      rw [List.take_length]
      refine Cx.exit ?_
      refine Xx.te ?_
      refine Xx.te ?_
      refine Xx.bh ?_
      refine Xx.tn (k9 _ _ _ _ ?_)
      refine Cx.seq (fun K20 k20 => ?_)
      refine Cx.drawn (by kernel_rfl) ?_
      refine Dx.p (i := 0) rfl (by kernel_rfl) (mv rfl) rfl ?_
      refine Dx.p (i := 1) rfl (by kernel_rfl) (nilc rfl) rfl ?_
      refine Dx.p (i := 2) rfl (by kernel_rfl) (fa' fo115_0 rfl) rfl ?_
      refine Dx.r (i := 3) rfl (by kernel_rfl) (ld Try.underlying26 rfl rfl rfl) rfl ?_
      refine Dx.p (i := 4) rfl (by kernel_rfl) (mv rfl) rfl ?_
      refine Dx.one (i := 5) (by kernel_rfl) ?_
      refine Dstep.o (i := 5) rfl (Ox.co rfl rfl rfl (BString_ct b7 u A3 (allF bodies) c3 _ hz (by omega)) (pickTwo)) rfl (fun v B' H' hΦ hB => ?_)
      obtain ⟨rfl, hBB, rfl⟩ := hΦ; have hBB2 := hBB.symm; subst hBB2; clear hB
      refine ⟨JOk.yes (JOk.top) (ld Try.underlying26 rfl rfl rfl), ?_⟩
      refine Dx.one (i := 6) (by kernel_rfl) ?_
      refine Dstep.o (i := 6) rfl (Ox.call rfl rfl rfl (Append_ct d j.db ((fileOf j : Nat) : Int) (allF bodies) _ hF (by omega)) (Pick.eq)) rfl (fun v B' H' hΦ hB => ?_)
      obtain ⟨_, rfl, hΦ⟩ := hΦ
      obtain ⟨rfl, d1, hd1, rfl⟩ := hΦ
      have hB2 := hB
      refine ⟨JOk.edge (JOk.top) (by kernel_rfl), ?_⟩
      refine Dx.p (i := 7) rfl (by kernel_rfl) (mv rfl) rfl ?_
      refine Dx.p (i := 8) rfl (by kernel_rfl) (ext rfl rfl) rfl ?_
      refine Dx.p (i := 9) rfl (by kernel_rfl) (ext rfl rfl) rfl ?_
      refine Dx.p (i := 10) rfl (by kernel_rfl) (asg rfl) rfl ?_
      refine Dx.p (i := 11) rfl (by kernel_rfl) (asg rfl) rfl ?_
      refine Dx.done (by kernel_rfl) ?_
      refine Xx.tn (k20 _ _ _ _ ?_)
      refine Cx.seq (fun K21 k21 => ?_)
      refine Cx.seq (fun K22 k22 => ?_)
      refine Cx.region ?_
      refine Lx.y (mv rfl) rfl ?_
      refine Lx.y (neI rfl rfl) rfl ?_
      refine Lx.nil ?_
      refine Xx.tn (k22 _ _ _ _ ?_)
      refine Cx.condN rfl (fun h23 => ?_) (fun h23 => ?_)
      · skip
        have he1 := h23
        have had : addD d.abs (fileOf j) (allF bodies) = ((appendD d.abs ((fileOf j : Nat) : Int) (allF bodies)).1, (appendD d.abs ((fileOf j : Nat) : Int) (allF bodies)).2.2) := by unfold addD; rw [if_pos he1]
        refine Cx.seq (fun K24 k24 => ?_)
        refine Cx.region ?_
        refine Lx.y (mv rfl) rfl ?_
        refine Lx.y (asg rfl) rfl ?_
        refine Lx.y (asg rfl) rfl ?_
        refine Lx.nil ?_
        refine Xx.tn (k24 _ _ _ _ ?_)
        refine Cx.ret ?_
        refine Xx.tr ?_
        refine Xx.dropB b7 (Xx.dropT A ?_)
        exact Xx.ret2 rfl rfl rfl ⟨d1, by rw [had]; exact hd1, .inl ⟨by rw [had]; exact he1, by rw [had]; rfl, rfl⟩⟩ hB2 (by ac_rfl)
      · skip
        have he1 := h23
        have had : addD d.abs (fileOf j) (allF bodies) = syncD (appendD d.abs ((fileOf j : Nat) : Int) (allF bodies)).1 ((fileOf j : Nat) : Int) := by unfold addD; rw [if_neg (fun h => h he1)]
        have hapat := append_at he1
        refine Cx.skip ?_
        refine Xx.tn (k21 _ _ _ _ ?_)
        refine Cx.seq (fun K25 k25 => ?_)
        refine Cx.seq (fun K26 k26 => ?_)
        refine Cx.region ?_
        refine Lx.y (mv rfl) rfl ?_
        refine Lx.y (nilc rfl) rfl ?_
        refine Lx.y (fa' fo115_0 rfl) rfl ?_
        refine Lx.y (ld Try.underlying26 rfl rfl rfl) rfl ?_
        refine Lx.y (mv rfl) rfl ?_
        refine Lx.c rfl rfl rfl (Sync_ct d1 j.db ((fileOf j : Nat) : Int) _ (by rw [hd1]; exact hF1)) (rfl) rfl ?_
        rintro v3 B3 H3 ⟨rfl, d2, hd2, rfl⟩ hB3
        rw [hd1] at hd2 ⊢
        rw [← had] at hd2 ⊢
        refine Lx.y (asg rfl) rfl ?_
        refine Lx.nil ?_
        refine Xx.tn (k26 _ _ _ _ ?_)
        refine Cx.seq (fun K27 k27 => ?_)
        refine Cx.region ?_
        refine Lx.y (mv rfl) rfl ?_
        refine Lx.y (neI rfl rfl) rfl ?_
        refine Lx.nil ?_
        refine Xx.tn (k27 _ _ _ _ ?_)
        refine Cx.condN rfl (fun h28 => ?_) (fun h28 => ?_)
        · skip
          have he2 := h28
          refine Cx.seq (fun K29 k29 => ?_)
          refine Cx.region ?_
          refine Lx.y (mv rfl) rfl ?_
          refine Lx.y (asg rfl) rfl ?_
          refine Lx.y (asg rfl) rfl ?_
          refine Lx.nil ?_
          refine Xx.tn (k29 _ _ _ _ ?_)
          refine Cx.ret ?_
          refine Xx.tr ?_
          refine Xx.dropB b7 (Xx.dropT A ?_)
          exact Xx.ret2 rfl rfl rfl ⟨d2, hd2, .inl ⟨he2, rfl, rfl⟩⟩ (Frag.le_trans hB2 hB3) (by ac_rfl)
        · skip
          have he2 := h28
          refine Cx.skip ?_
          refine Xx.tn (k25 _ _ _ _ ?_)
          refine Cx.seq (fun K30 k30 => ?_)
          refine Cx.seq (fun K31 k31 => ?_)
          refine Cx.region ?_
          refine Lx.y (mv rfl) rfl ?_
          refine Lx.y (lenV (ty' := 0) Try.underlying113 rfl) rfl ?_
          refine Lx.y (mv rfl) rfl ?_
          refine Lx.nil ?_
          refine Xx.tn (k31 _ _ _ _ ?_)
          refine Cx.block ?_
          refine Cx.loopK (Sub.cons (s := 0) rfl (Sub.cons (s := 1) rfl (Sub.cons (s := 6) rfl (Sub.cons (s := 7) rfl (Sub.cons (s := 8) rfl (Sub.cons (s := 13) rfl (Sub.cons (s := 14) rfl (Sub.cons (s := 15) rfl (Sub.cons (s := 18) rfl (Sub.cons (s := 19) rfl (Sub.cons (s := 20) rfl (Sub.cons (s := 21) rfl (Sub.cons (s := 22) rfl (Sub.cons (s := 23) rfl (Sub.cons (s := 24) rfl (Sub.cons (s := 36) rfl (Sub.cons (s := 37) rfl (Sub.cons (s := 38) rfl (Sub.cons (s := 39) rfl (Sub.cons (s := 61) rfl (Sub.cons (s := 62) rfl (Sub.cons (s := 63) rfl (Sub.cons (s := 64) rfl (Sub.cons (s := 65) rfl (Sub.cons (s := 66) rfl (Sub.cons (s := 67) rfl (Sub.cons (s := 68) rfl (Sub.cons (s := 69) rfl (Sub.cons (s := 70) rfl (Sub.cons (s := 71) rfl (Sub.cons (s := 72) rfl (Sub.cons (s := 74) rfl (Sub.cons (s := 75) rfl (Sub.cons (s := 76) rfl (Sub.cons (s := 77) rfl (Sub.cons (s := 78) rfl (Sub.cons (s := 79) rfl (Sub.cons (s := 80) rfl (Sub.cons (s := 81) rfl (Sub.cons (s := 83) rfl (Sub.cons (s := 84) rfl (Sub.nil _)))))))))))))))))))))))))))))))))))))))))) (fun m ρ' B' H' => ∃ (i : Nat), (i ≤ bodies.length) ∧ m = bodies.length - i ∧ ρ' = [(85, i64 (i : Int))] ∧ B3 = B' ∧ row jb 115 (jcs j) * (sbuf 74 4 j.Al j.l.length j.cl (j.l.flatMap rcc) * (dkH j.db d2 * (row b7 122 (bcell b7 u A3 (allF bodies).length c3) * (sbuf 74 4 A bodies.length c ((mixF (fileM ((fileOf j : Nat) : Int) d.abs.fs).now.length (recsAt (fileOf j) 0 bodies) i).flatMap rcc) * R)))) = H') ⟨0, Nat.zero_le _, rfl, rfl, rfl, (by show _ * (_ * (_ * (_ * (sbuf _ 4 A bodies.length c (((recsAt (fileOf j) 0 bodies)).flatMap rcc) * R)))) = _; ac_rfl)⟩ (Sub.cons (s := 85) rfl (Sub.cons (s := 0) rfl (Sub.cons (s := 1) rfl (Sub.cons (s := 6) rfl (Sub.cons (s := 7) rfl (Sub.cons (s := 8) rfl (Sub.cons (s := 13) rfl (Sub.cons (s := 14) rfl (Sub.cons (s := 15) rfl (Sub.cons (s := 18) rfl (Sub.cons (s := 19) rfl (Sub.cons (s := 20) rfl (Sub.cons (s := 21) rfl (Sub.cons (s := 22) rfl (Sub.cons (s := 23) rfl (Sub.cons (s := 24) rfl (Sub.cons (s := 36) rfl (Sub.cons (s := 37) rfl (Sub.cons (s := 38) rfl (Sub.cons (s := 39) rfl (Sub.cons (s := 61) rfl (Sub.cons (s := 62) rfl (Sub.cons (s := 63) rfl (Sub.cons (s := 64) rfl (Sub.cons (s := 65) rfl (Sub.cons (s := 66) rfl (Sub.cons (s := 67) rfl (Sub.cons (s := 68) rfl (Sub.cons (s := 69) rfl (Sub.cons (s := 70) rfl (Sub.cons (s := 71) rfl (Sub.cons (s := 72) rfl (Sub.cons (s := 74) rfl (Sub.cons (s := 75) rfl (Sub.cons (s := 76) rfl (Sub.cons (s := 77) rfl (Sub.cons (s := 78) rfl (Sub.cons (s := 79) rfl (Sub.cons (s := 80) rfl (Sub.cons (s := 81) rfl (Sub.cons (s := 83) rfl (Sub.cons (s := 84) rfl (Sub.nil _))))))))))))))))))))))))))))))))))))))))))) ?_
          rintro m ρ' B' H' ⟨i, hi2, rfl, rfl, rfl, rfl⟩
          refine Cx.seq (fun K32 k32 => ?_)
          refine Cx.region ?_
          refine Lx.y (lss rfl rfl) rfl ?_
          refine Lx.nil ?_
          refine Xx.tn (k32 _ _ _ _ ?_)
          refine Cx.seq (fun K33 k33 => ?_)
          refine Cx.condD rfl (fun h34 => ?_) (fun h34 => ?_)
          · skip
            have hlt := h34
            have hlt : i < bodies.length := by omega
            have hrl : i < (recsAt (fileOf j) 0 bodies).length := by rw [recsAt_len]; exact hlt
            have hml : i < (mixF (fileM ((fileOf j : Nat) : Int) d.abs.fs).now.length (recsAt (fileOf j) 0 bodies) i).length := by rw [mix_len]; exact hrl
            have hra := rec_bound (fileOf j) bodies 0 i hrl
            refine Xx.openT A (by omega) (fun bA sp hA hxl hnc hcl => ?_)
            refine Cx.skip ?_
            refine Xx.tn (k33 _ _ _ _ ?_)
            refine Cx.seq (fun K35 k35 => ?_)
            refine Cx.block ?_
            refine Cx.seq (fun K36 k36 => ?_)
            refine Cx.region ?_
            refine Lx.y (mv rfl) rfl ?_
            refine Lx.y (asg rfl) rfl ?_
            refine Lx.nil ?_
            refine Xx.tn (k36 _ _ _ _ ?_)
            refine Cx.region ?_
            refine Lx.y (Yx.val (mv rfl) (show _ = Value.slice (some ⟨bA, 0, none⟩) bodies.length c from by rw [← hA])) rfl ?_
            refine Lx.y (mv rfl) rfl ?_
            refine Lx.y (ia Try.underlying113 sz74 rfl rfl (Int.toNat_natCast _) (by omega) (by omega)) rfl ?_
            refine Lx.y (fa' fo74_1 rfl) rfl ?_
            refine Lx.y (ld Try.underlying3 rfl rfl (v := i64 (((recsAt (fileOf j) 0 bodies)[i].at_ : Nat) : Int)) (by rw [Nat.zero_add, List.getElem?_append_left (by rw [DkF.flatG_len rcc_len]; omega), rcc_at _ hml, mix_at _ _ hrl])) rfl ?_
            refine Lx.y (Yx.val (mv rfl) (show _ = i64 (((fileM ((fileOf j : Nat) : Int) d.abs.fs).now.length : Nat) : Int) from by rw [hapat]; rfl)) rfl ?_
            refine Lx.y (Yx.val (add rfl rfl (by first | exact wrap64 (by omega) (by omega) | rfl)) (show _ = i64 (((recsAt (fileOf j) 0 bodies)[i].at_ + (fileM ((fileOf j : Nat) : Int) d.abs.fs).now.length : Nat) : Int) from rfl)) rfl ?_
            refine Lx.y (ia Try.underlying113 sz74 rfl rfl (Int.toNat_natCast _) (by omega) (by omega)) rfl ?_
            refine Lx.y (fa' fo74_1 rfl) rfl ?_
            refine Lx.st (stO Try.underlying3 sz3 rfl rfl rfl (by rw [List.length_append, DkF.flatG_len rcc_len]; omega) (frc_gen _ _)) ?_
            refine Lx.nil ?_
            refine Xx.bn ?_
            refine Xx.tn (k35 _ _ _ _ ?_)
            refine Xx.closeT bA ((mixF (fileM ((fileOf j : Nat) : Int) d.abs.fs).now.length (recsAt (fileOf j) 0 bodies) (i + 1)).flatMap rcc) sp 4 bodies.length c (by rw [Nat.zero_add, List.set_append_left _ _ (by rw [DkF.flatG_len rcc_len]; omega), rcc_set _ _ hml, mix_at _ _ hrl, ← mix_set _ _ hrl]; rfl) (by rw [DkF.flatG_len rcc_len, mix_len, recsAt_len]) hnc (by rw [List.length_append, DkF.flatG_len rcc_len, mix_len]; rw [List.length_append, DkF.flatG_len rcc_len, mix_len] at hcl; exact hcl) ?_
            refine Cx.region ?_
            refine Lx.y (Yx.val (add rfl rfl (by first | exact wrap64 (by omega) (by omega) | rfl)) (show _ = i64 ((i + 1 : Nat) : Int) from rfl)) rfl ?_
            refine Lx.y (mv rfl) rfl ?_
            refine Lx.nil ?_
            exact Xx.againK ⟨i + 1, hlt, rfl, rfl, rfl, (by rw [← hA]; ac_rfl)⟩ (by omega) (Sub.cons (s := 85) rfl (Sub.cons (s := 0) rfl (Sub.cons (s := 1) rfl (Sub.cons (s := 6) rfl (Sub.cons (s := 7) rfl (Sub.cons (s := 8) rfl (Sub.cons (s := 13) rfl (Sub.cons (s := 14) rfl (Sub.cons (s := 15) rfl (Sub.cons (s := 18) rfl (Sub.cons (s := 19) rfl (Sub.cons (s := 20) rfl (Sub.cons (s := 21) rfl (Sub.cons (s := 22) rfl (Sub.cons (s := 23) rfl (Sub.cons (s := 24) rfl (Sub.cons (s := 36) rfl (Sub.cons (s := 37) rfl (Sub.cons (s := 38) rfl (Sub.cons (s := 39) rfl (Sub.cons (s := 61) rfl (Sub.cons (s := 62) rfl (Sub.cons (s := 63) rfl (Sub.cons (s := 64) rfl (Sub.cons (s := 65) rfl (Sub.cons (s := 66) rfl (Sub.cons (s := 67) rfl (Sub.cons (s := 68) rfl (Sub.cons (s := 69) rfl (Sub.cons (s := 70) rfl (Sub.cons (s := 71) rfl (Sub.cons (s := 72) rfl (Sub.cons (s := 74) rfl (Sub.cons (s := 75) rfl (Sub.cons (s := 76) rfl (Sub.cons (s := 77) rfl (Sub.cons (s := 78) rfl (Sub.cons (s := 79) rfl (Sub.cons (s := 80) rfl (Sub.cons (s := 81) rfl (Sub.cons (s := 83) rfl (Sub.cons (s := 84) rfl (Sub.nil _)))))))))))))))))))))))))))))))))))))))))))
          · skip
            have hge := h34
            obtain rfl : i = bodies.length := by omega
            have hmx : (mixF (fileM ((fileOf j : Nat) : Int) d.abs.fs).now.length (recsAt (fileOf j) 0 bodies) bodies.length) = recsAt (fileOf j) (fileM ((fileOf j : Nat) : Int) d.abs.fs).now.length bodies := by
              have h1 := mix_all (fileM ((fileOf j : Nat) : Int) d.abs.fs).now.length (recsAt (fileOf j) 0 bodies)
              rw [recsAt_len, recsAt_sh, Nat.zero_add] at h1; exact h1
            rw [hmx]
            refine Xx.freezeT A fun B9 hB9 hRo hnc9 _ => ?_
            refine Cx.exit ?_
            refine Xx.te ?_
            refine Xx.te ?_
            refine Xx.bh ?_
            refine Xx.tn (k30 _ _ _ _ ?_)
            refine Cx.seq (fun K37 k37 => ?_)
            refine Cx.region ?_
            refine Lx.y (mv rfl) rfl ?_
            refine Lx.y (nilc rfl) rfl ?_
            refine Lx.y (fa' fo115_4 rfl) rfl ?_
            refine Lx.y (ld Try.underlying113 rfl rfl rfl) rfl ?_
            refine Lx.y (lenV (ty' := 0) Try.underlying113 rfl) rfl ?_
            refine Lx.y (asg rfl) rfl ?_
            refine Lx.nil ?_
            refine Xx.tn (k37 _ _ _ _ ?_)
            refine Cx.seq (fun K38 k38 => ?_)
            refine Cx.region ?_
            refine Lx.y (mv rfl) rfl ?_
            refine Lx.y (mv rfl) rfl ?_
            refine Lx.y (nilc rfl) rfl ?_
            refine Lx.y (fa' fo115_4 rfl) rfl ?_
            refine Lx.y (ld Try.underlying113 rfl rfl rfl) rfl ?_
            refine Lx.y (mv rfl) rfl ?_
            refine Lx.o (appB (et := 74) (A := j.Al) (j.l.length + bodies.length) ((j.l ++ recsAt (fileOf j) (fileM ((fileOf j : Nat) : Int) d.abs.fs).now.length bodies).flatMap rcc) Try.underlying113 Try.underlying113 ti74 rfl rfl hRo (rcc_all _) (by omega) (by omega) rfl (by rw [List.flatMap_append])) rfl (fun v B' H' hΦ hB => ?_)
            obtain ⟨A9, c9, rfl, hA9, hc9, hBB, rfl⟩ := hΦ
            have hBB2 := hBB.symm
            subst hBB2
            clear hB
            refine Lx.y (nilc rfl) rfl ?_
            refine Lx.y (fa' fo115_4 rfl) rfl ?_
            refine Lx.st (stO Try.underlying113 sz113 rfl rfl rfl (by show 4 < 5; omega) rfl) ?_
            refine Lx.nil ?_
            refine Xx.tn (k38 _ _ _ _ ?_)
            refine Cx.seq (fun K39 k39 => ?_)
            refine Cx.region ?_
            refine Lx.y (mv rfl) rfl ?_
            refine Lx.y (mv rfl) rfl ?_
            refine Lx.y (mv rfl) rfl ?_
            refine Lx.y (Yx.val (mv rfl) (show _ = i64 (((fileM ((fileOf j : Nat) : Int) d.abs.fs).now.length : Nat) : Int) from by rw [hapat]; rfl)) rfl ?_
            refine Lx.co rfl rfl rfl (BLen_ct b7 u A3 (allF bodies).length c3 _) (PickB.eq) rfl ?_
            refine Lx.y (Yx.val (add rfl rfl (by first | exact wrap64 (by omega) (by omega) | rfl)) (show _ = i64 (((fileM ((fileOf j : Nat) : Int) d.abs.fs).now.length + (allF bodies).length : Nat) : Int) from rfl)) rfl ?_
            refine Lx.y (nilc rfl) rfl ?_
            refine Lx.y (fa' fo115_2 rfl) rfl ?_
            refine Lx.st (stO Try.underlying3 sz3 rfl rfl rfl (by show 2 < 5; omega) rfl) ?_
            refine Lx.y (nilc rfl) rfl ?_
            refine Lx.y (fa' fo115_3 rfl) rfl ?_
            refine Lx.st (stO Try.underlying3 sz3 rfl rfl rfl (by show 3 < 5; omega) rfl) ?_
            refine Lx.nil ?_
            refine Xx.tn (k39 _ _ _ _ ?_)
            refine Cx.seq (fun K40 k40 => ?_)
            refine Cx.region ?_
            refine Lx.y (mv rfl) rfl ?_
            refine Lx.y (asg rfl) rfl ?_
            refine Lx.y (asg rfl) rfl ?_
            refine Lx.nil ?_
            refine Xx.tn (k40 _ _ _ _ ?_)
            refine Cx.ret ?_
            refine Xx.dropB b7 ?_
            have hnl : (j.l ++ recsAt (fileOf j) (fileM ((fileOf j : Nat) : Int) d.abs.fs).now.length bodies).length = j.l.length + bodies.length := by rw [List.length_append, recsAt_len]
            exact Xx.ret2 rfl rfl rfl ⟨d2, hd2, .inr ⟨he2, rfl, A9, c9, rfl⟩⟩ (Frag.le_trans (Frag.le_trans hB2 hB3) hB9) (by unfold jcs; dsimp only; rw [hnl]; ac_rfl)
end Jn3
end Go.Proofs.Ytgcebieihmlaoaa

/-
  Plain laws of the journal: files that hold frames, what is read of them, what adding does.
-/
namespace Go.Proofs.Ytgcebieihmlaoaa
open Go.SL Go.RowKit
set_option linter.unusedVariables false
set_option linter.unusedSimpArgs false
set_option maxRecDepth 100000
open DkA DkB DkD DkE DkF DkG DkH DkI DkJ DkN Fr1 Jn1 Jn2 Jn3
namespace Jn4


def nowOf (fs : List Fm) (n : Int) : List UInt8 := (fileM n fs).now
theorem findM_num {n : Int} : ∀ {fs : List Fm}, n ∈ fs.map (·.n) → ∃ f, findM n fs = some f := by
  intro fs
  induction fs with
  | nil => intro h; cases h
  | cons g fs ih =>
    intro h
    simp only [findM]
    split
    · exact ⟨g, rfl⟩
    · rename_i e
      rw [List.map_cons] at h
      rcases List.mem_cons.1 h with h | h
      · exact absurd h e
      · exact ih h
theorem sync_props {K L C : Nat} {D : Dm} (h : DkN.Calm K L C D) {n : Int} (hn : n ∈ D.fs.map (·.n)) :
    (syncD D n).2 = 0 ∧ (syncD D n).1.fs.map (·.n) = D.fs.map (·.n) ∧ (∀ m, nowOf (syncD D n).1.fs m = nowOf D.fs m) ∧ SureL (syncD D n).1.fs n (nowOf D.fs n) ∧ (∀ m t, SureL D.fs m t → SureL (syncD D n).1.fs m t) := by
  obtain ⟨f, hf⟩ := findM_num hn
  have hfile : fileM n D.fs = f := by unfold fileM; rw [hf]; rfl
  have hfn := (findM_mem hf).2
  have he : errM D n = 0 := by unfold errM; rw [if_neg (by rw [h.dead]; decide), hf]
  have hs : syncD D n = ({ D with ch := D.ch + 1, fs := setM ⟨n, f.now, f.now, []⟩ D.fs }, 0) := by
    unfold syncD
    rw [h.strikes, if_neg (fun e => e he), if_neg Bool.false_ne_true, hfile]
  rw [hs]
  refine ⟨rfl, ?_, fun m => ?_, ?_, fun m t ⟨g, hg, h1, h2⟩ => ?_⟩
  · show (setM _ D.fs).map (·.n) = _
    rw [setM_nums, if_pos hn]
  · unfold nowOf fileM
    rw [findM_set]
    by_cases e : m = n
    · rw [if_pos e, e, hf]; rfl
    · rw [if_neg e]
  · unfold nowOf
    rw [hfile]
    refine ⟨⟨n, f.now, f.now, []⟩, ?_, List.prefix_refl _, List.prefix_refl _⟩
    rw [findM_set, if_pos rfl]
  · by_cases e : m = n
    · rw [e, hf] at hg
      cases hg
      exact ⟨⟨n, f.now, f.now, []⟩, by rw [findM_set, if_pos e], h1, h1⟩
    · exact ⟨g, by rw [findM_set, if_neg e]; exact hg, h1, h2⟩

abbrev Ck := FrA.Ck
/-- The files from the first on hold these frames, and there is none behind. -/
structure Holds (fs : List DkB.Fm) (fb : List (List Ck)) : Prop where
  ok : ∀ cs ∈ fb, ∀ c ∈ cs, FrA.Ck.ok c
  at_ : ∀ k (h : k < fb.length), ∃ f, findM ((k + 1 : Nat) : Int) fs = some f ∧ f.now = FrA.cat fb[k]
  no : ∀ k : Nat, fb.length < k → findM ((k : Nat) : Int) fs = none
def recsOf : Nat → List (List Ck) → List Rc
  | _, [] => []
  | n, cs :: fb => recF (n + 1) (FrA.fms cs 0) ++ recsOf (n + 1) fb
def lastLen (fb : List (List Ck)) (long : Nat) : Nat := match fb.getLast? with
  | none => long
  | some cs => (FrA.cat cs).length
theorem scan_file {cs : List Ck} (h : ∀ c ∈ cs, FrA.Ck.ok c) : Fr2.scanL (FrA.cat cs) = FrA.fms cs 0 ∧ Fr2.endL (FrA.fms cs 0) = (FrA.cat cs).length := by
  have h1 := FrA.scan_all h (q := []) FrA.nil_none
  rw [List.append_nil] at h1
  refine ⟨h1, ?_⟩
  by_cases hn : cs = []
  · rw [hn]; rfl
  · rw [FrA.fms_end h hn, Nat.zero_add]
theorem openF_run (fs : List DkB.Fm) : ∀ (fb : List (List Ck)) (fuel n : Nat) (l : List Rc) (long : Nat), fb.length < fuel → (∀ cs ∈ fb, ∀ c ∈ cs, FrA.Ck.ok c) →
    (∀ k (h : k < fb.length), ∃ f, findM ((n + k + 1 : Nat) : Int) fs = some f ∧ f.now = FrA.cat fb[k]) → findM ((n + fb.length + 1 : Nat) : Int) fs = none →
    openF fs fuel (l, n, long) = (l ++ recsOf n fb, n + fb.length, lastLen fb long) := by
  intro fb
  induction fb with
  | nil =>
    intro fuel n l long hf _ _ hno
    obtain ⟨fuel, rfl⟩ : ∃ k, fuel = k + 1 := ⟨fuel - 1, by simp at hf; omega⟩
    unfold openF
    rw [show ((l, n, long) : List Rc × Nat × Nat).2.1 + 1 = n + [].length + 1 from rfl, hno]
    simp [recsOf, lastLen]
  | cons cs fb ih =>
    intro fuel n l long hf hok hat hno
    obtain ⟨fuel, rfl⟩ : ∃ k, fuel = k + 1 := ⟨fuel - 1, by omega⟩
    obtain ⟨f, h1, h2⟩ := hat 0 (by simp)
    have h2' : f.now = FrA.cat cs := h2
    obtain ⟨h3, h4⟩ := scan_file (hok cs (by simp))
    unfold openF
    rw [show (((l, n, long) : List Rc × Nat × Nat).2.1 + 1 : Nat) = n + 0 + 1 from rfl, h1]
    simp only [h2', h3, h4]
    rw [if_neg (Nat.lt_irrefl _)]
    rw [ih fuel (n + 0 + 1) _ _ (by simpa using hf) (fun x hx => hok x (by simp [hx])) (fun k hk => by
      obtain ⟨g, g1, g2⟩ := hat (k + 1) (by simpa using hk)
      exact ⟨g, by rw [show n + 0 + 1 + k + 1 = n + (k + 1) + 1 by omega]; exact g1, g2⟩) (by rw [show n + 0 + 1 + fb.length + 1 = n + (cs :: fb).length + 1 by simp; omega]; exact hno)]
    refine Prod.ext ?_ (Prod.ext ?_ ?_)
    · simp [recsOf]
    · simp; omega
    · unfold lastLen
      cases fb with
      | nil => rfl
      | cons d fb => rw [List.getLast?_cons_cons]; cases hg : (d :: fb).getLast? with
        | none => simp at hg
        | some x => rfl
theorem Holds.le {fs : List DkB.Fm} {fb : List (List Ck)} (h : Holds fs fb) : fb.length ≤ fs.length :=
  run_le fun k hk => by
    obtain ⟨f, h1, _⟩ := h.at_ k hk
    obtain ⟨g1, g2⟩ := findM_mem h1
    exact List.mem_map.2 ⟨f, g1, g2⟩
/-- what is read of files that hold frames -/
theorem Holds.open {fs : List DkB.Fm} {fb : List (List Ck)} (h : Holds fs fb) : openF fs (fs.length + 1) ([], 0, 0) = (recsOf 0 fb, fb.length, lastLen fb 0) := by
  have h0 := h.le
  have := openF_run fs fb (fs.length + 1) 0 [] 0 (by omega) h.ok (fun k hk => by simpa using h.at_ k hk) (by rw [Nat.zero_add]; exact h.no _ (Nat.lt_succ_self _))
  rw [this, List.nil_append, Nat.zero_add]
theorem fms_app (cs ds : List Ck) (a : Nat) : FrA.fms (cs ++ ds) a = FrA.fms cs a ++ FrA.fms ds (a + (FrA.cat cs).length) := by
  induction cs generalizing a with
  | nil => simp [FrA.fms]
  | cons c cs ih => simp [FrA.fms, ih, Nat.add_assoc]
theorem recF_fr (file : Nat) : ∀ (xs : List (List UInt8)) (a : Nat), recF file (FrA.fms (xs.map FrA.fr) a) = recsAt file a xs := by
  intro xs
  induction xs with
  | nil => intro a; rfl
  | cons x xs ih =>
    intro a
    have hl : (FrA.fr x).tx.length = 12 + x.length := by show (headL x ++ x).length = _; rw [List.length_append, headL_len]
    show (⟨file, a + 12, x, true⟩ : Rc) :: recF file (FrA.fms (xs.map FrA.fr) (a + (FrA.fr x).tx.length)) = (⟨file, a + 12, x, true⟩ : Rc) :: recsAt file (a + 12 + x.length) xs
    rw [ih, hl, Nat.add_assoc]
theorem recF_app (file : Nat) (a b : List Fr2.Fm) : recF file (a ++ b) = recF file a ++ recF file b := by simp [recF]
theorem cat_fr (xs : List (List UInt8)) : FrA.cat (xs.map FrA.fr) = allF xs := by
  unfold FrA.cat allF
  rw [List.map_map]; rfl
theorem recsOf_snoc : ∀ (fb : List (List Ck)) (n : Nat) (cs : List Ck), recsOf n (fb ++ [cs]) = recsOf n fb ++ recF (n + fb.length + 1) (FrA.fms cs 0) := by
  intro fb
  induction fb with
  | nil => intro n cs; simp [recsOf]
  | cons d fb ih =>
    intro n cs
    simp only [List.cons_append, recsOf, ih, List.append_assoc, List.length_cons]
    rw [show n + 1 + fb.length + 1 = n + (fb.length + 1) + 1 by omega]
/-- the error of adding to a disk with power and no plan: there was no room, and nothing is otherwise -/
theorem addD_fail {K L C : Nat} {D : Dm} (hc : DkN.Calm K L C D) {file : Nat} {all : List UInt8} (h : (addD D file all).2 ≠ 0) : addD D file all = (D, 50) := by
  unfold addD at h ⊢
  by_cases h1 : (appendD D (file : Int) all).2.2 ≠ 0
  · rw [if_pos h1] at h ⊢
    unfold appendD at h1 ⊢
    rw [hc.strikes, if_neg (by rw [hc.dead]; decide), if_neg (by omega)] at h1 ⊢
    split
    · rfl
    · rename_i h2
      rw [if_neg h2, if_neg Bool.false_ne_true] at h1
      exact absurd rfl h1
  · rw [if_neg h1] at h
    exfalso
    have h1 : (appendD D (file : Int) all).2.2 = 0 := Decidable.byContradiction h1
    have hc1 := hc.append (file : Int) all
    have hs := (sync_props hc1 (n := (file : Int)) (by
      unfold appendD at h1 ⊢
      rw [hc.strikes, if_neg (by rw [hc.dead]; decide), if_neg (by omega)] at h1 ⊢
      split
      · rename_i h2; rw [if_pos h2] at h1; cases h1
      · rw [if_neg Bool.false_ne_true]
        show (file : Int) ∈ (setM _ D.fs).map (·.n)
        rw [setM_nums]
        split
        · assumption
        · simp)).1
    exact h hs
/-- adding that was done: the file is the old one and these bytes behind, and sure; the others are as they were -/
theorem addD_done {K L C : Nat} {D : Dm} (hc : DkN.Calm K L C D) {file : Nat} {all : List UInt8} (h : (addD D file all).2 = 0) :
    (∀ k, findM k (addD D file all).1.fs = if k = (file : Int) then some ⟨file, (fileM (file : Int) D.fs).now ++ all, (fileM (file : Int) D.fs).now ++ all, []⟩ else findM k D.fs) ∧ DkN.Calm (K + 2) (L + all.length) (C + 2) (addD D file all).1 ∧
    ((∀ f ∈ D.fs, f.loose = [] ∧ f.sure = f.now) → ∀ f ∈ (addD D file all).1.fs, f.loose = [] ∧ f.sure = f.now) := by
  have h1 : (appendD D (file : Int) all).2.2 = 0 := Decidable.byContradiction fun h1 => by
    unfold addD at h
    rw [if_pos h1] at h
    exact h1 h
  have hc1 := hc.append (file : Int) all
  have hc2 := hc1.sync (file : Int)
  have ha : addD D file all = syncD (appendD D (file : Int) all).1 (file : Int) := by unfold addD; rw [if_neg (fun e => e h1)]
  rw [← ha] at hc2
  obtain ⟨lo, hap⟩ : ∃ lo, (appendD D (file : Int) all).1 = { D with ch := D.ch + 1, fs := setM ⟨file, (fileM (file : Int) D.fs).now ++ all, (fileM (file : Int) D.fs).sure, lo⟩ D.fs } := by
    unfold appendD at h1 ⊢
    rw [hc.strikes, if_neg (by rw [hc.dead]; decide), if_neg (by omega)] at h1 ⊢
    split
    · rename_i h2; rw [if_pos h2] at h1; cases h1
    · rw [if_neg Bool.false_ne_true]; exact ⟨_, rfl⟩
  have hfm : fileM (file : Int) (setM ⟨file, (fileM (file : Int) D.fs).now ++ all, (fileM (file : Int) D.fs).sure, lo⟩ D.fs) = ⟨file, (fileM (file : Int) D.fs).now ++ all, (fileM (file : Int) D.fs).sure, lo⟩ := by
    unfold fileM; rw [findM_set, if_pos rfl]; rfl
  have he : errM (appendD D (file : Int) all).1 (file : Int) = 0 := by
    rw [hap]; unfold errM
    rw [if_neg (by show ¬ D.dead = true; rw [hc.dead]; decide)]
    show (match findM (file : Int) (setM _ D.fs) with | none => _ | some _ => _) = _
    rw [findM_set, if_pos rfl]
  have hsy : (addD D file all).1.fs = setM ⟨file, (fileM (file : Int) D.fs).now ++ all, (fileM (file : Int) D.fs).now ++ all, []⟩ (setM ⟨file, (fileM (file : Int) D.fs).now ++ all, (fileM (file : Int) D.fs).sure, lo⟩ D.fs) := by
    rw [ha]; unfold syncD
    rw [hc1.strikes, if_neg (fun e => e he), if_neg Bool.false_ne_true, hap]
    show setM ⟨_, (fileM (file : Int) (setM _ D.fs)).now, (fileM (file : Int) (setM _ D.fs)).now, []⟩ (setM _ D.fs) = _
    rw [hfm]
  refine ⟨fun k => ?_, hc2.mono (by omega) (by omega) (by omega), fun hst f hf => ?_⟩
  · rw [hsy, findM_set, findM_set]
    by_cases e : k = (file : Int)
    · rw [if_pos e, if_pos e]
    · rw [if_neg e, if_neg e, if_neg e]
  · have hff := findM_of_mem hc2.nd hf
    rw [hsy, findM_set, findM_set] at hff
    split at hff
    · cases hff; exact ⟨rfl, rfl⟩
    · exact hst f (findM_mem hff).1
/-- a journal and its disk fit together -/
structure Fits (D : Dm) (j : Jn) (fb : List (List Ck)) : Prop where
  holds : Holds D.fs fb
  l : j.l = recsOf 0 fb
  last : j.last = fb.length
  long : j.long = lastLen fb 0
  most : 1 ≤ j.most
theorem fb_split {fb : List (List Ck)} (h : fb ≠ []) : ∃ fc cs, fb = fc ++ [cs] := ⟨fb.dropLast, fb.getLast h, (List.dropLast_concat_getLast h).symm⟩
theorem add_fits {K L C : Nat} {D : Dm} {j : Jn} {fb : List (List Ck)} (hc : DkN.Calm K L C D) (hf : Fits D j fb) {bodies : List (List UInt8)} (hb : ∀ s ∈ bodies, s.length ≤ 65536) (h : (addD D (fileOf j) (allF bodies)).2 = 0) (Al : Option Addr) (cl : Nat) :
    ∃ fb', Fits (addD D (fileOf j) (allF bodies)).1 { j with last := fileOf j, long := (fileM ((fileOf j : Nat) : Int) D.fs).now.length + (allF bodies).length, l := j.l ++ recsAt (fileOf j) (fileM ((fileOf j : Nat) : Int) D.fs).now.length bodies, Al := Al, cl := cl } fb' := by
  obtain ⟨hfind, _, _⟩ := addD_done hc h
  have hno := hf.holds.no
  have hokb : ∀ c ∈ bodies.map FrA.fr, FrA.Ck.ok c := fun c hcc => by
    obtain ⟨s, hs, rfl⟩ := List.mem_map.1 hcc
    exact FrA.fr_ok (hb s hs)
  by_cases hnew : fileOf j = fb.length + 1
  · have hfile : fileM ((fileOf j : Nat) : Int) D.fs = ⟨(fileOf j : Nat), [], [], []⟩ := by unfold fileM; rw [hnew, hno _ (Nat.lt_succ_self _)]; rfl
    refine ⟨fb ++ [bodies.map FrA.fr], ⟨?_, ?_, ?_⟩, ?_, ?_, ?_, hf.most⟩
    · intro cs hcs c hcc
      rcases List.mem_append.1 hcs with hcs | hcs
      · exact hf.holds.ok cs hcs c hcc
      · rw [List.mem_singleton.1 hcs] at hcc
        exact hokb c hcc
    · intro k hk
      rw [List.length_append, List.length_singleton] at hk
      by_cases e : k < fb.length
      · obtain ⟨f, h1, h2⟩ := hf.holds.at_ k e
        refine ⟨f, ?_, by rw [h2, List.getElem_append_left e]⟩
        rw [hfind, if_neg (by rw [hnew]; omega)]; exact h1
      · obtain rfl : k = fb.length := by omega
        refine ⟨_, by rw [hfind, if_pos (by rw [hnew])], ?_⟩
        show (fileM ((fileOf j : Nat) : Int) D.fs).now ++ allF bodies = _
        rw [hfile, List.getElem_append_right (Nat.le_refl _)]
        simp [cat_fr]
    · intro k hk
      rw [List.length_append, List.length_singleton] at hk
      rw [hfind, if_neg (by rw [hnew]; omega)]
      exact hno k (by omega)
    · show j.l ++ recsAt (fileOf j) (fileM ((fileOf j : Nat) : Int) D.fs).now.length bodies = _
      rw [recsOf_snoc, hf.l, recF_fr, hfile, hnew, Nat.zero_add]; rfl
    · show fileOf j = _
      rw [List.length_append, List.length_singleton, hnew]
    · show (fileM ((fileOf j : Nat) : Int) D.fs).now.length + (allF bodies).length = lastLen _ 0
      rw [hfile]; unfold lastLen
      rw [List.getLast?_append, List.getLast?_singleton]
      show 0 + _ = (FrA.cat (bodies.map FrA.fr)).length
      rw [cat_fr, Nat.zero_add]
  · have hne : fb ≠ [] := fun e => hnew (by
      have h1 := hf.last
      have h2 := hf.long
      rw [e] at h1 h2
      have h3 : j.long = 0 := h2
      have hm := hf.most
      unfold fileOf
      rw [h3, if_neg (by omega), h1, e]; rfl)
    obtain ⟨fc, cs, rfl⟩ := fb_split hne
    have hl := hf.last
    rw [List.length_append, List.length_singleton] at hl hnew
    have hfo : fileOf j = fc.length + 1 := by
      unfold fileOf at hnew ⊢
      rw [hl] at hnew ⊢
      split at hnew
      · omega
      · rename_i e; rw [if_neg e]; omega
    obtain ⟨f, hf1, hf2⟩ := hf.holds.at_ fc.length (by simp)
    rw [List.getElem_append_right (Nat.le_refl _)] at hf2
    simp only [Nat.sub_self, List.getElem_cons_zero] at hf2
    have hfile : fileM ((fileOf j : Nat) : Int) D.fs = f := by unfold fileM; rw [hfo, hf1]; rfl
    refine ⟨fc ++ [cs ++ bodies.map FrA.fr], ⟨?_, ?_, ?_⟩, ?_, ?_, ?_, hf.most⟩
    · intro x hx c hcc
      rcases List.mem_append.1 hx with hx | hx
      · exact hf.holds.ok x (by simp [hx]) c hcc
      · rw [List.mem_singleton.1 hx] at hcc
        rcases List.mem_append.1 hcc with hcc | hcc
        · exact hf.holds.ok cs (by simp) c hcc
        · exact hokb c hcc
    · intro k hk
      rw [List.length_append, List.length_singleton] at hk
      by_cases e : k < fc.length
      · obtain ⟨g, h1, h2⟩ := hf.holds.at_ k (by rw [List.length_append]; omega)
        refine ⟨g, ?_, by rw [h2, List.getElem_append_left e, List.getElem_append_left e]⟩
        rw [hfind, if_neg (by rw [hfo]; omega)]; exact h1
      · obtain rfl : k = fc.length := by omega
        refine ⟨_, by rw [hfind, if_pos (by rw [hfo])], ?_⟩
        show (fileM ((fileOf j : Nat) : Int) D.fs).now ++ allF bodies = _
        rw [hfile, hf2, List.getElem_append_right (Nat.le_refl _)]
        simp [cat_fr]
    · intro k hk
      rw [List.length_append, List.length_singleton] at hk
      rw [hfind, if_neg (by rw [hfo]; omega)]
      exact hno k (by rw [List.length_append, List.length_singleton]; exact hk)
    · show j.l ++ recsAt (fileOf j) (fileM ((fileOf j : Nat) : Int) D.fs).now.length bodies = _
      rw [recsOf_snoc, hf.l, recsOf_snoc, fms_app, recF_app, recF_fr, hfile, hf2, hfo, Nat.zero_add, Nat.zero_add, List.append_assoc]
    · show fileOf j = _
      rw [List.length_append, List.length_singleton, hfo]
    · show (fileM ((fileOf j : Nat) : Int) D.fs).now.length + (allF bodies).length = lastLen _ 0
      rw [hfile, hf2]; unfold lastLen
      rw [List.getLast?_append, List.getLast?_singleton]
      show _ = (FrA.cat (cs ++ bodies.map FrA.fr)).length
      rw [FrA.cat_app, List.length_append, cat_fr]
theorem recsAt_good (file : Nat) : ∀ (xs : List (List UInt8)) (a : Nat), (recsAt file a xs).map (fun r => (r.body, r.good)) = xs.map fun s => (s, true) := by
  intro xs
  induction xs with
  | nil => intro a; rfl
  | cons x xs ih => intro a; simp [recsAt, ih]
/-- a disk all of whose files are sure -/
def Still (D : Dm) : Prop := ∀ f ∈ D.fs, f.loose = [] ∧ f.sure = f.now
theorem setM_self : ∀ {fs : List DkB.Fm} {f : DkB.Fm}, findM f.n fs = some f → setM f fs = fs := by
  intro fs
  induction fs with
  | nil => intro f h; cases h
  | cons g fs ih =>
    intro f h
    simp only [findM] at h
    simp only [setM]
    by_cases e : f.n = g.n
    · rw [if_pos e] at h ⊢; cases h; rfl
    · rw [if_neg e] at h ⊢; rw [ih h]
/-- a loss of power leaves all of such a disk -/
theorem crash_still {D : Dm} (h : Still D) (hd : D.dead = false) (mask : BitVec 64) (torn : Int) : crashD D mask torn = { D with dead := true } := by
  have hst : ∀ (ks : List Int) (bit : Nat) (t : Int), (ks.foldl (crashStep mask) (D.fs, bit, t)).1 = D.fs := by
    intro ks
    induction ks with
    | nil => intro bit t; rfl
    | cons k ks ih =>
      intro bit t
      rw [List.foldl_cons]
      unfold crashStep
      cases hk : findM k D.fs with
      | none => exact ih bit t
      | some f =>
        obtain ⟨h1, h2⟩ := findM_mem hk
        obtain ⟨h3, h4⟩ := h f h1
        have h5 : lostF f.now f.sure f.loose mask bit t = (f.now, bit, t) := by unfold lostF; rw [h3, h4]; rfl
        have h6 : (⟨f.n, f.now, f.now, []⟩ : DkB.Fm) = f := by
          obtain ⟨n, now, sure, loose⟩ := f
          simp only at h3 h4
          rw [h3, h4]
        show (ks.foldl (crashStep mask) (setM ⟨f.n, (lostF f.now f.sure f.loose mask bit t).1, (lostF f.now f.sure f.loose mask bit t).1, []⟩ D.fs, (lostF f.now f.sure f.loose mask bit t).2)).1 = D.fs
        rw [h5, h6, setM_self (by rw [h2]; exact hk)]
        exact ih bit t
  unfold crashD
  rw [if_neg (by rw [hd]; decide)]
  unfold crashFs
  rw [hst]
end Jn4
end Go.Proofs.Ytgcebieihmlaoaa

/-
  A journal that fits its disk, opened and added to; texts that are cut; that a journal is no sleeper.
-/
namespace Go.Proofs.Ytgcebieihmlaoaa
open Go.SL Go.RowKit
set_option linter.unusedVariables false
set_option linter.unusedSimpArgs false
set_option maxRecDepth 100000
open DkA DkB DkD DkE DkF DkG DkH DkI DkJ DkN Fr1 Jn1 Jn2 Jn3 Jn4
namespace Jn5
theorem sz3 : (Try.prog.info? 3).map (·.size) = some 1 := by kernel_rfl
theorem sz4 : (Try.prog.info? 4).map (·.size) = some 1 := by kernel_rfl
theorem sz9 : (Try.prog.info? 9).map (·.size) = some 1 := by kernel_rfl
theorem sz74 : (Try.prog.info? 74).map (·.size) = some 4 := by kernel_rfl
theorem sz115 : (Try.prog.info? 115).map (·.size) = some 5 := by kernel_rfl
theorem ti5 : TI Try.prog 5 [.int .u8 0] 1 1 := TI.of (by kernel_rfl) rfl rfl
theorem ti9 : TI Try.prog 9 [str []] 1 16 := TI.of (by kernel_rfl) rfl rfl
theorem ti74 : TI Try.prog 74 [.int .i64 0, .int .i64 0, str [], .bool false] 4 40 := TI.of (by kernel_rfl) rfl rfl
theorem fo74_2 : FO Try.prog 74 2 2 1 false := FO.of Try.underlying74 rfl rfl (by kernel_rfl) Try.underlying9 rfl rfl
theorem fo74_3 : FO Try.prog 74 3 3 1 false := FO.of Try.underlying74 rfl rfl (by kernel_rfl) Try.underlying4 rfl rfl

def fewL (l : List UInt8) : List UInt8 := if (150 : Int) < (l.length : Nat) then l.take 150 else l
theorem fewL_len (l : List UInt8) : (fewL l).length ≤ 150 := by
  unfold fewL; split
  · simp; omega
  · omega
def cutL (xs : List (List UInt8)) : List (List UInt8) := (xs.take 6).map fewL
theorem strs_all (l : List (List UInt8)) : (l.map str).all (·.oneCell') = true := by
  rw [List.all_eq_true]; intro v hv; obtain ⟨x, _, rfl⟩ := List.mem_map.1 hv; rfl
theorem cutL_len (xs : List (List UInt8)) : (cutL xs).length ≤ 6 := by unfold cutL; rw [List.length_map, List.length_take]; omega
theorem cutL_mem {xs : List (List UInt8)} {s : List UInt8} (h : s ∈ cutL xs) : s.length ≤ 150 := by
  obtain ⟨x, _, rfl⟩ := List.mem_map.1 h; exact fewL_len x
theorem allF_len : ∀ (xs : List (List UInt8)) (k : Nat), (∀ s ∈ xs, s.length ≤ k) → (allF xs).length ≤ xs.length * (k + 12) := by
  intro xs k
  induction xs with
  | nil => intro _; exact Nat.zero_le _
  | cons x xs ih =>
    intro h
    have h1 := h x (by simp)
    have h2 := ih fun s hs => h s (by simp [hs])
    show ((headL x ++ x) ++ allF xs).length ≤ _
    rw [List.length_append, List.length_append, headL_len, List.length_cons, Nat.succ_mul]; omega
theorem cutL_all (xs : List (List UInt8)) : (allF (cutL xs)).length ≤ 972 := by
  have h1 := allF_len (cutL xs) 150 (fun s hs => cutL_mem hs)
  have h2 := cutL_len xs
  omega

set_option maxHeartbeats 1000000 in
theorem few_ct (l : List UInt8) (B : Frag) : CtP Try.prog 32 [str l] B (str (fewL l)) := by
  refine CtB.of_body Try.func32 rfl (nt := 9) rfl (by kernel_rfl) rfl ?_
  intro N0 w0 R
  refine Cx.seq (fun K1 k1 => ?_)
  refine Cx.region ?_
  refine Lx.y (asg rfl) rfl ?_
  refine Lx.nil ?_
  refine Xx.tn (k1 _ _ _ _ ?_)
  refine Cx.seq (fun K2 k2 => ?_)
  refine Cx.seq (fun K3 k3 => ?_)
  refine Cx.region ?_
  refine Lx.y (mv rfl) rfl ?_
  refine Lx.y (lenS Try.underlying9 rfl) rfl ?_
  refine Lx.y (gtr rfl rfl) rfl ?_
  refine Lx.nil ?_
  refine Xx.tn (k3 _ _ _ _ ?_)
  refine Cx.condD rfl (fun h4 => ?_) (fun h4 => ?_)
  · skip
    have h3 := h4
    refine Cx.seq (fun K5 k5 => ?_)
    refine Cx.region ?_
    refine Lx.y (mv rfl) rfl ?_
    refine Lx.y (sl2S Try.underlying9 rfl rfl (show Int.toNat _ = 150 from rfl) (by omega) (by omega)) rfl ?_
    refine Lx.y (asg rfl) rfl ?_
    refine Lx.nil ?_
    refine Xx.tn (k5 _ _ _ _ ?_)
    refine Cx.ret ?_
    refine Xx.tr ?_
    exact Xx.rB1 rfl rfl ⟨by simp only [fewL]; rw [if_pos h3], rfl⟩ (Frag.le_refl _) rfl
  · skip
    have h3 := h4
    refine Cx.skip ?_
    refine Xx.tn (k2 _ _ _ _ ?_)
    refine Cx.seq (fun K6 k6 => ?_)
    refine Cx.region ?_
    refine Lx.y (mv rfl) rfl ?_
    refine Lx.y (asg rfl) rfl ?_
    refine Lx.nil ?_
    refine Xx.tn (k6 _ _ _ _ ?_)
    refine Cx.ret ?_
    exact Xx.rB1 rfl rfl ⟨by simp only [fewL]; rw [if_neg h3], rfl⟩ (Frag.le_refl _) rfl

set_option maxHeartbeats 2000000 in
theorem cut_ct (xs : List (List UInt8)) (A : Option Addr) (c : Nat) (B : Frag) (hR : 0 < xs.length → RoS B 1 A xs.length (xs.map str)) (hn : xs.length ≤ 9223372036854775807) : CtB Try.prog 30 [.slice A xs.length c] B (fun v B' => ∃ A' c', v = .slice A' (cutL xs).length c' ∧ RoS B' 1 A' (cutL xs).length ((cutL xs).map str)) := by
  refine CtB.of_body Try.func30 rfl (nt := 25) rfl (by kernel_rfl) rfl ?_
  intro N0 w0 R
  refine Cx.seq (fun K1 k1 => ?_)
  refine Cx.region ?_
  refine Lx.y (asg rfl) rfl ?_
  refine Lx.nil ?_
  refine Xx.tn (k1 _ _ _ _ ?_)
  refine Cx.seq (fun K2 k2 => ?_)
  refine Cx.region ?_
  refine Lx.o (bslZ Try.underlying62 ti9) rfl (fun v B' H' hΦ hB => ?_)
  obtain ⟨b0, rfl, hBB, rfl⟩ := hΦ
  have hBB2 := hBB.symm
  subst hBB2
  clear hB
  refine Lx.y (asg rfl) rfl ?_
  refine Lx.nil ?_
  refine Xx.tn (k2 _ _ _ _ ?_)
  refine Cx.seq (fun K3 k3 => ?_)
  refine Cx.seq (fun K4 k4 => ?_)
  refine Cx.region ?_
  refine Lx.y (asg rfl) rfl ?_
  refine Lx.nil ?_
  refine Xx.tn (k4 _ _ _ _ ?_)
  refine Cx.block ?_
  refine Cx.loopK (Sub.cons (s := 0) rfl (Sub.cons (s := 2) rfl (Sub.cons (s := 5) rfl (Sub.nil _)))) (fun m ρ' B' H' => ∃ (i : Nat) (A1 : Option Addr) (c1 : Nat), (i ≤ xs.length ∧ i ≤ 6) ∧ m = 6 - i ∧ ρ' = [(3, .slice A1 i c1), (4, i64 (i : Int))] ∧ B = B' ∧ sbuf 9 1 A1 i c1 (((xs.take i).map fewL).map str) * R = H') ⟨0, some ⟨b0, 0, none⟩, 0, ⟨Nat.zero_le _, Nat.zero_le _⟩, rfl, rfl, rfl, rfl⟩ (Sub.cons (s := 3) rfl (Sub.cons (s := 4) rfl (Sub.cons (s := 0) rfl (Sub.cons (s := 2) rfl (Sub.cons (s := 5) rfl (Sub.nil _)))))) ?_
  rintro m ρ' B' H' ⟨i, A1, c1, ⟨hi, hi6⟩, rfl, rfl, rfl, rfl⟩
  refine Cx.seq (fun K5 k5 => ?_)
  refine Cx.seq (fun K6 k6 => ?_)
  refine Cx.region ?_
  refine Lx.y (mv rfl) rfl ?_
  refine Lx.y (mv rfl) rfl ?_
  refine Lx.y (lenV (ty' := 0) Try.underlying62 rfl) rfl ?_
  refine Lx.y (lss rfl rfl) rfl ?_
  refine Lx.y (mv rfl) rfl ?_
  refine Xx.ifD (t := 10) rfl (fun h7 => ?_) (fun h7 => ?_)
  · skip
    have hlt := h7
    have hlt : i < xs.length := by omega
    refine Lx.gT rfl rfl rfl ?_
    refine Lx.y (mv rfl) rfl ?_
    refine Lx.gT rfl rfl rfl ?_
    refine Lx.y (lss rfl rfl) rfl ?_
    refine Lx.y (pickT rfl rfl) rfl ?_
    refine Lx.nil ?_
    refine Xx.tn (k6 _ _ _ _ ?_)
    refine Cx.condD rfl (fun h8 => ?_) (fun h8 => ?_)
    · skip
      have h6 := h8
      obtain ⟨b9, o9, cs9, et9, fz9, hA9, hB9, hv9⟩ := (hR (by omega)).at1 hlt
      rw [List.getElem?_map, List.getElem?_eq_getElem hlt] at hv9
      refine Cx.skip ?_
      refine Xx.tn (k5 _ _ _ _ ?_)
      refine Cx.seq (fun K9 k9 => ?_)
      refine Cx.block ?_
      refine Cx.region ?_
      refine Lx.y (mv rfl) rfl ?_
      refine Lx.y (mv rfl) rfl ?_
      refine Lx.y (mv rfl) rfl ?_
      refine Lx.y (Yx.val (ia (b := b9) (o := o9) Try.underlying62 sz9 (by rw [← hA9]; rfl) rfl (Int.toNat_natCast _) (by omega) (by omega)) rfl) rfl ?_
      refine Lx.y (ldB Try.underlying9 rfl rfl hB9 hv9) rfl ?_
      refine Lx.cp rfl rfl rfl (few_ct _ _) rfl ?_
      refine Lx.bsl (bsl1 Try.underlying62 ti9 rfl rfl rfl (by decide)) rfl (fun bv => ?_)
      refine Lx.o (appN (et := 9) (A := A1) (i + 1) [str (fewL xs[i])] (((xs.take (i + 1)).map fewL).map str) Try.underlying62 Try.underlying62 ti9 rfl rfl rfl rfl rfl (by omega) (by omega) rfl (by rw [List.take_succ_eq_append_getElem hlt, List.map_append, List.map_append]; rfl)) rfl (fun v B' H' hΦ hB => ?_)
      obtain ⟨A2, c2, rfl, hA2, hl2, hc2, hBB, rfl⟩ := hΦ
      have hBB2 := hBB.symm
      subst hBB2
      refine Xx.dropB bv ?_
      clear hB
      refine Lx.y (asg rfl) rfl ?_
      refine Lx.nil ?_
      refine Xx.bn ?_
      refine Xx.tn (k9 _ _ _ _ ?_)
      refine Cx.region ?_
      refine Lx.y (mv rfl) rfl ?_
      refine Lx.y (Yx.val (add rfl rfl (by first | exact wrap64 (by omega) (by omega) | rfl)) (show _ = i64 ((i + 1 : Nat) : Int) from rfl)) rfl ?_
      refine Lx.y (asg rfl) rfl ?_
      refine Lx.nil ?_
      exact Xx.againK ⟨i + 1, A2, c2, ⟨hlt, by omega⟩, rfl, rfl, rfl, rfl⟩ (by omega) (Sub.cons (s := 3) rfl (Sub.cons (s := 4) rfl (Sub.cons (s := 0) rfl (Sub.cons (s := 2) rfl (Sub.cons (s := 5) rfl (Sub.nil _))))))
    · skip
      have h6 := h8
      have hcut : (xs.take i).map fewL = cutL xs := by unfold cutL; rw [show i = 6 by omega]
      refine Cx.exit ?_
      refine Xx.te ?_
      refine Xx.te ?_
      refine Xx.bh ?_
      refine Xx.tn (k3 _ _ _ _ ?_)
      refine Cx.seq (fun K10 k10 => ?_)
      refine Cx.region ?_
      refine Lx.y (mv rfl) rfl ?_
      refine Lx.y (asg rfl) rfl ?_
      refine Lx.nil ?_
      refine Xx.tn (k10 _ _ _ _ ?_)
      refine Cx.ret ?_
      rw [hcut]
      have hil : i = (cutL xs).length := by rw [← hcut, List.length_map, List.length_take]; omega
      refine Xx.freezeT A1 fun B3 hB3 hRo hnc _ => ?_
      exact Xx.rB1 rfl rfl ⟨A1, c1, by rw [hil], by rw [← hil]; exact hRo⟩ hB3 rfl
  · skip
    have hno := h7
    have hcut : (xs.take i).map fewL = cutL xs := by unfold cutL; rw [List.take_of_length_le (by omega), List.take_of_length_le (by omega)]
    refine Lx.gF rfl rfl rfl rfl ?_
    refine Lx.gF rfl rfl rfl rfl ?_
    refine Lx.y (pickF rfl rfl) rfl ?_
    refine Lx.nil ?_
    refine Xx.tn (k6 _ _ _ _ ?_)
    refine Cx.condF rfl ?_
    refine Cx.exit ?_
    refine Xx.te ?_
    refine Xx.te ?_
    refine Xx.bh ?_
    refine Xx.tn (k3 _ _ _ _ ?_)
    refine Cx.seq (fun K11 k11 => ?_)
    refine Cx.region ?_
    refine Lx.y (mv rfl) rfl ?_
    refine Lx.y (asg rfl) rfl ?_
    refine Lx.nil ?_
    refine Xx.tn (k11 _ _ _ _ ?_)
    refine Cx.ret ?_
    rw [hcut]
    have hil : i = (cutL xs).length := by rw [← hcut, List.length_map, List.length_take]; omega
    refine Xx.freezeT A1 fun B3 hB3 hRo hnc _ => ?_
    exact Xx.rB1 rfl rfl ⟨A1, c1, by rw [hil], by rw [← hil]; exact hRo⟩ hB3 rfl

/-- A journal that fits its disk: opened. -/
theorem JOpenF_ct (d : Dk) (db : Nat) (most : Int) (fb : List (List Ck)) (K L C : Nat) (B : Frag) (hc : DkN.Calm K L C d.abs) (hK : K ≤ 1000000) (hL : L ≤ 1048576) (hC : C ≤ 1000000000) (hm : 1 ≤ most) (hh : Holds d.abs.fs fb) :
    Ct Try.prog 34 [.pointer (some ⟨db, 0, none⟩), i64 most] B (dkH db d) (fun v B' H' => ∃ (jb : Nat) (j : Jn), v = .tuple #[.pointer (some ⟨jb, 0, none⟩), i64 0] ∧ j.db = db ∧ j.most = most ∧ Fits d.abs j fb ∧ H' = dkH db d * jnH jb j) := by
  refine Ct.mono (JOpen_ct d db most B (hc.fit (by omega) (by omega) (by omega)) hc.dead hm (fun f hf => Nat.le_trans (hc.now f hf) hL)) ?_
  rintro v B' H' ⟨jb, Al, cl, rfl, rfl⟩
  have ho := hh.open
  exact ⟨jb, _, rfl, rfl, rfl, ⟨hh, by rw [ho], by rw [ho], by rw [ho], hm⟩, rfl⟩
/-- .. added to. -/
theorem JAddF_ct (jb : Nat) (j : Jn) (d : Dk) (fb : List (List Ck)) (bodies : List (List UInt8)) (Ab : Option Addr) (cb K L C : Nat) (B : Frag) (hf : Fits d.abs j fb) (hRb : RoS B 1 Ab bodies.length (bodies.map str)) (hc : DkN.Calm K L C d.abs) (hK : K ≤ 900000) (hL : L ≤ 10000000000) (hC : C ≤ 1000000000) (hbs : ∀ s ∈ bodies, s.length ≤ 65536) (hall : (allF bodies).length ≤ 10000000000) (hbl : bodies.length ≤ 1000000) (hjl : j.l.length ≤ 1000000000) :
    Ct Try.prog 38 [.pointer (some ⟨jb, 0, none⟩), .slice Ab bodies.length cb] B (jnH jb j * dkH j.db d) (fun v B' H' => ∃ (n e : Int) (d' : Dk) (j' : Jn) (fb' : List (List Ck)), v = .tuple #[i64 n, i64 e] ∧ H' = jnH jb j' * dkH j'.db d' ∧ j'.db = j.db ∧ j'.most = j.most ∧ Fits d'.abs j' fb' ∧
      DkN.Calm (K + 2) (L + (allF bodies).length) (C + 2) d'.abs ∧ (Still d.abs → Still d'.abs) ∧ ((e = 0 ∧ n = j.l.length ∧ j'.l = j.l ++ recsAt (fileOf j) (fileM ((fileOf j : Nat) : Int) d.abs.fs).now.length bodies) ∨ (e = 50 ∧ (addD d.abs (fileOf j) (allF bodies)).2 ≠ 0 ∧ j'.l = j.l ∧ d'.abs = d.abs))) := by
  have hfl : j.last ≤ 1000000000 := by rw [hf.last]; have := hf.holds.le; have := hc.len; omega
  refine Ct.mono (JAdd_ct jb j d bodies Ab cb K L C B hRb hc hK hL hC hbs hall hbl hjl hfl) ?_
  rintro v B' H' ⟨d', hd', ⟨h1, rfl, rfl⟩ | ⟨h1, rfl, Al, cl, rfl⟩⟩
  · have h2 := addD_fail hc h1
    rw [h2] at hd'
    have hd2 : d'.abs = d.abs := hd'
    exact ⟨0, 50, d', j, fb, by rw [h2], rfl, rfl, rfl, by rw [hd2]; exact hf, by rw [hd2]; exact hc.mono (by omega) (by omega) (by omega), fun h => by rw [hd2]; exact h, .inr ⟨rfl, h1, rfl, hd2⟩⟩
  · obtain ⟨fb', hf'⟩ := add_fits hc hf hbs h1 Al cl
    obtain ⟨_, hc', hs'⟩ := addD_done hc h1
    exact ⟨_, 0, d', _, fb', rfl, rfl, rfl, rfl, by rw [hd']; exact hf', by rw [hd']; exact hc', fun h => by rw [hd']; exact hs' h, .inl ⟨rfl, rfl, rfl⟩⟩
theorem holds_none : Holds [] [] := ⟨fun _ h => (by cases h), fun k h => absurd h (Nat.not_lt_zero _), fun _ _ => rfl⟩
theorem calm_new (n : Int) (hn : 0 ≤ n ∧ n ≤ 9223372036854775807) : DkN.Calm 0 0 0 ⟨[], n, false, [], 0⟩ := ⟨rfl, rfl, List.nodup_nil, fun f hf => (by cases hf), fun f hf => (by cases hf), Nat.le_refl _, fun f hf => (by cases hf), fun f hf => (by cases hf), hn, Nat.le_refl _⟩
theorem New2_ct (n : Int) (B : Frag) (hn : 0 ≤ n) : Ct Try.prog 22 [i64 n] B 1 (fun v B' H' => B' = B ∧ ∃ (db : Nat) (d : Dk), v = .tuple #[.pointer (some ⟨db, 0, none⟩), i64 0] ∧ d.abs = ⟨[], n, false, [], 0⟩ ∧ H' = dkH db d) :=
  Ct.mono (New_ct n B) fun v B' H' ⟨h1, h2⟩ => by
    rcases h2 with ⟨h, _⟩ | ⟨_, db, mb, h3, h4⟩
    · omega
    · exact ⟨h1, db, _, h3, rfl, h4⟩

set_option maxHeartbeats 4000000 in
theorem awake_ct (B : Frag) : CtB Try.prog 35 [] B (fun v B' => v = .bool true) := by
  refine CtB.of_body Try.func35 rfl (nt := 73) rfl (by kernel_rfl) rfl ?_
  intro N0 w0 R
  refine Cx.seq (fun K1 k1 => ?_)
  refine Cx.region ?_
  refine Lx.y (asg rfl) rfl ?_
  refine Lx.nil ?_
  refine Xx.tn (k1 _ _ _ _ ?_)
  refine Cx.seq (fun K2 k2 => ?_)
  refine Cx.region ?_
  refine Lx.c rfl rfl rfl (New2_ct 100 _ (by decide)) ((one_star _).symm) rfl ?_
  rintro v1 B1 H1 ⟨hBB, db, d, rfl, hd, rfl⟩ hB1
  have hBB2 := hBB.symm
  subst hBB2
  clear hB1
  have hc0 : DkN.Calm 0 0 0 d.abs := by rw [hd]; exact calm_new 100 (by decide)
  refine Lx.y (mv rfl) rfl ?_
  refine Lx.y (ext rfl rfl) rfl ?_
  refine Lx.y (ext rfl rfl) rfl ?_
  refine Lx.y (asg rfl) rfl ?_
  refine Lx.y (asg rfl) rfl ?_
  refine Lx.nil ?_
  refine Xx.tn (k2 _ _ _ _ ?_)
  refine Cx.seq (fun K3 k3 => ?_)
  refine Cx.region ?_
  refine Lx.y (mv rfl) rfl ?_
  refine Lx.c rfl rfl rfl (JOpenF_ct d db 50 [] 0 0 0 _ hc0 (by decide) (by decide) (by decide) (by decide) (by rw [hd]; exact holds_none)) (rfl) rfl ?_
  rintro v2 B2 H2 ⟨jb, j, rfl, hjd, hjm, hjf, rfl⟩ hB2
  subst hjd
  have hfo : fileOf j = 1 := by unfold fileOf; rw [hjf.last, hjf.long, hjm]; rfl
  have hjl : j.l = [] := hjf.l
  refine Lx.y (mv rfl) rfl ?_
  refine Lx.y (ext rfl rfl) rfl ?_
  refine Lx.y (ext rfl rfl) rfl ?_
  refine Lx.y (asg rfl) rfl ?_
  refine Lx.y (asg rfl) rfl ?_
  refine Lx.nil ?_
  refine Xx.tn (k3 _ _ _ _ ?_)
  refine Cx.seq (fun K4 k4 => ?_)
  refine Cx.seq (fun K5 k5 => ?_)
  refine Cx.region ?_
  refine Lx.y (mv rfl) rfl ?_
  refine Lx.y (Yx.ff (neI rfl rfl) rfl) rfl ?_
  refine Lx.y (mv rfl) rfl ?_
  refine Lx.gT rfl rfl rfl ?_
  refine Lx.y (mv rfl) rfl ?_
  refine Lx.gT rfl rfl rfl ?_
  refine Lx.y (Yx.ff (eqNilP Try.underlying70 rfl rfl) rfl) rfl ?_
  refine Lx.y (pickF rfl rfl) rfl ?_
  refine Lx.nil ?_
  refine Xx.tn (k5 _ _ _ _ ?_)
  refine Cx.condF rfl ?_
  refine Cx.skip ?_
  refine Xx.tn (k4 _ _ _ _ ?_)
  refine Cx.seq (fun K6 k6 => ?_)
  refine Cx.region ?_
  refine Lx.y (mv rfl) rfl ?_
  refine Lx.bsl (bsl1 Try.underlying62 ti9 rfl rfl rfl (by decide)) rfl (fun bb => ?_)
  refine Xx.freezeB bb fun B3 hB3 hbb => ?_
  simp only [star_assoc]
  have hRb : RoS B3 1 (some ⟨bb, 0, none⟩) [([97] : List UInt8), [98]].length ([([97] : List UInt8), [98]].map str) := ⟨rfl, .inr ⟨bb, 0, _, _, _, rfl, hbb, rfl⟩⟩
  refine Lx.c rfl rfl rfl (JAddF_ct jb j d [] [[97], [98]] (some ⟨bb, 0, none⟩) 2 0 0 0 _ hjf hRb hc0 (by decide) (by decide) (by decide) (by decide) (by decide) (by decide) (by rw [hjl]; decide)) ((show _ = (jnH jb j * dkH j.db d) * R by ac_rfl)) rfl ?_
  rintro v4 B4 H4 ⟨n4, e4, d4, j4, fb4, rfl, rfl, hdb4, hm4, hf4, hc4, hs4, hor⟩ hB4
  obtain ⟨rfl, rfl, hl4⟩ := hor.resolve_right (fun h => h.2.1 (by rw [hfo, hd]; kernel_rfl))
  have hst4 : Still d4.abs := hs4 (by rw [hd]; exact fun f hf => (by cases hf))
  have hcr := crash_still hst4 hc4.dead 0#64 0
  rw [hjl, hfo, hd] at hl4
  rw [hdb4]
  rw [hjl]
  refine Lx.y (mv rfl) rfl ?_
  refine Lx.y (ext rfl rfl) rfl ?_
  refine Lx.y (ext rfl rfl) rfl ?_
  refine Lx.y (asg rfl) rfl ?_
  refine Lx.y (asg rfl) rfl ?_
  refine Lx.nil ?_
  refine Xx.tn (k6 _ _ _ _ ?_)
  refine Cx.seq (fun K7 k7 => ?_)
  refine Cx.region ?_
  refine Lx.y (mv rfl) rfl ?_
  refine Lx.c rfl rfl rfl (Crash_ct d4 j.db 0#64 0 _ (hc4.fit (by decide) (by decide) (by decide))) ((show _ = dkH j.db d4 * (jnH jb j4 * R) by ac_rfl)) rfl ?_
  rintro v5 B5 H5 ⟨rfl, d5, hd5, rfl⟩ hB5
  rw [hcr] at hd5
  refine Lx.nil ?_
  refine Xx.tn (k7 _ _ _ _ ?_)
  refine Cx.seq (fun K8 k8 => ?_)
  refine Cx.region ?_
  refine Lx.y (mv rfl) rfl ?_
  refine Lx.co rfl rfl rfl (Up_ct d5 j.db _) (rfl) rfl ?_
  obtain ⟨d6, hd6⟩ : ∃ d6 : Dk, d6 = { d5 with dead := false } := ⟨_, rfl⟩
  rw [← hd6]
  have hab : d6.abs = d4.abs := by
    rw [hd6]
    show ({ d5.abs with dead := false } : Dm) = d4.abs
    rw [hd5]
    have h9 := hc4.dead
    cases hq : d4.abs with | mk a b c e f => rw [hq] at h9; simp only at h9; rw [h9]
  refine Lx.nil ?_
  refine Xx.tn (k8 _ _ _ _ ?_)
  refine Cx.seq (fun K9 k9 => ?_)
  refine Cx.region ?_
  refine Lx.y (mv rfl) rfl ?_
  refine Lx.c rfl rfl rfl (JOpenF_ct d6 j.db 50 fb4 2 _ 2 _ (by rw [hab]; exact hc4) (by decide) (by decide) (by decide) (by decide) (by rw [hab]; exact hf4.holds)) (rfl) rfl ?_
  rintro v7 B7 H7 ⟨kb, k, rfl, hkd, hkm, hkf, rfl⟩ hB7
  have hkl : k.l = [⟨1, 12, [97], true⟩, ⟨1, 25, [98], true⟩] := by rw [hkf.l, ← hf4.l, hl4]; rfl
  refine Lx.y (mv rfl) rfl ?_
  refine Lx.y (ext rfl rfl) rfl ?_
  refine Lx.y (ext rfl rfl) rfl ?_
  refine Lx.y (asg rfl) rfl ?_
  refine Lx.y (asg rfl) rfl ?_
  refine Lx.nil ?_
  refine Xx.tn (k9 _ _ _ _ ?_)
  refine Cx.seq (fun K10 k10 => ?_)
  refine Cx.region ?_
  refine Lx.y (mv rfl) rfl ?_
  refine Lx.co rfl rfl rfl (JAt_ct kb k 1 _) ((show _ = jnH kb k * (dkH j.db d6 * (jnH jb j4 * R)) by ac_rfl)) rfl ?_
  rw [show atV k.l 1 = .tuple #[.agg (rcc ⟨1, 25, [98], true⟩).toArray, .bool true] from by rw [hkl]; rfl]
  refine Lx.y (mv rfl) rfl ?_
  refine Lx.y (ext rfl rfl) rfl ?_
  refine Lx.y (ext rfl rfl) rfl ?_
  refine Lx.new (allocO ti74) rfl (fun b9 => ?_)
  refine Lx.st (stA (d := .bool) sz74 rfl rfl rfl rfl (by show 0 + 4 ≤ 4; omega) rfl) ?_
  refine Lx.y (asg rfl) rfl ?_
  refine Lx.nil ?_
  refine Xx.tn (k10 _ _ _ _ ?_)
  refine Cx.seq (fun K11 k11 => ?_)
  refine Cx.region ?_
  refine Lx.y (mv rfl) rfl ?_
  refine Lx.y (Yx.tt (eqI rfl rfl) rfl) rfl ?_
  refine Lx.y (mv rfl) rfl ?_
  refine Lx.gT rfl rfl rfl ?_
  refine Lx.y (mv rfl) rfl ?_
  refine Lx.gT rfl rfl rfl ?_
  refine Lx.y (Yx.tt (eqI rfl rfl) rfl) rfl ?_
  refine Lx.y (pickT rfl rfl) rfl ?_
  refine Lx.y (mv rfl) rfl ?_
  refine Lx.gT rfl rfl rfl ?_
  refine Lx.y (mv rfl) rfl ?_
  refine Lx.gT rfl rfl rfl ?_
  refine Lx.y (Yx.tt (eqI rfl rfl) rfl) rfl ?_
  refine Lx.y (pickT rfl rfl) rfl ?_
  refine Lx.y (mv rfl) rfl ?_
  refine Lx.gT rfl rfl rfl ?_
  refine Lx.y (mv rfl) rfl ?_
  refine Lx.gT rfl rfl rfl ?_
  refine Lx.co rfl rfl rfl (JLen_ct kb k _) ((show _ = jnH kb k * (row b9 74 (rcc ⟨1, 25, [98], true⟩) * (dkH j.db d6 * (jnH jb j4 * R))) by ac_rfl)) rfl ?_
  rw [show k.l.length = 2 from by rw [hkl]; rfl]
  refine Lx.gT rfl rfl rfl ?_
  refine Lx.y (Yx.tt (eqI rfl rfl) rfl) rfl ?_
  refine Lx.y (pickT rfl rfl) rfl ?_
  refine Lx.y (mv rfl) rfl ?_
  refine Lx.gT rfl rfl rfl ?_
  refine Lx.y (mv rfl) rfl ?_
  refine Lx.y (pickT rfl rfl) rfl ?_
  refine Lx.y (mv rfl) rfl ?_
  refine Lx.gT rfl rfl rfl ?_
  refine Lx.y (fa' fo74_2 rfl) rfl ?_
  refine Lx.gT rfl rfl rfl ?_
  refine Lx.y (ld Try.underlying9 rfl rfl rfl) rfl ?_
  refine Lx.gT rfl rfl rfl ?_
  refine Lx.y (Yx.tt (eqS rfl rfl) rfl) rfl ?_
  refine Lx.y (pickT rfl rfl) rfl ?_
  refine Lx.y (mv rfl) rfl ?_
  refine Lx.gT rfl rfl rfl ?_
  refine Lx.y (fa' fo74_3 rfl) rfl ?_
  refine Lx.gT rfl rfl rfl ?_
  refine Lx.y (ld Try.underlying4 rfl rfl rfl) rfl ?_
  refine Lx.y (pickT rfl rfl) rfl ?_
  refine Lx.y (asg rfl) rfl ?_
  refine Lx.nil ?_
  refine Xx.tn (k11 _ _ _ _ ?_)
  refine Cx.ret ?_
  repeat refine Xx.drop ?_
  exact Xx.rB1 rfl rfl rfl (Frag.le_trans hB2 (Frag.le_trans hB3 (Frag.le_trans hB4 (Frag.le_trans hB5 hB7)))) rfl
end Jn5
end Go.Proofs.Ytgcebieihmlaoaa
