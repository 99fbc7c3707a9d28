/-
  Bytes put behind a file.
-/
import Derived.Test.YtgcebieihmlaoaaProg
import Derived.Test.YtgcebieihmlaoaaSlj
import Derived.Test.YtgcebieihmlaoaaDkG
import Derived.Test.YtgcebieihmlaoaaSlx
namespace Go.Proofs.Ytgcebieihmlaoaa
open Go.SL Go.RowKit
set_option linter.unusedVariables false
set_option linter.unusedSimpArgs false
set_option maxRecDepth 100000
open DkA DkB DkC DkD DkE DkF DkG
namespace DkH
theorem sz3 : (Try.prog.info? 3).map (·.size) = some 1 := by kernel_rfl
theorem sz5 : (Try.prog.info? 5).map (·.size) = some 1 := by kernel_rfl
theorem sz25 : (Try.prog.info? 25).map (·.size) = some 3 := by kernel_rfl
theorem sz80 : (Try.prog.info? 80).map (·.size) = some 1 := by kernel_rfl
theorem ti3 : TI Try.prog 3 [.int .i64 0] 1 8 := TI.of (by kernel_rfl) rfl rfl
theorem ti5 : TI Try.prog 5 [.int .u8 0] 1 1 := TI.of (by kernel_rfl) rfl rfl
theorem ti102 : TI Try.prog 102 [.slice none 0 0, .slice none 0 0, .slice none 0 0] 3 72 := TI.of (by kernel_rfl) rfl rfl
theorem fo97_0 : FO Try.prog 97 0 0 1 false := FO.of Try.underlying97 rfl rfl (by kernel_rfl) Try.underlying94 rfl rfl
theorem fo97_1 : FO Try.prog 97 1 1 1 false := FO.of Try.underlying97 rfl rfl (by kernel_rfl) Try.underlying3 rfl rfl
theorem fo97_2 : FO Try.prog 97 2 2 1 false := FO.of Try.underlying97 rfl rfl (by kernel_rfl) Try.underlying4 rfl rfl
theorem fo102_0 : FO Try.prog 102 0 0 1 false := FO.of Try.underlying102 rfl rfl (by kernel_rfl) Try.underlying80 rfl rfl
theorem pl102 : PL Try.prog 102 [(0, 1), (1, 1), (2, 1)] := PL.of Try.underlying102 (by kernel_rfl)

/-- the file of that number, a new one else -/
def fileM (n : Int) (fs : List Fm) : Fm := (findM n fs).getD ⟨n, [], [], []⟩
def appendD (D : Dm) (n : Int) (s : List UInt8) : Dm × Int × Int :=
  if D.dead = true then (D, 0, 7) else if n < 0 then (D, 0, 1)
  else if s ≠ [] ∧ ((sec ((fileM n D.fs).now.length + s.length) : Nat) : Int) - (sec (fileM n D.fs).now.length : Nat) > D.room - (usedM D.fs : Nat) then (D, 0, 50)
  else if (strikesD D).2 = true then ((strikesD D).1, 0, 7)
  else ({ (strikesD D).1 with fs := setM ⟨n, (fileM n D.fs).now ++ s, (fileM n D.fs).sure, touchL (fileM n D.fs).loose (fileM n D.fs).now.length ((fileM n D.fs).now.length + s.length)⟩ (strikesD D).1.fs }, (((fileM n D.fs).now.length : Nat) : Int), 0)
/-- a file that is there, or a new one beside -/
theorem file_ex {n : Int} {fs : List Fi} {f : Fi} {ex : HP} (h : (findF n fs = some f ∧ ex = 1) ∨ (findF n fs = none ∧ f.m = ⟨n, [], [], []⟩ ∧ ex = fiH f)) :
    ∃ Rf, ex * fisH fs = fiH f * Rf ∧ (∀ f', f'.m.n = n → fisH (setF f' fs) = fiH f' * Rf) ∧ f.m = fileM n (fs.map (·.m)) ∧ f.m.n = n := by
  rcases h with ⟨h1, h2⟩ | ⟨h1, h2, h3⟩
  · subst h2
    obtain ⟨Rf, e1, e2, _⟩ := fisH_find h1
    refine ⟨Rf, by rw [one_star]; exact e1, e2, ?_, (findF_mem h1).2⟩
    have := findF_m n fs
    rw [h1] at this
    unfold fileM
    rw [← this]; rfl
  · subst h3
    refine ⟨fisH fs, rfl, fun f' hf => fisH_new (by rw [hf]; exact h1), ?_, by rw [h2]⟩
    have := findF_m n fs
    rw [h1] at this
    unfold fileM
    rw [← this, h2]; rfl

theorem fileM_ok {n : Int} {fs : List Fm} (h : ∀ f ∈ fs, f.Ok) : (fileM n fs).Ok := by
  induction fs with
  | nil => exact ⟨List.Pairwise.nil, fun i hi => absurd hi List.not_mem_nil, by show 0 ≤ _; omega, Nat.le_refl _⟩
  | cons g fs ih =>
    unfold fileM
    simp only [findM]
    split
    · exact h g (by simp)
    · exact ih fun f hf => h f (by simp [hf])
theorem used_le {D : Dm} (h : D.Fit) : usedM D.fs ≤ 1073741825000000 := by
  have h1 := sum_le (fun m : Fm => sec m.now.length) 1073741825 D.fs (fun m hm => by
    have := h.now m hm
    show sec _ ≤ _
    unfold sec; omega)
  have := h.len
  have h2 : D.fs.length * 1073741825 ≤ 1000000 * 1073741825 := Nat.mul_le_mul_right _ this
  unfold usedM
  omega
theorem strikes_ct2 (d : Dk) (db : Nat) (B : Frag) (hF : d.abs.Fit) : Ct Try.prog 48 [.pointer (some ⟨db, 0, none⟩)] B (dkH db d) (fun v B' H' => v = .bool (strikesD d.abs).2 ∧ ((strikesD d.abs).2 = false → (strikesD d.abs).1 = { d.abs with ch := d.ch + 1 } ∧ H' = dkH db { d with ch := d.ch + 1 }) ∧ ((strikesD d.abs).2 = true → ∃ d' : Dk, d'.abs = (strikesD d.abs).1 ∧ H' = dkH db d')) := by
  refine Ct.mono (strikes_ct d db B hF) ?_
  rintro v B' H' (⟨rfl, h1, rfl⟩ | ⟨rfl, h1, d', h2, rfl⟩)
  · rw [h1]; exact ⟨rfl, fun _ => ⟨rfl, rfl⟩, fun h => (by cases h)⟩
  · rw [h1]; exact ⟨rfl, fun h => (by cases h), fun _ => ⟨d', h2, rfl⟩⟩

set_option maxHeartbeats 4000000 in
theorem Append_ct (d : Dk) (db : Nat) (n : Int) (s : List UInt8) (B : Frag) (hF : d.abs.Fit) (hs : s.length ≤ 68719476736) : Ct Try.prog 15 [.pointer (some ⟨db, 0, none⟩), i64 n, str s] B (dkH db d) (fun v B' H' => v = .tuple #[i64 (appendD d.abs n s).2.1, i64 (appendD d.abs n s).2.2] ∧ ∃ d' : Dk, d'.abs = (appendD d.abs n s).1 ∧ H' = dkH db d') := by
  have hroom := hF.room
  have hused := used_le hF
  have hroom1 : 0 ≤ d.room := hroom.1
  have hroom2 : d.room ≤ 9223372036854775807 := hroom.2
  refine Ct.of_body Try.func15 rfl (nt := 82) rfl (by kernel_rfl) rfl ?_
  intro N0 w0 R
  unfold dkH
  simp only [star_assoc]
  refine Cx.seq (fun K1 k1 => ?_)
  refine Cx.region ?_
  refine Lx.y (asg rfl) rfl ?_
  refine Lx.y (asg rfl) rfl ?_
  refine Lx.nil ?_
  refine Xx.tn (k1 _ _ _ _ ?_)
  refine Cx.seq (fun K2 k2 => ?_)
  refine Cx.block ?_
  refine Cx.seq (fun K3 k3 => ?_)
  refine Cx.region ?_
  refine Lx.y (mv rfl) rfl ?_
  refine Lx.y (Yx.ff (eqNilP Try.underlying26 rfl rfl) rfl) rfl ?_
  refine Lx.y (mv rfl) rfl ?_
  refine Lx.gT rfl rfl rfl ?_
  refine Lx.y (mv rfl) rfl ?_
  refine Lx.gT rfl rfl rfl ?_
  refine Lx.y (nilc rfl) rfl ?_
  refine Lx.gT rfl rfl rfl ?_
  refine Lx.y (fa' fo97_2 rfl) rfl ?_
  refine Lx.gT rfl rfl rfl ?_
  refine Lx.y (ld Try.underlying4 rfl rfl rfl) rfl ?_
  refine Lx.y (pickF rfl rfl) rfl ?_
  refine Lx.y (asg rfl) rfl ?_
  refine Lx.nil ?_
  refine Xx.tn (k3 _ _ _ _ ?_)
  refine Cx.condB rfl (fun h4 => ?_) (fun h4 => ?_)
  · skip
    have hd := h4
    refine Cx.seq (fun K5 k5 => ?_)
    refine Cx.region ?_
    refine Lx.y (asg rfl) rfl ?_
    refine Lx.y (asg rfl) rfl ?_
    refine Lx.nil ?_
    refine Xx.tn (k5 _ _ _ _ ?_)
    refine Cx.ret ?_
    refine Xx.br ?_
    refine Xx.tr ?_
    exact Xx.ret2 rfl rfl rfl ⟨by unfold appendD; rw [if_pos (show d.abs.dead = true from hd)], d, by unfold appendD; rw [if_pos (show d.abs.dead = true from hd)], rfl⟩ (Frag.le_refl _) (by ac_rfl)
  · skip
    have hd := h4
    have hdd : ¬ d.abs.dead = true := fun h => by rw [show d.abs.dead = d.dead from rfl, hd] at h; cases h
    refine Cx.seq (fun K6 k6 => ?_)
    refine Cx.region ?_
    refine Lx.y (mv rfl) rfl ?_
    refine Lx.y (lss rfl rfl) rfl ?_
    refine Lx.y (asg rfl) rfl ?_
    refine Lx.nil ?_
    refine Xx.tn (k6 _ _ _ _ ?_)
    refine Cx.condD rfl (fun h7 => ?_) (fun h7 => ?_)
    · skip
      have hn := h7
      refine Cx.seq (fun K8 k8 => ?_)
      refine Cx.region ?_
      refine Lx.y (asg rfl) rfl ?_
      refine Lx.y (asg rfl) rfl ?_
      refine Lx.nil ?_
      refine Xx.tn (k8 _ _ _ _ ?_)
      refine Cx.ret ?_
      refine Xx.br ?_
      refine Xx.tr ?_
      exact Xx.ret2 rfl rfl rfl ⟨by unfold appendD; rw [if_neg hdd, if_pos hn], d, by unfold appendD; rw [if_neg hdd, if_pos hn], rfl⟩ (Frag.le_refl _) (by ac_rfl)
    · skip
      have hn := h7
      refine Cx.skip ?_
      refine Xx.bn ?_
      refine Xx.tn (k2 _ _ _ _ ?_)
      refine Cx.seq (fun K9 k9 => ?_)
      refine Cx.region ?_
      refine Lx.y (mv rfl) rfl ?_
      refine Lx.y (nilc rfl) rfl ?_
      refine Lx.y (fa' fo97_0 rfl) rfl ?_
      refine Lx.y (ld Try.underlying94 rfl rfl rfl) rfl ?_
      refine Lx.y (mv rfl) rfl ?_
      refine Lx.y (lkM Try.underlying94 Try.underlying3 Try.zeroValue95 rfl rfl (v := .pointer ((findF n d.fs).map fun f => ⟨f.b, 0, none⟩)) (by rw [mget_find]; cases findF n d.fs <;> rfl)) rfl ?_
      refine Lx.y (asg rfl) rfl ?_
      refine Lx.nil ?_
      refine Xx.tn (k9 _ _ _ _ ?_)
      refine Cx.cutK (ds' := []) (Sub.cons (s := 0) rfl (Sub.cons (s := 1) rfl (Sub.cons (s := 2) rfl (Sub.cons (s := 6) rfl (Sub.cons (s := 7) rfl (Sub.cons (s := 10) rfl (Sub.cons (s := 11) rfl (Sub.cons (s := 12) rfl (Sub.cons (s := 13) rfl (Sub.cons (s := 14) rfl (Sub.cons (s := 15) rfl (Sub.cons (s := 16) rfl (Sub.cons (s := 17) rfl (Sub.cons (s := 18) rfl (Sub.cons (s := 19) rfl (Sub.cons (s := 20) rfl (Sub.cons (s := 21) rfl (Sub.cons (s := 22) rfl (Sub.cons (s := 23) rfl (Sub.cons (s := 24) rfl (Sub.cons (s := 25) rfl (Sub.cons (s := 26) rfl (Sub.cons (s := 27) rfl (Sub.nil _)))))))))))))))))))))))) (fun ρ' B' H' => ∃ (f : Fi) (ex Rf : HP), ρ' = [(8, .pointer (some ⟨f.b, 0, none⟩))] ∧ B = B' ∧ row db 97 (dcs d) * (imap d.mb (d.fs.map fkv) * (sbuf 25 3 d.Ap d.plan.length d.cp (d.plan.flatMap scs) * (fiH f * (Rf * R)))) = H' ∧ ex * fisH d.fs = fiH f * Rf ∧ (∀ f' : Fi, f'.m.n = n → fisH (setF f' d.fs) = fiH f' * Rf) ∧ f.m = fileM n d.abs.fs ∧ f.m.n = n) ?_ ?_
      · skip
        refine Cx.seq (fun K10 k10 => ?_)
        refine Cx.region ?_
        refine Lx.y (mv rfl) rfl ?_
        refine Lx.y (eqNilP Try.underlying95 rfl rfl) rfl ?_
        refine Lx.nil ?_
        refine Xx.tn (k10 _ _ _ _ ?_)
        refine Cx.condB rfl (fun h11 => ?_) (fun h11 => ?_)
        · skip
          have hq : findF n d.fs = none := by
            cases hq : findF n d.fs with
            | none => rfl
            | some f => have h9 := h11; rw [hq] at h9; cases h9
          refine Cx.region ?_
          refine Lx.y (bld ti102 pl102 rfl rfl) rfl ?_
          refine Lx.new (boxA rfl) rfl (fun fb => ?_)
          refine Lx.y (asg rfl) rfl ?_
          refine Lx.nil ?_
          obtain ⟨Rf, e1, e2, e3, e4⟩ := file_ex (n := n) (fs := d.fs) (f := ⟨⟨n, [], [], []⟩, fb, none, 0, none, 0, none, 0⟩) (ex := fiH ⟨⟨n, [], [], []⟩, fb, none, 0, none, 0, none, 0⟩) (.inr ⟨hq, rfl, rfl⟩)
          have hfi : fiH ⟨⟨n, [], [], []⟩, fb, none, 0, none, 0, none, 0⟩ = row fb 102 [.slice none 0 0, .slice none 0 0, .slice none 0 0] := by
            unfold fiH fcs
            rw [show u8s [] = [] from rfl, show nv [] = [] from rfl]
            simp only [List.length_nil, sbuf_nil, star_one]
          exact Xx.mkK (⟨⟨⟨n, [], [], []⟩, fb, none, 0, none, 0, none, 0⟩, _, Rf, rfl, rfl, by rw [← star_assoc (fiH _) Rf R, ← e1, hfi]; ac_rfl, e1, e2, e3, e4⟩) (Sub.cons (s := 8) rfl (Sub.cons (s := 0) rfl (Sub.cons (s := 1) rfl (Sub.cons (s := 2) rfl (Sub.cons (s := 6) rfl (Sub.cons (s := 7) rfl (Sub.cons (s := 10) rfl (Sub.cons (s := 11) rfl (Sub.cons (s := 12) rfl (Sub.cons (s := 13) rfl (Sub.cons (s := 14) rfl (Sub.cons (s := 15) rfl (Sub.cons (s := 16) rfl (Sub.cons (s := 17) rfl (Sub.cons (s := 18) rfl (Sub.cons (s := 19) rfl (Sub.cons (s := 20) rfl (Sub.cons (s := 21) rfl (Sub.cons (s := 22) rfl (Sub.cons (s := 23) rfl (Sub.cons (s := 24) rfl (Sub.cons (s := 25) rfl (Sub.cons (s := 26) rfl (Sub.cons (s := 27) rfl (Sub.nil _)))))))))))))))))))))))))
        · skip
          obtain ⟨f, hff⟩ : ∃ f, findF n d.fs = some f := by
            cases hq : findF n d.fs with
            | none => have h9 := h11; rw [hq] at h9; cases h9
            | some f => exact ⟨f, rfl⟩
          refine Cx.skip ?_
          obtain ⟨Rf, e1, e2, e3, e4⟩ := file_ex (n := n) (fs := d.fs) (f := f) (ex := 1) (.inl ⟨hff, rfl⟩)
          exact Xx.mkK (⟨f, 1, Rf, rfl, rfl, by rw [← star_assoc (fiH f) Rf R, ← e1, one_star], e1, e2, e3, e4⟩) (Sub.consE (s := 8) rfl (by rw [hff]; rfl) (Sub.cons (s := 0) rfl (Sub.cons (s := 1) rfl (Sub.cons (s := 2) rfl (Sub.cons (s := 6) rfl (Sub.cons (s := 7) rfl (Sub.cons (s := 10) rfl (Sub.cons (s := 11) rfl (Sub.cons (s := 12) rfl (Sub.cons (s := 13) rfl (Sub.cons (s := 14) rfl (Sub.cons (s := 15) rfl (Sub.cons (s := 16) rfl (Sub.cons (s := 17) rfl (Sub.cons (s := 18) rfl (Sub.cons (s := 19) rfl (Sub.cons (s := 20) rfl (Sub.cons (s := 21) rfl (Sub.cons (s := 22) rfl (Sub.cons (s := 23) rfl (Sub.cons (s := 24) rfl (Sub.cons (s := 25) rfl (Sub.cons (s := 26) rfl (Sub.cons (s := 27) rfl (Sub.nil _)))))))))))))))))))))))))
      · rintro ρ' B' H' ⟨f, ex, Rf, rfl, rfl, rfl, hex, hset, hfm, hfn⟩
        have hfo : f.m.Ok := by rw [hfm]; exact fileM_ok fun g hg => hF.ok hg
        have hfo3 := hfo.2.2.1
        have hback : ∀ X : HP, X * (imap d.mb (d.fs.map fkv) * (sbuf 25 3 d.Ap d.plan.length d.cp (d.plan.flatMap scs) * (fiH f * (Rf * R)))) = (X * (imap d.mb (d.fs.map fkv) * (sbuf 25 3 d.Ap d.plan.length d.cp (d.plan.flatMap scs) * fisH d.fs))) * (ex * R) := fun X => by rw [← star_assoc (fiH f) Rf R, ← hex]; ac_rfl
        have hun : fiH f * (Rf * R) = row f.b 102 (fcs f) * (sbuf 5 1 f.An f.m.now.length f.cn (u8s f.m.now) * (sbuf 5 1 f.As f.m.sure.length f.cs (u8s f.m.sure) * (sbuf 3 1 f.Al f.m.loose.length f.cl (nv f.m.loose) * (Rf * R)))) := by unfold fiH; ac_rfl
        rw [hun] at hback ⊢
        refine Cx.seq (fun K12 k12 => ?_)
        refine Cx.region ?_
        refine Lx.y (mv rfl) rfl ?_
        refine Lx.y (nilc rfl) rfl ?_
        refine Lx.y (fa' fo102_0 rfl) rfl ?_
        refine Lx.y (Yx.val (ld Try.underlying80 rfl rfl rfl) (show _ = Value.slice f.An f.m.now.length f.cn from rfl)) rfl ?_
        refine Lx.y (lenV (ty' := 0) Try.underlying80 rfl) rfl ?_
        refine Lx.y (asg rfl) rfl ?_
        refine Lx.nil ?_
        refine Xx.tn (k12 _ _ _ _ ?_)
        refine Cx.seq (fun K13 k13 => ?_)
        refine Cx.seq (fun K14 k14 => ?_)
        refine Cx.drawn (by kernel_rfl) ?_
        refine Dx.p (i := 0) rfl (by kernel_rfl) (mv rfl) rfl ?_
        refine Dx.p (i := 1) rfl (by kernel_rfl) (neS rfl rfl) rfl ?_
        refine Dx.p (i := 2) rfl (by kernel_rfl) (mv rfl) rfl ?_
        refine Xx.ifN (t := 39) rfl (fun h15 => ?_) (fun h15 => ?_)
        · skip
          have g1 := h15
          refine Dx.pT (i := 3) rfl rfl rfl rfl (by kernel_rfl) (mv rfl) rfl ?_
          refine Dx.pT (i := 4) rfl rfl rfl rfl (by kernel_rfl) (mv rfl) rfl ?_
          refine Dx.pT (i := 5) rfl rfl rfl rfl (by kernel_rfl) (lenS Try.underlying9 rfl) rfl ?_
          refine Dx.pT (i := 6) rfl rfl rfl rfl (by kernel_rfl) (Yx.val (add rfl rfl (by first | exact wrap64 (by omega) (by omega) | rfl)) (show _ = i64 ((f.m.now.length + s.length : Nat) : Int) from rfl)) rfl ?_
          refine Dx.pT (i := 8) rfl rfl rfl rfl (by kernel_rfl) (mv rfl) rfl ?_
          refine Dx.pT (i := 11) rfl rfl rfl rfl (by kernel_rfl) (mv rfl) rfl ?_
          refine Dx.pT (i := 12) rfl rfl rfl rfl (by kernel_rfl) (nilc rfl) rfl ?_
          refine Dx.pT (i := 13) rfl rfl rfl rfl (by kernel_rfl) (fa' fo97_1 rfl) rfl ?_
          refine Dx.rT (i := 14) rfl rfl rfl rfl (by kernel_rfl) (Yx.val (ld Try.underlying3 rfl rfl rfl) (show _ = i64 d.room from rfl)) rfl ?_
          refine Dx.pT (i := 15) rfl rfl rfl rfl (by kernel_rfl) (mv rfl) rfl ?_
          refine Dx.one (i := 7) (by kernel_rfl) ?_
          refine Dstep.oT (i := 7) rfl rfl rfl rfl (Ox.cb rfl rfl rfl (sectors_ct (f.m.now.length + s.length) _ (by omega))) rfl (fun v B' H' hΦ hB => ?_)
          obtain ⟨rfl, rfl, hBB⟩ := hΦ; have hBB2 := hBB.symm; subst hBB2; clear hB
          refine ⟨JOk.yes (JOk.top) (Yx.val (ld Try.underlying3 rfl rfl rfl) (show _ = i64 d.room from rfl)), ?_⟩
          refine Dx.one (i := 9) (by kernel_rfl) ?_
          refine Dstep.oT (i := 9) rfl rfl rfl rfl (Ox.cb rfl rfl rfl (sectors_ct f.m.now.length _ (by omega))) rfl (fun v B' H' hΦ hB => ?_)
          obtain ⟨rfl, rfl, hBB⟩ := hΦ; have hBB2 := hBB.symm; subst hBB2; clear hB
          refine ⟨JOk.yes (JOk.top) (Yx.val (ld Try.underlying3 rfl rfl rfl) (show _ = i64 d.room from rfl)), ?_⟩
          refine Dx.pT (i := 10) rfl rfl rfl rfl (by kernel_rfl) (sub rfl rfl (by exact wrap64 (by unfold sec; omega) (by unfold sec; omega))) rfl ?_
          refine Dx.one (i := 16) (by kernel_rfl) ?_
          refine Dstep.oT (i := 16) rfl rfl rfl rfl (Ox.co rfl rfl rfl (Used_ct d db _ hF) (hback _)) rfl (fun v B' H' hΦ hB => ?_)
          obtain ⟨rfl, rfl, rfl⟩ := hΦ; clear hB
          rw [show dkH db d * (ex * R) = row db 97 (dcs d) * (imap d.mb (d.fs.map fkv) * (sbuf 25 3 d.Ap d.plan.length d.cp (d.plan.flatMap scs) * (row f.b 102 (fcs f) * (sbuf 5 1 f.An f.m.now.length f.cn (u8s f.m.now) * (sbuf 5 1 f.As f.m.sure.length f.cs (u8s f.m.sure) * (sbuf 3 1 f.Al f.m.loose.length f.cl (nv f.m.loose) * (Rf * R))))))) from (hback _).symm]
          refine ⟨JOk.yes (JOk.top) (Yx.val (ld Try.underlying3 rfl rfl rfl) (show _ = i64 d.room from rfl)), ?_⟩
          refine Dx.pT (i := 17) rfl rfl rfl rfl (by kernel_rfl) (sub rfl rfl (by exact wrap64 (by omega) (by omega))) rfl ?_
          refine Dx.pT (i := 18) rfl rfl rfl rfl (by kernel_rfl) (gtr rfl rfl) rfl ?_
          refine Dx.p (i := 19) rfl (by kernel_rfl) (pickT rfl rfl) rfl ?_
          refine Dx.done (by kernel_rfl) ?_
          refine Xx.tn (k14 _ _ _ _ ?_)
          refine Cx.condD rfl (fun h16 => ?_) (fun h16 => ?_)
          · skip
            have g2 := h16
            refine Cx.seq (fun K17 k17 => ?_)
            refine Cx.region ?_
            refine Lx.y (asg rfl) rfl ?_
            refine Lx.y (asg rfl) rfl ?_
            refine Lx.nil ?_
            refine Xx.tn (k17 _ _ _ _ ?_)
            refine Cx.ret ?_
            refine Xx.tr ?_
            have hg : s ≠ [] ∧ ((sec ((fileM n d.abs.fs).now.length + s.length) : Nat) : Int) - (sec (fileM n d.abs.fs).now.length : Nat) > d.abs.room - (usedM d.abs.fs : Nat) := by rw [← hfm]; exact ⟨g1, g2⟩
            have hap : appendD d.abs n s = (d.abs, 0, 50) := by unfold appendD; rw [if_neg hdd, if_neg hn, if_pos hg]
            refine Xx.perm (Xx.perm (Xx.drop (p := ex) (H := dkH db d * R) ?_) (star_left _ _ _)) (hback _)
            exact Xx.ret2 rfl rfl rfl ⟨by rw [hap], d, by rw [hap], rfl⟩ (Frag.le_refl _) rfl
          · skip
            have g2 := h16
            refine Cx.skip ?_
            refine Xx.tn (k13 _ _ _ _ ?_)
            refine Cx.seq (fun K18 k18 => ?_)
            refine Cx.seq (fun K19 k19 => ?_)
            refine Cx.region ?_
            refine Lx.y (mv rfl) rfl ?_
            refine Lx.c rfl rfl rfl (strikes_ct2 d db _ hF) (hback _) rfl ?_
            rintro v1 B1 H1 ⟨rfl, hFf, hTt⟩ hB1
            refine Lx.nil ?_
            refine Xx.tn (k19 _ _ _ _ ?_)
            refine Cx.condB rfl (fun h20 => ?_) (fun h20 => ?_)
            · skip
              have g3 := h20
              obtain ⟨d2, hd2, rfl⟩ := hTt g3
              refine Cx.seq (fun K21 k21 => ?_)
              refine Cx.region ?_
              refine Lx.y (asg rfl) rfl ?_
              refine Lx.y (asg rfl) rfl ?_
              refine Lx.nil ?_
              refine Xx.tn (k21 _ _ _ _ ?_)
              refine Cx.ret ?_
              refine Xx.tr ?_
              have hg : ¬ (s ≠ [] ∧ ((sec ((fileM n d.abs.fs).now.length + s.length) : Nat) : Int) - (sec (fileM n d.abs.fs).now.length : Nat) > d.abs.room - (usedM d.abs.fs : Nat)) := fun h => by rw [← hfm] at h; exact g2 h.2
              have hap : appendD d.abs n s = ((strikesD d.abs).1, 0, 7) := by unfold appendD; rw [if_neg hdd, if_neg hn, if_neg hg, if_pos g3]
              refine Xx.perm (Xx.drop (p := ex) (H := dkH db d2 * R) ?_) (star_left _ _ _)
              exact Xx.ret2 rfl rfl rfl ⟨by rw [hap], d2, by rw [hap]; exact hd2, rfl⟩ hB1 rfl
            · skip
              have g3 := h20
              obtain ⟨hs1, rfl⟩ := hFf g3
              rw [show dkH db { d with ch := d.ch + 1 } * (ex * R) = row db 97 (dcs { d with ch := d.ch + 1 }) * (imap d.mb (d.fs.map fkv) * (sbuf 25 3 d.Ap d.plan.length d.cp (d.plan.flatMap scs) * (row f.b 102 (fcs f) * (sbuf 5 1 f.An f.m.now.length f.cn (u8s f.m.now) * (sbuf 5 1 f.As f.m.sure.length f.cs (u8s f.m.sure) * (sbuf 3 1 f.Al f.m.loose.length f.cl (nv f.m.loose) * (Rf * R))))))) from (hback _).symm]
              refine Cx.skip ?_
              refine Xx.tn (k18 _ _ _ _ ?_)
              refine Cx.seq (fun K22 k22 => ?_)
              refine Cx.region ?_
              refine Lx.y (mv rfl) rfl ?_
              refine Lx.y (nilc rfl) rfl ?_
              refine Lx.y (fa' fo97_0 rfl) rfl ?_
              refine Lx.y (ld Try.underlying94 rfl rfl rfl) rfl ?_
              refine Lx.y (mv rfl) rfl ?_
              refine Lx.y (mv rfl) rfl ?_
              refine Lx.o0 (stM Try.underlying94 Try.underlying3 rfl rfl rfl) (fun v B' H' hΦ hB => ?_)
              obtain ⟨hBB, rfl⟩ := hΦ
              have hBB2 := hBB.symm
              subst hBB2
              clear hB
              refine Lx.nil ?_
              refine Xx.tn (k22 _ _ _ _ ?_)
              refine Cx.seq (fun K23 k23 => ?_)
              refine Cx.region ?_
              refine Lx.y (mv rfl) rfl ?_
              refine Lx.y (mv rfl) rfl ?_
              refine Lx.y (nilc rfl) rfl ?_
              refine Lx.y (fa' fo102_0 rfl) rfl ?_
              refine Lx.y (Yx.val (ld Try.underlying80 rfl rfl rfl) (show _ = Value.slice f.An f.m.now.length f.cn from rfl)) rfl ?_
              refine Lx.y (mv rfl) rfl ?_
              refine Lx.o (appT (et := 5) (A := f.An) (f.m.now.length + s.length) (u8s (f.m.now ++ s)) Try.underlying80 Try.underlying9 ti5 rfl rfl (by omega) (by omega) rfl (by rw [u8s_app])) rfl (fun v B' H' hΦ hB => ?_)
              obtain ⟨A2, c2, rfl, hA2, hc2, hBB, rfl⟩ := hΦ
              have hBB2 := hBB.symm
              subst hBB2
              clear hB
              refine Lx.y (nilc rfl) rfl ?_
              refine Lx.y (fa' fo102_0 rfl) rfl ?_
              refine Lx.st (stO Try.underlying80 sz80 rfl rfl rfl (by show 0 < 3; omega) rfl) ?_
              refine Lx.nil ?_
              refine Xx.tn (k23 _ _ _ _ ?_)
              refine Cx.seq (fun K24 k24 => ?_)
              refine Cx.region ?_
              refine Lx.y (mv rfl) rfl ?_
              refine Lx.y (mv rfl) rfl ?_
              refine Lx.y (mv rfl) rfl ?_
              refine Lx.y (mv rfl) rfl ?_
              refine Lx.y (lenS Try.underlying9 rfl) rfl ?_
              refine Lx.y (Yx.val (add rfl rfl (by first | exact wrap64 (by omega) (by omega) | rfl)) (show _ = i64 ((f.m.now.length + s.length : Nat) : Int) from rfl)) rfl ?_
              refine Lx.c rfl rfl rfl (touch_ct ⟨⟨n, f.m.now ++ s, f.m.sure, f.m.loose⟩, f.b, A2, c2, f.As, f.cs, f.Al, f.cl⟩ f.m.now.length (f.m.now.length + s.length) _ hfo.1 (by have := hfo.loose; show f.m.loose.length ≤ _; omega) (by omega) (by omega)) ((show _ = fiH ⟨⟨n, f.m.now ++ s, f.m.sure, f.m.loose⟩, f.b, A2, c2, f.As, f.cs, f.Al, f.cl⟩ * (row db 97 (dcs { d with ch := d.ch + 1 }) * (imap d.mb (mset n (.pointer (some ⟨f.b, 0, none⟩)) (d.fs.map fkv)) * (sbuf 25 3 d.Ap d.plan.length d.cp (d.plan.flatMap scs) * (Rf * R)))) by unfold fiH fcs; simp only [List.length_append]; generalize f.m.now.length + s.length = q; ac_rfl)) rfl ?_
              rintro v2 B2 H2 ⟨hBB, rfl, Al9, cl9, rfl⟩ hB2
              refine Lx.nil ?_
              refine Xx.tn (k24 _ _ _ _ ?_)
              refine Cx.seq (fun K25 k25 => ?_)
              refine Cx.region ?_
              refine Lx.y (mv rfl) rfl ?_
              refine Lx.y (asg rfl) rfl ?_
              refine Lx.y (asg rfl) rfl ?_
              refine Lx.nil ?_
              refine Xx.tn (k25 _ _ _ _ ?_)
              refine Cx.ret ?_
              have hg : ¬ (s ≠ [] ∧ ((sec ((fileM n d.abs.fs).now.length + s.length) : Nat) : Int) - (sec (fileM n d.abs.fs).now.length : Nat) > d.abs.room - (usedM d.abs.fs : Nat)) := fun h => by rw [← hfm] at h; exact g2 h.2
              have hap : appendD d.abs n s = ({ d.abs with ch := d.ch + 1, fs := setM ⟨n, f.m.now ++ s, f.m.sure, touchL f.m.loose f.m.now.length (f.m.now.length + s.length)⟩ d.abs.fs }, ((f.m.now.length : Nat) : Int), 0) := by
                unfold appendD
                rw [if_neg hdd, if_neg hn, if_neg hg, if_neg (by rw [g3]; decide), hs1, ← hfm]
              have e1 := hset ⟨⟨n, f.m.now ++ s, f.m.sure, touchL f.m.loose f.m.now.length (f.m.now.length + s.length)⟩, f.b, A2, c2, f.As, f.cs, Al9, cl9⟩ rfl
              have e2 := mset_set ⟨⟨n, f.m.now ++ s, f.m.sure, touchL f.m.loose f.m.now.length (f.m.now.length + s.length)⟩, f.b, A2, c2, f.As, f.cs, Al9, cl9⟩ d.fs
              exact Xx.ret2 rfl rfl rfl ⟨by rw [hap], { d with ch := d.ch + 1, fs := setF ⟨⟨n, f.m.now ++ s, f.m.sure, touchL f.m.loose f.m.now.length (f.m.now.length + s.length)⟩, f.b, A2, c2, f.As, f.cs, Al9, cl9⟩ d.fs }, by rw [hap]; unfold Dk.abs; simp only [setF_m], rfl⟩ (by first | exact hB1 | exact Frag.le_trans hB1 hB2) (by show _ = (row db 97 (dcs { d with ch := d.ch + 1 }) * (imap d.mb ((setF ⟨⟨n, f.m.now ++ s, f.m.sure, touchL f.m.loose f.m.now.length (f.m.now.length + s.length)⟩, f.b, A2, c2, f.As, f.cs, Al9, cl9⟩ d.fs).map fkv) * (sbuf 25 3 d.Ap d.plan.length d.cp (d.plan.flatMap scs) * fisH (setF ⟨⟨n, f.m.now ++ s, f.m.sure, touchL f.m.loose f.m.now.length (f.m.now.length + s.length)⟩, f.b, A2, c2, f.As, f.cs, Al9, cl9⟩ d.fs)))) * R; rw [e1, ← e2]; ac_rfl)
        · skip
          have g1 := h15
          refine Dx.pF (i := 3) rfl (fun _ h => by cases h) rfl rfl rfl (by kernel_rfl) rfl ?_
          refine Dx.pF (i := 4) rfl (fun _ h => by cases h) rfl rfl rfl (by kernel_rfl) rfl ?_
          refine Dx.pF (i := 5) rfl (fun _ h => by cases h) rfl rfl rfl (by kernel_rfl) rfl ?_
          refine Dx.pF (i := 6) rfl (fun _ h => by cases h) rfl rfl rfl (by kernel_rfl) rfl ?_
          refine Dx.pF (i := 7) rfl (fun _ h => by cases h) rfl rfl rfl (by kernel_rfl) rfl ?_
          refine Dx.pF (i := 8) rfl (fun _ h => by cases h) rfl rfl rfl (by kernel_rfl) rfl ?_
          refine Dx.pF (i := 9) rfl (fun _ h => by cases h) rfl rfl rfl (by kernel_rfl) rfl ?_
          refine Dx.pF (i := 10) rfl (fun _ h => by cases h) rfl rfl rfl (by kernel_rfl) rfl ?_
          refine Dx.pF (i := 11) rfl (fun _ h => by cases h) rfl rfl rfl (by kernel_rfl) rfl ?_
          refine Dx.pF (i := 12) rfl (fun _ h => by cases h) rfl rfl rfl (by kernel_rfl) rfl ?_
          refine Dx.pF (i := 13) rfl (fun _ h => by cases h) rfl rfl rfl (by kernel_rfl) rfl ?_
          refine Dx.pF (i := 14) rfl (fun _ h => by cases h) rfl rfl rfl (by kernel_rfl) rfl ?_
          refine Dx.pF (i := 15) rfl (fun _ h => by cases h) rfl rfl rfl (by kernel_rfl) rfl ?_
          refine Dx.pF (i := 16) rfl (fun _ h => by cases h) rfl rfl rfl (by kernel_rfl) rfl ?_
          refine Dx.pF (i := 17) rfl (fun _ h => by cases h) rfl rfl rfl (by kernel_rfl) rfl ?_
          refine Dx.pF (i := 18) rfl (fun _ h => by cases h) rfl rfl rfl (by kernel_rfl) rfl ?_
          refine Dx.p (i := 19) rfl (by kernel_rfl) (pickF rfl rfl) rfl ?_
          refine Dx.done (by kernel_rfl) ?_
          refine Xx.tn (k14 _ _ _ _ ?_)
          refine Cx.condF rfl ?_
          refine Cx.skip ?_
          refine Xx.tn (k13 _ _ _ _ ?_)
          refine Cx.seq (fun K26 k26 => ?_)
          refine Cx.seq (fun K27 k27 => ?_)
          refine Cx.region ?_
          refine Lx.y (mv rfl) rfl ?_
          refine Lx.c rfl rfl rfl (strikes_ct2 d db _ hF) (hback _) rfl ?_
          rintro v1 B1 H1 ⟨rfl, hFf, hTt⟩ hB1
          refine Lx.nil ?_
          refine Xx.tn (k27 _ _ _ _ ?_)
          refine Cx.condB rfl (fun h28 => ?_) (fun h28 => ?_)
          · skip
            have g3 := h28
            obtain ⟨d2, hd2, rfl⟩ := hTt g3
            refine Cx.seq (fun K29 k29 => ?_)
            refine Cx.region ?_
            refine Lx.y (asg rfl) rfl ?_
            refine Lx.y (asg rfl) rfl ?_
            refine Lx.nil ?_
            refine Xx.tn (k29 _ _ _ _ ?_)
            refine Cx.ret ?_
            refine Xx.tr ?_
            have hg : ¬ (s ≠ [] ∧ ((sec ((fileM n d.abs.fs).now.length + s.length) : Nat) : Int) - (sec (fileM n d.abs.fs).now.length : Nat) > d.abs.room - (usedM d.abs.fs : Nat)) := fun h => h.1 g1
            have hap : appendD d.abs n s = ((strikesD d.abs).1, 0, 7) := by unfold appendD; rw [if_neg hdd, if_neg hn, if_neg hg, if_pos g3]
            refine Xx.perm (Xx.drop (p := ex) (H := dkH db d2 * R) ?_) (star_left _ _ _)
            exact Xx.ret2 rfl rfl rfl ⟨by rw [hap], d2, by rw [hap]; exact hd2, rfl⟩ hB1 rfl
          · skip
            have g3 := h28
            obtain ⟨hs1, rfl⟩ := hFf g3
            rw [show dkH db { d with ch := d.ch + 1 } * (ex * R) = row db 97 (dcs { d with ch := d.ch + 1 }) * (imap d.mb (d.fs.map fkv) * (sbuf 25 3 d.Ap d.plan.length d.cp (d.plan.flatMap scs) * (row f.b 102 (fcs f) * (sbuf 5 1 f.An f.m.now.length f.cn (u8s f.m.now) * (sbuf 5 1 f.As f.m.sure.length f.cs (u8s f.m.sure) * (sbuf 3 1 f.Al f.m.loose.length f.cl (nv f.m.loose) * (Rf * R))))))) from (hback _).symm]
            refine Cx.skip ?_
            refine Xx.tn (k26 _ _ _ _ ?_)
            refine Cx.seq (fun K30 k30 => ?_)
            refine Cx.region ?_
            refine Lx.y (mv rfl) rfl ?_
            refine Lx.y (nilc rfl) rfl ?_
            refine Lx.y (fa' fo97_0 rfl) rfl ?_
            refine Lx.y (ld Try.underlying94 rfl rfl rfl) rfl ?_
            refine Lx.y (mv rfl) rfl ?_
            refine Lx.y (mv rfl) rfl ?_
            refine Lx.o0 (stM Try.underlying94 Try.underlying3 rfl rfl rfl) (fun v B' H' hΦ hB => ?_)
            obtain ⟨hBB, rfl⟩ := hΦ
            have hBB2 := hBB.symm
            subst hBB2
            clear hB
            refine Lx.nil ?_
            refine Xx.tn (k30 _ _ _ _ ?_)
            refine Cx.seq (fun K31 k31 => ?_)
            refine Cx.region ?_
            refine Lx.y (mv rfl) rfl ?_
            refine Lx.y (mv rfl) rfl ?_
            refine Lx.y (nilc rfl) rfl ?_
            refine Lx.y (fa' fo102_0 rfl) rfl ?_
            refine Lx.y (Yx.val (ld Try.underlying80 rfl rfl rfl) (show _ = Value.slice f.An f.m.now.length f.cn from rfl)) rfl ?_
            refine Lx.y (mv rfl) rfl ?_
            refine Lx.o (appT (et := 5) (A := f.An) (f.m.now.length + s.length) (u8s (f.m.now ++ s)) Try.underlying80 Try.underlying9 ti5 rfl rfl (by omega) (by omega) rfl (by rw [u8s_app])) rfl (fun v B' H' hΦ hB => ?_)
            obtain ⟨A2, c2, rfl, hA2, hc2, hBB, rfl⟩ := hΦ
            have hBB2 := hBB.symm
            subst hBB2
            clear hB
            refine Lx.y (nilc rfl) rfl ?_
            refine Lx.y (fa' fo102_0 rfl) rfl ?_
            refine Lx.st (stO Try.underlying80 sz80 rfl rfl rfl (by show 0 < 3; omega) rfl) ?_
            refine Lx.nil ?_
            refine Xx.tn (k31 _ _ _ _ ?_)
            refine Cx.seq (fun K32 k32 => ?_)
            refine Cx.region ?_
            refine Lx.y (mv rfl) rfl ?_
            refine Lx.y (mv rfl) rfl ?_
            refine Lx.y (mv rfl) rfl ?_
            refine Lx.y (mv rfl) rfl ?_
            refine Lx.y (lenS Try.underlying9 rfl) rfl ?_
            refine Lx.y (Yx.val (add rfl rfl (by first | exact wrap64 (by omega) (by omega) | rfl)) (show _ = i64 ((f.m.now.length + s.length : Nat) : Int) from rfl)) rfl ?_
            refine Lx.c rfl rfl rfl (touch_ct ⟨⟨n, f.m.now ++ s, f.m.sure, f.m.loose⟩, f.b, A2, c2, f.As, f.cs, f.Al, f.cl⟩ f.m.now.length (f.m.now.length + s.length) _ hfo.1 (by have := hfo.loose; show f.m.loose.length ≤ _; omega) (by omega) (by omega)) ((show _ = fiH ⟨⟨n, f.m.now ++ s, f.m.sure, f.m.loose⟩, f.b, A2, c2, f.As, f.cs, f.Al, f.cl⟩ * (row db 97 (dcs { d with ch := d.ch + 1 }) * (imap d.mb (mset n (.pointer (some ⟨f.b, 0, none⟩)) (d.fs.map fkv)) * (sbuf 25 3 d.Ap d.plan.length d.cp (d.plan.flatMap scs) * (Rf * R)))) by unfold fiH fcs; simp only [List.length_append]; generalize f.m.now.length + s.length = q; ac_rfl)) rfl ?_
            rintro v2 B2 H2 ⟨hBB, rfl, Al9, cl9, rfl⟩ hB2
            refine Lx.nil ?_
            refine Xx.tn (k32 _ _ _ _ ?_)
            refine Cx.seq (fun K33 k33 => ?_)
            refine Cx.region ?_
            refine Lx.y (mv rfl) rfl ?_
            refine Lx.y (asg rfl) rfl ?_
            refine Lx.y (asg rfl) rfl ?_
            refine Lx.nil ?_
            refine Xx.tn (k33 _ _ _ _ ?_)
            refine Cx.ret ?_
            have hg : ¬ (s ≠ [] ∧ ((sec ((fileM n d.abs.fs).now.length + s.length) : Nat) : Int) - (sec (fileM n d.abs.fs).now.length : Nat) > d.abs.room - (usedM d.abs.fs : Nat)) := fun h => h.1 g1
            have hap : appendD d.abs n s = ({ d.abs with ch := d.ch + 1, fs := setM ⟨n, f.m.now ++ s, f.m.sure, touchL f.m.loose f.m.now.length (f.m.now.length + s.length)⟩ d.abs.fs }, ((f.m.now.length : Nat) : Int), 0) := by
              unfold appendD
              rw [if_neg hdd, if_neg hn, if_neg hg, if_neg (by rw [g3]; decide), hs1, ← hfm]
            have e1 := hset ⟨⟨n, f.m.now ++ s, f.m.sure, touchL f.m.loose f.m.now.length (f.m.now.length + s.length)⟩, f.b, A2, c2, f.As, f.cs, Al9, cl9⟩ rfl
            have e2 := mset_set ⟨⟨n, f.m.now ++ s, f.m.sure, touchL f.m.loose f.m.now.length (f.m.now.length + s.length)⟩, f.b, A2, c2, f.As, f.cs, Al9, cl9⟩ d.fs
            exact Xx.ret2 rfl rfl rfl ⟨by rw [hap], { d with ch := d.ch + 1, fs := setF ⟨⟨n, f.m.now ++ s, f.m.sure, touchL f.m.loose f.m.now.length (f.m.now.length + s.length)⟩, f.b, A2, c2, f.As, f.cs, Al9, cl9⟩ d.fs }, by rw [hap]; unfold Dk.abs; simp only [setF_m], rfl⟩ (by first | exact hB1 | exact Frag.le_trans hB1 hB2) (by show _ = (row db 97 (dcs { d with ch := d.ch + 1 }) * (imap d.mb ((setF ⟨⟨n, f.m.now ++ s, f.m.sure, touchL f.m.loose f.m.now.length (f.m.now.length + s.length)⟩, f.b, A2, c2, f.As, f.cs, Al9, cl9⟩ d.fs).map fkv) * (sbuf 25 3 d.Ap d.plan.length d.cp (d.plan.flatMap scs) * fisH (setF ⟨⟨n, f.m.now ++ s, f.m.sure, touchL f.m.loose f.m.now.length (f.m.now.length + s.length)⟩, f.b, A2, c2, f.As, f.cs, Al9, cl9⟩ d.fs)))) * R; rw [e1, ← e2]; ac_rfl)
end DkH
end Go.Proofs.Ytgcebieihmlaoaa
