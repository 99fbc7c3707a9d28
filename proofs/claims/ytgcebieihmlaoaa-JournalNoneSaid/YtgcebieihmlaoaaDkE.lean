/-
  A loss of power.
-/
import Derived.Test.YtgcebieihmlaoaaProg
import Derived.Test.YtgcebieihmlaoaaSlj
import Derived.Test.YtgcebieihmlaoaaDkD
namespace Go.Proofs.Ytgcebieihmlaoaa
open Go.SL Go.RowKit
set_option linter.unusedVariables false
set_option linter.unusedSimpArgs false
set_option maxRecDepth 100000
open DkA DkB DkC DkD
namespace DkE
theorem sz3 : (Try.prog.info? 3).map (·.size) = some 1 := by kernel_rfl
theorem sz4 : (Try.prog.info? 4).map (·.size) = some 1 := by kernel_rfl
theorem sz5 : (Try.prog.info? 5).map (·.size) = some 1 := by kernel_rfl
theorem sz25 : (Try.prog.info? 25).map (·.size) = some 3 := by kernel_rfl
theorem sz39 : (Try.prog.info? 39).map (·.size) = some 1 := by kernel_rfl
theorem sz80 : (Try.prog.info? 80).map (·.size) = some 1 := by kernel_rfl
theorem ti3 : TI Try.prog 3 [.int .i64 0] 1 8 := TI.of (by kernel_rfl) rfl rfl
theorem ti5 : TI Try.prog 5 [.int .u8 0] 1 1 := TI.of (by kernel_rfl) rfl rfl
theorem fo97_0 : FO Try.prog 97 0 0 1 false := FO.of Try.underlying97 rfl rfl (by kernel_rfl) Try.underlying94 rfl rfl
theorem fo97_2 : FO Try.prog 97 2 2 1 false := FO.of Try.underlying97 rfl rfl (by kernel_rfl) Try.underlying4 rfl rfl
theorem fo102_0 : FO Try.prog 102 0 0 1 false := FO.of Try.underlying102 rfl rfl (by kernel_rfl) Try.underlying80 rfl rfl
theorem fo102_1 : FO Try.prog 102 1 1 1 false := FO.of Try.underlying102 rfl rfl (by kernel_rfl) Try.underlying80 rfl rfl
theorem fo102_2 : FO Try.prog 102 2 2 1 false := FO.of Try.underlying102 rfl rfl (by kernel_rfl) Try.underlying39 rfl rfl

def crashStep (mask : BitVec 64) (s : List Fm × Nat × Int) (k : Int) : List Fm × Nat × Int := match findM k s.1 with
  | none => s
  | some f => (setM ⟨f.n, (lostF f.now f.sure f.loose mask s.2.1 s.2.2).1, (lostF f.now f.sure f.loose mask s.2.1 s.2.2).1, []⟩ s.1, (lostF f.now f.sure f.loose mask s.2.1 s.2.2).2)
def crashFs (mask : BitVec 64) (torn : Int) (fs : List Fm) : List Fm := ((sortI (fs.map (·.n))).foldl (crashStep mask) (fs, 0, torn)).1
def crashD (D : Dm) (mask : BitVec 64) (torn : Int) : Dm := if D.dead = true then D else { D with fs := crashFs mask torn D.fs, dead := true }
theorem findF_some {k : Int} {fs : List Fi} (h : k ∈ fs.map (·.m.n)) : ∃ f, findF k fs = some f := by
  induction fs with
  | nil => cases h
  | cons g fs ih =>
    simp only [findF]
    split
    · exact ⟨g, rfl⟩
    · rename_i e
      rw [List.map_cons] at h
      rcases List.mem_cons.1 h with h | h
      · exact absurd h e
      · exact ih h
theorem setM_ok {fs : List Fm} {f' : Fm} (h : ∀ f ∈ fs, f.Ok) (h' : f'.Ok) : ∀ f ∈ setM f' fs, f.Ok := by
  induction fs with
  | nil => intro f hf; rw [List.mem_singleton.1 hf]; exact h'
  | cons g fs ih =>
    intro f hf
    simp only [setM] at hf
    split at hf
    · rcases List.mem_cons.1 hf with rfl | hf
      · exact h'
      · exact h f (by simp [hf])
    · rcases List.mem_cons.1 hf with rfl | hf
      · exact h f (by simp)
      · exact ih (fun f hf => h f (by simp [hf])) f hf
theorem ints_at {l : List Int} {j : Nat} (h : j < l.length) : ((ints l).drop (0 + j * 1)).take 1 = [i64 l[j]] := by
  rw [show 0 + j * 1 = j by omega, List.drop_eq_getElem_cons (by rw [intsN]; exact h)]
  simp [ints]
theorem keys_kv {fs gs : List Fi} (h : fs.map fkv = gs.map fkv) : fs.map (·.m.n) = gs.map (·.m.n) := by
  have := congrArg (List.map Prod.fst) h
  rw [List.map_map, List.map_map] at this
  exact this

set_option maxHeartbeats 4000000 in
theorem Crash_ct (d : Dk) (db : Nat) (mask : BitVec 64) (torn : Int) (B : Frag) (hF : d.abs.Fit) : Ct Try.prog 17 [.pointer (some ⟨db, 0, none⟩), u64 mask, i64 torn] B (dkH db d) (fun v B' H' => v = .tuple #[] ∧ ∃ d' : Dk, d'.abs = crashD d.abs mask torn ∧ H' = dkH db d') := by
  have hfl : d.fs.length ≤ 1000000 := by have := hF.len; unfold Dk.abs at this; simpa using this
  have hok0 : ∀ f ∈ d.fs, f.m.Ok := fun f hf => hF.ok (List.mem_map.2 ⟨f, hf, rfl⟩)
  refine Ct.of_body Try.func17 rfl (nt := 52) rfl (by kernel_rfl) rfl ?_
  intro N0 w0 R
  unfold dkH
  simp only [star_assoc]
  refine Cx.seq (fun K1 k1 => ?_)
  refine Cx.region ?_
  refine Lx.new (boxO rfl rfl) rfl (fun tb => ?_)
  refine Lx.nil ?_
  refine Xx.tn (k1 _ _ _ _ ?_)
  refine Cx.seq (fun K2 k2 => ?_)
  refine Cx.seq (fun K3 k3 => ?_)
  refine Cx.region ?_
  refine Lx.y (mv rfl) rfl ?_
  refine Lx.y (Yx.ff (eqNilP Try.underlying26 rfl rfl) rfl) rfl ?_
  refine Lx.y (mv rfl) rfl ?_
  refine Lx.gT rfl rfl rfl ?_
  refine Lx.y (mv rfl) rfl ?_
  refine Lx.gT rfl rfl rfl ?_
  refine Lx.y (nilc rfl) rfl ?_
  refine Lx.gT rfl rfl rfl ?_
  refine Lx.y (fa' fo97_2 rfl) rfl ?_
  refine Lx.gT rfl rfl rfl ?_
  refine Lx.y (ld Try.underlying4 rfl rfl rfl) rfl ?_
  refine Lx.y (pickF rfl rfl) rfl ?_
  refine Lx.nil ?_
  refine Xx.tn (k3 _ _ _ _ ?_)
  refine Cx.condB rfl (fun h4 => ?_) (fun h4 => ?_)
  · skip
    have hd := h4
    refine Cx.ret ?_
    refine Xx.tr ?_
    refine Xx.dropB tb ?_
    exact Xx.ret0 rfl ⟨rfl, d, by unfold crashD; rw [if_pos (show d.abs.dead = true from hd)], rfl⟩ (Frag.le_refl _) (by ac_rfl)
  · skip
    have hd := h4
    refine Cx.skip ?_
    refine Xx.tn (k2 _ _ _ _ ?_)
    refine Cx.seq (fun K5 k5 => ?_)
    refine Cx.region ?_
    refine Lx.new (allocO ti3) rfl (fun bb => ?_)
    refine Lx.st (stO Try.underlying3 sz3 rfl rfl rfl (by simp) rfl) ?_
    refine Lx.nil ?_
    refine Xx.tn (k5 _ _ _ _ ?_)
    refine Cx.seq (fun K6 k6 => ?_)
    refine Cx.seq (fun K7 k7 => ?_)
    refine Cx.region ?_
    refine Lx.y (mv rfl) rfl ?_
    refine Lx.c rfl rfl rfl (Files_ct d db _ hfl) ((show _ = dkH db d * (row bb 3 [i64 0] * (row tb 3 [i64 torn] * R)) by unfold dkH; ac_rfl)) rfl ?_
    rintro v1 B1 H1 ⟨Ak, ck, rfl, rfl⟩ hB1
    unfold dkH
    simp only [star_assoc]
    refine Lx.y (lenV (ty' := 0) Try.underlying39 rfl) rfl ?_
    refine Lx.y (mv rfl) rfl ?_
    refine Lx.nil ?_
    refine Xx.tn (k7 _ _ _ _ ?_)
    refine Cx.block ?_
    refine Cx.loopK (Sub.cons (s := 0) rfl (Sub.cons (s := 1) rfl (Sub.cons (s := 2) rfl (Sub.cons (s := 5) rfl (Sub.cons (s := 6) rfl (Sub.cons (s := 10) rfl (Sub.cons (s := 11) rfl (Sub.cons (s := 12) rfl (Sub.cons (s := 13) rfl (Sub.cons (s := 14) rfl (Sub.cons (s := 15) rfl (Sub.cons (s := 16) rfl (Sub.cons (s := 17) rfl (Sub.cons (s := 18) rfl (Sub.cons (s := 19) rfl (Sub.cons (s := 20) rfl (Sub.nil _))))))))))))))))) (fun m ρ' B' H' => ∃ (j : Nat) (s : List Fm × Nat × Int) (fs : List Fi), (j ≤ d.fs.length ∧ s = ((sortI (d.fs.map (·.m.n))).take j).foldl (crashStep mask) (d.abs.fs, 0, torn) ∧ fs.map (·.m) = s.1 ∧ fs.map fkv = d.fs.map fkv ∧ (∀ f ∈ s.1, f.Ok) ∧ s.2.1 ≤ j * 1073741825) ∧ m = d.fs.length - j ∧ ρ' = [(21, i64 ((j : Nat) : Int))] ∧ B1 = B' ∧ row tb 3 [i64 s.2.2] * (row bb 3 [i64 ((s.2.1 : Nat) : Int)] * (sbuf 3 1 Ak d.fs.length ck (ints (sortI (d.fs.map (·.m.n)))) * (row db 97 (dcs d) * (imap d.mb (d.fs.map fkv) * (sbuf 25 3 d.Ap d.plan.length d.cp (d.plan.flatMap scs) * (fisH fs * R)))))) = H') ⟨0, (d.abs.fs, 0, torn), d.fs, ⟨Nat.zero_le _, rfl, rfl, rfl, fun f hf => by obtain ⟨g, hg, rfl⟩ := List.mem_map.1 hf; exact hok0 g hg, Nat.zero_le _⟩, rfl, rfl, rfl, by ac_rfl⟩ (Sub.cons (s := 21) rfl (Sub.cons (s := 0) rfl (Sub.cons (s := 1) rfl (Sub.cons (s := 2) rfl (Sub.cons (s := 5) rfl (Sub.cons (s := 6) rfl (Sub.cons (s := 10) rfl (Sub.cons (s := 11) rfl (Sub.cons (s := 12) rfl (Sub.cons (s := 13) rfl (Sub.cons (s := 14) rfl (Sub.cons (s := 15) rfl (Sub.cons (s := 16) rfl (Sub.cons (s := 17) rfl (Sub.cons (s := 18) rfl (Sub.cons (s := 19) rfl (Sub.cons (s := 20) rfl (Sub.nil _)))))))))))))))))) ?_
    rintro m ρ' B' H' ⟨j, s, fs, ⟨hj, hs, hfs, hkv, hok, hsb⟩, rfl, rfl, rfl, rfl⟩
    refine Cx.seq (fun K8 k8 => ?_)
    refine Cx.region ?_
    refine Lx.y (lss rfl rfl) rfl ?_
    refine Lx.nil ?_
    refine Xx.tn (k8 _ _ _ _ ?_)
    refine Cx.seq (fun K9 k9 => ?_)
    refine Cx.condD rfl (fun h10 => ?_) (fun h10 => ?_)
    · skip
      have hjl : (j : Int) < (d.fs.length : Int) := h10
      have hjl : j < d.fs.length := by omega
      have hjk : j < (sortI (d.fs.map (·.m.n))).length := by rw [sortI_len, List.length_map]; exact hjl
      refine Xx.addrT Ak (by omega) (fun ba hAk hkl hkc => ?_)
      subst hAk
      obtain ⟨f, hff⟩ : ∃ f, findF (sortI (d.fs.map (·.m.n)))[j] fs = some f := findF_some (by rw [keys_kv hkv]; exact (List.mergeSort_perm _ _).mem_iff.1 (List.getElem_mem hjk))
      obtain ⟨Rf, hRf, hsets, _⟩ := fisH_find hff
      obtain ⟨hfm, hfn⟩ := findF_mem hff
      have hfo : f.m.Ok := hok _ (by rw [← hfs]; exact List.mem_map.2 ⟨f, hfm, rfl⟩)
      rw [hRf]
      obtain ⟨⟨fn, now, sure, loose⟩, fb, An, cn, As, cs, Al, cl⟩ := f
      obtain ⟨kk, hkk⟩ : ∃ k, k = (sortI (d.fs.map (·.m.n)))[j] := ⟨_, rfl⟩
      refine Cx.skip ?_
      refine Xx.tn (k9 _ _ _ _ ?_)
      refine Cx.seq (fun K11 k11 => ?_)
      refine Cx.block ?_
      refine Cx.seq (fun K12 k12 => ?_)
      refine Cx.region ?_
      refine Lx.y (ia Try.underlying39 sz3 rfl rfl (by first | exact Int.toNat_natCast _ | rfl) (by omega) (by omega)) rfl ?_
      refine Lx.y (ldC Try.underlying3 rfl rfl (Cells.buf (b := ba) (m := 1) (show _ = [i64 kk] by rw [hkk]; exact ints_at hjk) (by rw [intsN]; omega))) rfl ?_
      refine Lx.y (asg rfl) rfl ?_
      refine Lx.nil ?_
      refine Xx.tn (k12 _ _ _ _ ?_)
      refine Cx.seq (fun K13 k13 => ?_)
      refine Cx.region ?_
      refine Lx.y (mv rfl) rfl ?_
      refine Lx.y (nilc rfl) rfl ?_
      refine Lx.y (fa' fo97_0 rfl) rfl ?_
      refine Lx.y (ld Try.underlying94 rfl rfl rfl) rfl ?_
      refine Lx.y (mv rfl) rfl ?_
      refine Lx.y (lkM Try.underlying94 Try.underlying3 Try.zeroValue95 rfl rfl (v := .pointer (some ⟨fb, 0, none⟩)) (by rw [← hkv, mget_find, hkk, hff]; rfl)) rfl ?_
      refine Lx.y (asg rfl) rfl ?_
      refine Lx.nil ?_
      refine Xx.tn (k13 _ _ _ _ ?_)
      refine Cx.seq (fun K14 k14 => ?_)
      refine Cx.region ?_
      refine Lx.y (mv rfl) rfl ?_
      refine Lx.y (mv rfl) rfl ?_
      refine Lx.y (mv rfl) rfl ?_
      refine Lx.c rfl rfl rfl (lost_ct ⟨⟨fn, now, sure, loose⟩, fb, An, cn, As, cs, Al, cl⟩ bb tb mask s.2.1 s.2.2 _ hfo.2.1 hfo.2.2.1 hfo.2.2.2 (by have := hfo.loose; simp only at this ⊢; omega)) ((show _ = (fiH ⟨⟨fn, now, sure, loose⟩, fb, An, cn, As, cs, Al, cl⟩ * (row bb 3 [i64 ((s.2.1 : Nat) : Int)] * row tb 3 [i64 s.2.2])) * (sbuf 3 1 (some ⟨ba, 0, none⟩) d.fs.length ck (ints (sortI (d.fs.map (·.m.n)))) * (row db 97 (dcs d) * (imap d.mb (d.fs.map fkv) * (sbuf 25 3 d.Ap d.plan.length d.cp (d.plan.flatMap scs) * (Rf * R))))) by ac_rfl)) rfl ?_
      rintro v2 B2 H2 ⟨hBB, A, c, rfl, rfl⟩ hB2
      subst hBB
      rename Frag => B2
      clear hB2
      unfold fiH
      simp only [star_assoc]
      refine Lx.y (nilc rfl) rfl ?_
      refine Lx.y (fa' fo102_0 rfl) rfl ?_
      refine Lx.st (stO Try.underlying80 sz80 rfl rfl rfl (by show 0 < 3; omega) rfl) ?_
      refine Lx.nil ?_
      refine Xx.tn (k14 _ _ _ _ ?_)
      refine Cx.region ?_
      refine Lx.y (mv rfl) rfl ?_
      refine Lx.y (mv rfl) rfl ?_
      refine Lx.y (mv rfl) rfl ?_
      refine Lx.y (nilc rfl) rfl ?_
      refine Lx.y (fa' fo102_0 rfl) rfl ?_
      refine Lx.y (ld Try.underlying80 rfl rfl rfl) rfl ?_
      refine Lx.c rfl rfl rfl (ClB_ct A (lostF now sure loose mask s.2.1 s.2.2).1.length c (u8s (lostF now sure loose mask s.2.1 s.2.2).1) _ (u8_all _) (by have h9 := (lostF_len now mask loose (sure, s.2.1, s.2.2) hfo.2.2.2 hfo.2.1).1; have h8 := hfo.2.2.1; simp only at h8 h9 ⊢; unfold lostF; omega) (by have h9 := (lostF_len now mask loose (sure, s.2.1, s.2.2) hfo.2.2.2 hfo.2.1).1; have h8 := hfo.2.2.1; simp only at h8 h9 ⊢; unfold lostF; omega)) (pickS _) rfl ?_
      rintro v3 B3 H3 ⟨hBB, A9, c9, rfl, rfl⟩ hB3
      subst hBB
      rename Frag => B3
      clear hB3
      simp only [star_assoc]
      refine Lx.y (nilc rfl) rfl ?_
      refine Lx.y (fa' fo102_1 rfl) rfl ?_
      refine Lx.st (stO Try.underlying80 sz80 rfl rfl rfl (by show 1 < 3; omega) rfl) ?_
      refine Lx.y (nilc rfl) rfl ?_
      refine Lx.y (fa' fo102_2 rfl) rfl ?_
      refine Lx.st (stO Try.underlying39 sz39 rfl rfl rfl (by show 2 < 3; omega) rfl) ?_
      refine Lx.nil ?_
      refine Xx.bn ?_
      refine Xx.tn (k11 _ _ _ _ ?_)
      refine Cx.region ?_
      refine Lx.y (Yx.val (add rfl rfl (by first | exact wrap64 (by omega) (by omega) | rfl)) (show _ = i64 ((j + 1 : Nat) : Int) from rfl)) rfl ?_
      refine Lx.y (mv rfl) rfl ?_
      refine Lx.nil ?_
      have hst : crashStep mask s (sortI (d.fs.map (·.m.n)))[j] = (setM ⟨fn, (lostF now sure loose mask s.2.1 s.2.2).1, (lostF now sure loose mask s.2.1 s.2.2).1, []⟩ s.1, (lostF now sure loose mask s.2.1 s.2.2).2) := by
        unfold crashStep
        have hfm := findF_m (sortI (d.fs.map (·.m.n)))[j] fs
        rw [hff, hfs] at hfm
        rw [← hfm]; rfl
      have hll := lostF_len now mask loose (sure, s.2.1, s.2.2) hfo.2.2.2 hfo.2.1
      have hbl : (lostF now sure loose mask s.2.1 s.2.2).2.1 = s.2.1 + loose.length := hll.2
      have hol : (lostF now sure loose mask s.2.1 s.2.2).1.length ≤ now.length := hll.1
      have hset := hsets ⟨⟨fn, (lostF now sure loose mask s.2.1 s.2.2).1, (lostF now sure loose mask s.2.1 s.2.2).1, []⟩, fb, A, c, A9, c9, none, 0⟩ hfn
      refine Xx.perm (Xx.drop (p := (sbuf 5 1 An now.length cn (u8s now) * (sbuf 5 1 As sure.length cs (u8s sure) * sbuf 3 1 Al loose.length cl (nv loose)))) (H := row tb 3 [i64 (lostF now sure loose mask s.2.1 s.2.2).2.2] * (row bb 3 [i64 (((lostF now sure loose mask s.2.1 s.2.2).2.1 : Nat) : Int)] * (sbuf 3 1 (some ⟨ba, 0, none⟩) d.fs.length ck (ints (sortI (d.fs.map (·.m.n)))) * (row db 97 (dcs d) * (imap d.mb (d.fs.map fkv) * (sbuf 25 3 d.Ap d.plan.length d.cp (d.plan.flatMap scs) * (fisH (setF ⟨⟨fn, (lostF now sure loose mask s.2.1 s.2.2).1, (lostF now sure loose mask s.2.1 s.2.2).1, []⟩, fb, A, c, A9, c9, none, 0⟩ fs) * R))))))) ?_) (by rw [hset]; unfold fiH; rw [show (nv [] : List Value) = [] from rfl, List.length_nil, sbuf_nil, star_one]; ac_rfl)
      exact Xx.againK ⟨j + 1, crashStep mask s (sortI (d.fs.map (·.m.n)))[j], setF ⟨⟨fn, (lostF now sure loose mask s.2.1 s.2.2).1, (lostF now sure loose mask s.2.1 s.2.2).1, []⟩, fb, A, c, A9, c9, none, 0⟩ fs, ⟨by omega, by rw [foldl_step _ _ _ _ hjk, ← hs], by rw [setF_m, hfs, hst], by rw [setF_same (f' := ⟨⟨fn, (lostF now sure loose mask s.2.1 s.2.2).1, (lostF now sure loose mask s.2.1 s.2.2).1, []⟩, fb, A, c, A9, c9, none, 0⟩) hff hfn rfl, hkv], by rw [hst]; exact setM_ok hok ⟨List.Pairwise.nil, fun i hi => (by cases hi), (by show (lostF now sure loose mask s.2.1 s.2.2).1.length ≤ _; have := hfo.2.2.1; simp only at this; omega), Nat.le_refl _⟩, by rw [hst]; show (lostF now sure loose mask s.2.1 s.2.2).2.1 ≤ _; have := hfo.loose; rw [hbl]; simp only at this; omega⟩, rfl, rfl, rfl, (by rw [hst])⟩ (by omega) (Sub.cons (s := 21) rfl (Sub.cons (s := 0) rfl (Sub.cons (s := 1) rfl (Sub.cons (s := 2) rfl (Sub.cons (s := 5) rfl (Sub.cons (s := 6) rfl (Sub.cons (s := 10) rfl (Sub.cons (s := 11) rfl (Sub.cons (s := 12) rfl (Sub.cons (s := 13) rfl (Sub.cons (s := 14) rfl (Sub.cons (s := 15) rfl (Sub.cons (s := 16) rfl (Sub.cons (s := 17) rfl (Sub.cons (s := 18) rfl (Sub.cons (s := 19) rfl (Sub.cons (s := 20) rfl (Sub.nil _))))))))))))))))))
    · skip
      obtain rfl : j = d.fs.length := by have h9 : ¬ (j : Int) < (d.fs.length : Int) := h10; omega
      rw [List.take_of_length_le (by rw [sortI_len, List.length_map]; exact Nat.le_refl _)] at hs
      refine Cx.exit ?_
      refine Xx.te ?_
      refine Xx.te ?_
      refine Xx.bh ?_
      refine Xx.tn (k6 _ _ _ _ ?_)
      refine Cx.region ?_
      refine Lx.y (mv rfl) rfl ?_
      refine Lx.y (nilc rfl) rfl ?_
      refine Lx.y (fa' fo97_2 rfl) rfl ?_
      refine Lx.st (stO Try.underlying4 sz4 rfl rfl rfl (by show 2 < 5; omega) rfl) ?_
      refine Lx.nil ?_
      refine Xx.perm (Xx.drop (p := row tb 3 [i64 s.2.2] * (row bb 3 [i64 ((s.2.1 : Nat) : Int)] * sbuf 3 1 Ak d.fs.length ck (ints (sortI (d.fs.map (·.m.n)))))) (H := dkH db {d with fs := fs, dead := true} * R) ?_) (by unfold dkH dcs; simp only [hkv]; ac_rfl)
      have hab : (Dk.abs {d with fs := fs, dead := true}) = crashD d.abs mask torn := by
        unfold crashD
        rw [if_neg (fun h => by rw [show d.abs.dead = d.dead from rfl, hd] at h; cases h)]
        show Dm.mk (fs.map (·.m)) d.room true d.plan d.ch = Dm.mk (crashFs mask torn d.abs.fs) d.room true d.plan d.ch
        congr 1
        rw [hfs, hs]
        unfold crashFs
        rw [show d.abs.fs.map (fun f : Fm => f.n) = d.fs.map (fun f : Fi => f.m.n) from by unfold Dk.abs; rw [List.map_map]; rfl]
      exact Xx.end0 rfl ⟨rfl, {d with fs := fs, dead := true}, hab, rfl⟩ hB1 rfl
end DkE
end Go.Proofs.Ytgcebieihmlaoaa
