/-
  Plain laws of the journal: files that hold frames, what is read of them, what adding does.
-/
import Derived.Test.YtgcebieihmlaoaaProg
import Derived.Test.YtgcebieihmlaoaaSlj
import Derived.Test.YtgcebieihmlaoaaJn3
import Derived.Test.YtgcebieihmlaoaaFrA
namespace Go.Proofs.Ytgcebieihmlaoaa
open Go.SL Go.RowKit
set_option linter.unusedVariables false
set_option linter.unusedSimpArgs false
set_option maxRecDepth 100000
open DkA DkB DkD DkE DkF DkG DkH DkI DkJ DkN Fr1 Jn1 Jn2 Jn3
namespace Jn4


def nowOf (fs : List Fm) (n : Int) : List UInt8 := (fileM n fs).now
theorem findM_num {n : Int} : ∀ {fs : List Fm}, n ∈ fs.map (·.n) → ∃ f, findM n fs = some f := by
  intro fs
  induction fs with
  | nil => intro h; cases h
  | cons g fs ih =>
    intro h
    simp only [findM]
    split
    · exact ⟨g, rfl⟩
    · rename_i e
      rw [List.map_cons] at h
      rcases List.mem_cons.1 h with h | h
      · exact absurd h e
      · exact ih h
theorem sync_props {K L C : Nat} {D : Dm} (h : DkN.Calm K L C D) {n : Int} (hn : n ∈ D.fs.map (·.n)) :
    (syncD D n).2 = 0 ∧ (syncD D n).1.fs.map (·.n) = D.fs.map (·.n) ∧ (∀ m, nowOf (syncD D n).1.fs m = nowOf D.fs m) ∧ SureL (syncD D n).1.fs n (nowOf D.fs n) ∧ (∀ m t, SureL D.fs m t → SureL (syncD D n).1.fs m t) := by
  obtain ⟨f, hf⟩ := findM_num hn
  have hfile : fileM n D.fs = f := by unfold fileM; rw [hf]; rfl
  have hfn := (findM_mem hf).2
  have he : errM D n = 0 := by unfold errM; rw [if_neg (by rw [h.dead]; decide), hf]
  have hs : syncD D n = ({ D with ch := D.ch + 1, fs := setM ⟨n, f.now, f.now, []⟩ D.fs }, 0) := by
    unfold syncD
    rw [h.strikes, if_neg (fun e => e he), if_neg Bool.false_ne_true, hfile]
  rw [hs]
  refine ⟨rfl, ?_, fun m => ?_, ?_, fun m t ⟨g, hg, h1, h2⟩ => ?_⟩
  · show (setM _ D.fs).map (·.n) = _
    rw [setM_nums, if_pos hn]
  · unfold nowOf fileM
    rw [findM_set]
    by_cases e : m = n
    · rw [if_pos e, e, hf]; rfl
    · rw [if_neg e]
  · unfold nowOf
    rw [hfile]
    refine ⟨⟨n, f.now, f.now, []⟩, ?_, List.prefix_refl _, List.prefix_refl _⟩
    rw [findM_set, if_pos rfl]
  · by_cases e : m = n
    · rw [e, hf] at hg
      cases hg
      exact ⟨⟨n, f.now, f.now, []⟩, by rw [findM_set, if_pos e], h1, h1⟩
    · exact ⟨g, by rw [findM_set, if_neg e]; exact hg, h1, h2⟩

abbrev Ck := FrA.Ck
/-- The files from the first on hold these frames, and there is none behind. -/
structure Holds (fs : List DkB.Fm) (fb : List (List Ck)) : Prop where
  ok : ∀ cs ∈ fb, ∀ c ∈ cs, FrA.Ck.ok c
  at_ : ∀ k (h : k < fb.length), ∃ f, findM ((k + 1 : Nat) : Int) fs = some f ∧ f.now = FrA.cat fb[k]
  no : ∀ k : Nat, fb.length < k → findM ((k : Nat) : Int) fs = none
def recsOf : Nat → List (List Ck) → List Rc
  | _, [] => []
  | n, cs :: fb => recF (n + 1) (FrA.fms cs 0) ++ recsOf (n + 1) fb
def lastLen (fb : List (List Ck)) (long : Nat) : Nat := match fb.getLast? with
  | none => long
  | some cs => (FrA.cat cs).length
theorem scan_file {cs : List Ck} (h : ∀ c ∈ cs, FrA.Ck.ok c) : Fr2.scanL (FrA.cat cs) = FrA.fms cs 0 ∧ Fr2.endL (FrA.fms cs 0) = (FrA.cat cs).length := by
  have h1 := FrA.scan_all h (q := []) FrA.nil_none
  rw [List.append_nil] at h1
  refine ⟨h1, ?_⟩
  by_cases hn : cs = []
  · rw [hn]; rfl
  · rw [FrA.fms_end h hn, Nat.zero_add]
theorem openF_run (fs : List DkB.Fm) : ∀ (fb : List (List Ck)) (fuel n : Nat) (l : List Rc) (long : Nat), fb.length < fuel → (∀ cs ∈ fb, ∀ c ∈ cs, FrA.Ck.ok c) →
    (∀ k (h : k < fb.length), ∃ f, findM ((n + k + 1 : Nat) : Int) fs = some f ∧ f.now = FrA.cat fb[k]) → findM ((n + fb.length + 1 : Nat) : Int) fs = none →
    openF fs fuel (l, n, long) = (l ++ recsOf n fb, n + fb.length, lastLen fb long) := by
  intro fb
  induction fb with
  | nil =>
    intro fuel n l long hf _ _ hno
    obtain ⟨fuel, rfl⟩ : ∃ k, fuel = k + 1 := ⟨fuel - 1, by simp at hf; omega⟩
    unfold openF
    rw [show ((l, n, long) : List Rc × Nat × Nat).2.1 + 1 = n + [].length + 1 from rfl, hno]
    simp [recsOf, lastLen]
  | cons cs fb ih =>
    intro fuel n l long hf hok hat hno
    obtain ⟨fuel, rfl⟩ : ∃ k, fuel = k + 1 := ⟨fuel - 1, by omega⟩
    obtain ⟨f, h1, h2⟩ := hat 0 (by simp)
    have h2' : f.now = FrA.cat cs := h2
    obtain ⟨h3, h4⟩ := scan_file (hok cs (by simp))
    unfold openF
    rw [show (((l, n, long) : List Rc × Nat × Nat).2.1 + 1 : Nat) = n + 0 + 1 from rfl, h1]
    simp only [h2', h3, h4]
    rw [if_neg (Nat.lt_irrefl _)]
    rw [ih fuel (n + 0 + 1) _ _ (by simpa using hf) (fun x hx => hok x (by simp [hx])) (fun k hk => by
      obtain ⟨g, g1, g2⟩ := hat (k + 1) (by simpa using hk)
      exact ⟨g, by rw [show n + 0 + 1 + k + 1 = n + (k + 1) + 1 by omega]; exact g1, g2⟩) (by rw [show n + 0 + 1 + fb.length + 1 = n + (cs :: fb).length + 1 by simp; omega]; exact hno)]
    refine Prod.ext ?_ (Prod.ext ?_ ?_)
    · simp [recsOf]
    · simp; omega
    · unfold lastLen
      cases fb with
      | nil => rfl
      | cons d fb => rw [List.getLast?_cons_cons]; cases hg : (d :: fb).getLast? with
        | none => simp at hg
        | some x => rfl
theorem Holds.le {fs : List DkB.Fm} {fb : List (List Ck)} (h : Holds fs fb) : fb.length ≤ fs.length :=
  run_le fun k hk => by
    obtain ⟨f, h1, _⟩ := h.at_ k hk
    obtain ⟨g1, g2⟩ := findM_mem h1
    exact List.mem_map.2 ⟨f, g1, g2⟩
/-- what is read of files that hold frames -/
theorem Holds.open {fs : List DkB.Fm} {fb : List (List Ck)} (h : Holds fs fb) : openF fs (fs.length + 1) ([], 0, 0) = (recsOf 0 fb, fb.length, lastLen fb 0) := by
  have h0 := h.le
  have := openF_run fs fb (fs.length + 1) 0 [] 0 (by omega) h.ok (fun k hk => by simpa using h.at_ k hk) (by rw [Nat.zero_add]; exact h.no _ (Nat.lt_succ_self _))
  rw [this, List.nil_append, Nat.zero_add]
theorem fms_app (cs ds : List Ck) (a : Nat) : FrA.fms (cs ++ ds) a = FrA.fms cs a ++ FrA.fms ds (a + (FrA.cat cs).length) := by
  induction cs generalizing a with
  | nil => simp [FrA.fms]
  | cons c cs ih => simp [FrA.fms, ih, Nat.add_assoc]
theorem recF_fr (file : Nat) : ∀ (xs : List (List UInt8)) (a : Nat), recF file (FrA.fms (xs.map FrA.fr) a) = recsAt file a xs := by
  intro xs
  induction xs with
  | nil => intro a; rfl
  | cons x xs ih =>
    intro a
    have hl : (FrA.fr x).tx.length = 12 + x.length := by show (headL x ++ x).length = _; rw [List.length_append, headL_len]
    show (⟨file, a + 12, x, true⟩ : Rc) :: recF file (FrA.fms (xs.map FrA.fr) (a + (FrA.fr x).tx.length)) = (⟨file, a + 12, x, true⟩ : Rc) :: recsAt file (a + 12 + x.length) xs
    rw [ih, hl, Nat.add_assoc]
theorem recF_app (file : Nat) (a b : List Fr2.Fm) : recF file (a ++ b) = recF file a ++ recF file b := by simp [recF]
theorem cat_fr (xs : List (List UInt8)) : FrA.cat (xs.map FrA.fr) = allF xs := by
  unfold FrA.cat allF
  rw [List.map_map]; rfl
theorem recsOf_snoc : ∀ (fb : List (List Ck)) (n : Nat) (cs : List Ck), recsOf n (fb ++ [cs]) = recsOf n fb ++ recF (n + fb.length + 1) (FrA.fms cs 0) := by
  intro fb
  induction fb with
  | nil => intro n cs; simp [recsOf]
  | cons d fb ih =>
    intro n cs
    simp only [List.cons_append, recsOf, ih, List.append_assoc, List.length_cons]
    rw [show n + 1 + fb.length + 1 = n + (fb.length + 1) + 1 by omega]
/-- the error of adding to a disk with power and no plan: there was no room, and nothing is otherwise -/
theorem addD_fail {K L C : Nat} {D : Dm} (hc : DkN.Calm K L C D) {file : Nat} {all : List UInt8} (h : (addD D file all).2 ≠ 0) : addD D file all = (D, 50) := by
  unfold addD at h ⊢
  by_cases h1 : (appendD D (file : Int) all).2.2 ≠ 0
  · rw [if_pos h1] at h ⊢
    unfold appendD at h1 ⊢
    rw [hc.strikes, if_neg (by rw [hc.dead]; decide), if_neg (by omega)] at h1 ⊢
    split
    · rfl
    · rename_i h2
      rw [if_neg h2, if_neg Bool.false_ne_true] at h1
      exact absurd rfl h1
  · rw [if_neg h1] at h
    exfalso
    have h1 : (appendD D (file : Int) all).2.2 = 0 := Decidable.byContradiction h1
    have hc1 := hc.append (file : Int) all
    have hs := (sync_props hc1 (n := (file : Int)) (by
      unfold appendD at h1 ⊢
      rw [hc.strikes, if_neg (by rw [hc.dead]; decide), if_neg (by omega)] at h1 ⊢
      split
      · rename_i h2; rw [if_pos h2] at h1; cases h1
      · rw [if_neg Bool.false_ne_true]
        show (file : Int) ∈ (setM _ D.fs).map (·.n)
        rw [setM_nums]
        split
        · assumption
        · simp)).1
    exact h hs
/-- adding that was done: the file is the old one and these bytes behind, and sure; the others are as they were -/
theorem addD_done {K L C : Nat} {D : Dm} (hc : DkN.Calm K L C D) {file : Nat} {all : List UInt8} (h : (addD D file all).2 = 0) :
    (∀ k, findM k (addD D file all).1.fs = if k = (file : Int) then some ⟨file, (fileM (file : Int) D.fs).now ++ all, (fileM (file : Int) D.fs).now ++ all, []⟩ else findM k D.fs) ∧ DkN.Calm (K + 2) (L + all.length) (C + 2) (addD D file all).1 ∧
    ((∀ f ∈ D.fs, f.loose = [] ∧ f.sure = f.now) → ∀ f ∈ (addD D file all).1.fs, f.loose = [] ∧ f.sure = f.now) := by
  have h1 : (appendD D (file : Int) all).2.2 = 0 := Decidable.byContradiction fun h1 => by
    unfold addD at h
    rw [if_pos h1] at h
    exact h1 h
  have hc1 := hc.append (file : Int) all
  have hc2 := hc1.sync (file : Int)
  have ha : addD D file all = syncD (appendD D (file : Int) all).1 (file : Int) := by unfold addD; rw [if_neg (fun e => e h1)]
  rw [← ha] at hc2
  obtain ⟨lo, hap⟩ : ∃ lo, (appendD D (file : Int) all).1 = { D with ch := D.ch + 1, fs := setM ⟨file, (fileM (file : Int) D.fs).now ++ all, (fileM (file : Int) D.fs).sure, lo⟩ D.fs } := by
    unfold appendD at h1 ⊢
    rw [hc.strikes, if_neg (by rw [hc.dead]; decide), if_neg (by omega)] at h1 ⊢
    split
    · rename_i h2; rw [if_pos h2] at h1; cases h1
    · rw [if_neg Bool.false_ne_true]; exact ⟨_, rfl⟩
  have hfm : fileM (file : Int) (setM ⟨file, (fileM (file : Int) D.fs).now ++ all, (fileM (file : Int) D.fs).sure, lo⟩ D.fs) = ⟨file, (fileM (file : Int) D.fs).now ++ all, (fileM (file : Int) D.fs).sure, lo⟩ := by
    unfold fileM; rw [findM_set, if_pos rfl]; rfl
  have he : errM (appendD D (file : Int) all).1 (file : Int) = 0 := by
    rw [hap]; unfold errM
    rw [if_neg (by show ¬ D.dead = true; rw [hc.dead]; decide)]
    show (match findM (file : Int) (setM _ D.fs) with | none => _ | some _ => _) = _
    rw [findM_set, if_pos rfl]
  have hsy : (addD D file all).1.fs = setM ⟨file, (fileM (file : Int) D.fs).now ++ all, (fileM (file : Int) D.fs).now ++ all, []⟩ (setM ⟨file, (fileM (file : Int) D.fs).now ++ all, (fileM (file : Int) D.fs).sure, lo⟩ D.fs) := by
    rw [ha]; unfold syncD
    rw [hc1.strikes, if_neg (fun e => e he), if_neg Bool.false_ne_true, hap]
    show setM ⟨_, (fileM (file : Int) (setM _ D.fs)).now, (fileM (file : Int) (setM _ D.fs)).now, []⟩ (setM _ D.fs) = _
    rw [hfm]
  refine ⟨fun k => ?_, hc2.mono (by omega) (by omega) (by omega), fun hst f hf => ?_⟩
  · rw [hsy, findM_set, findM_set]
    by_cases e : k = (file : Int)
    · rw [if_pos e, if_pos e]
    · rw [if_neg e, if_neg e, if_neg e]
  · have hff := findM_of_mem hc2.nd hf
    rw [hsy, findM_set, findM_set] at hff
    split at hff
    · cases hff; exact ⟨rfl, rfl⟩
    · exact hst f (findM_mem hff).1
/-- a journal and its disk fit together -/
structure Fits (D : Dm) (j : Jn) (fb : List (List Ck)) : Prop where
  holds : Holds D.fs fb
  l : j.l = recsOf 0 fb
  last : j.last = fb.length
  long : j.long = lastLen fb 0
  most : 1 ≤ j.most
theorem fb_split {fb : List (List Ck)} (h : fb ≠ []) : ∃ fc cs, fb = fc ++ [cs] := ⟨fb.dropLast, fb.getLast h, (List.dropLast_concat_getLast h).symm⟩
theorem add_fits {K L C : Nat} {D : Dm} {j : Jn} {fb : List (List Ck)} (hc : DkN.Calm K L C D) (hf : Fits D j fb) {bodies : List (List UInt8)} (hb : ∀ s ∈ bodies, s.length ≤ 65536) (h : (addD D (fileOf j) (allF bodies)).2 = 0) (Al : Option Addr) (cl : Nat) :
    ∃ fb', Fits (addD D (fileOf j) (allF bodies)).1 { j with last := fileOf j, long := (fileM ((fileOf j : Nat) : Int) D.fs).now.length + (allF bodies).length, l := j.l ++ recsAt (fileOf j) (fileM ((fileOf j : Nat) : Int) D.fs).now.length bodies, Al := Al, cl := cl } fb' := by
  obtain ⟨hfind, _, _⟩ := addD_done hc h
  have hno := hf.holds.no
  have hokb : ∀ c ∈ bodies.map FrA.fr, FrA.Ck.ok c := fun c hcc => by
    obtain ⟨s, hs, rfl⟩ := List.mem_map.1 hcc
    exact FrA.fr_ok (hb s hs)
  by_cases hnew : fileOf j = fb.length + 1
  · have hfile : fileM ((fileOf j : Nat) : Int) D.fs = ⟨(fileOf j : Nat), [], [], []⟩ := by unfold fileM; rw [hnew, hno _ (Nat.lt_succ_self _)]; rfl
    refine ⟨fb ++ [bodies.map FrA.fr], ⟨?_, ?_, ?_⟩, ?_, ?_, ?_, hf.most⟩
    · intro cs hcs c hcc
      rcases List.mem_append.1 hcs with hcs | hcs
      · exact hf.holds.ok cs hcs c hcc
      · rw [List.mem_singleton.1 hcs] at hcc
        exact hokb c hcc
    · intro k hk
      rw [List.length_append, List.length_singleton] at hk
      by_cases e : k < fb.length
      · obtain ⟨f, h1, h2⟩ := hf.holds.at_ k e
        refine ⟨f, ?_, by rw [h2, List.getElem_append_left e]⟩
        rw [hfind, if_neg (by rw [hnew]; omega)]; exact h1
      · obtain rfl : k = fb.length := by omega
        refine ⟨_, by rw [hfind, if_pos (by rw [hnew])], ?_⟩
        show (fileM ((fileOf j : Nat) : Int) D.fs).now ++ allF bodies = _
        rw [hfile, List.getElem_append_right (Nat.le_refl _)]
        simp [cat_fr]
    · intro k hk
      rw [List.length_append, List.length_singleton] at hk
      rw [hfind, if_neg (by rw [hnew]; omega)]
      exact hno k (by omega)
    · show j.l ++ recsAt (fileOf j) (fileM ((fileOf j : Nat) : Int) D.fs).now.length bodies = _
      rw [recsOf_snoc, hf.l, recF_fr, hfile, hnew, Nat.zero_add]; rfl
    · show fileOf j = _
      rw [List.length_append, List.length_singleton, hnew]
    · show (fileM ((fileOf j : Nat) : Int) D.fs).now.length + (allF bodies).length = lastLen _ 0
      rw [hfile]; unfold lastLen
      rw [List.getLast?_append, List.getLast?_singleton]
      show 0 + _ = (FrA.cat (bodies.map FrA.fr)).length
      rw [cat_fr, Nat.zero_add]
  · have hne : fb ≠ [] := fun e => hnew (by
      have h1 := hf.last
      have h2 := hf.long
      rw [e] at h1 h2
      have h3 : j.long = 0 := h2
      have hm := hf.most
      unfold fileOf
      rw [h3, if_neg (by omega), h1, e]; rfl)
    obtain ⟨fc, cs, rfl⟩ := fb_split hne
    have hl := hf.last
    rw [List.length_append, List.length_singleton] at hl hnew
    have hfo : fileOf j = fc.length + 1 := by
      unfold fileOf at hnew ⊢
      rw [hl] at hnew ⊢
      split at hnew
      · omega
      · rename_i e; rw [if_neg e]; omega
    obtain ⟨f, hf1, hf2⟩ := hf.holds.at_ fc.length (by simp)
    rw [List.getElem_append_right (Nat.le_refl _)] at hf2
    simp only [Nat.sub_self, List.getElem_cons_zero] at hf2
    have hfile : fileM ((fileOf j : Nat) : Int) D.fs = f := by unfold fileM; rw [hfo, hf1]; rfl
    refine ⟨fc ++ [cs ++ bodies.map FrA.fr], ⟨?_, ?_, ?_⟩, ?_, ?_, ?_, hf.most⟩
    · intro x hx c hcc
      rcases List.mem_append.1 hx with hx | hx
      · exact hf.holds.ok x (by simp [hx]) c hcc
      · rw [List.mem_singleton.1 hx] at hcc
        rcases List.mem_append.1 hcc with hcc | hcc
        · exact hf.holds.ok cs (by simp) c hcc
        · exact hokb c hcc
    · intro k hk
      rw [List.length_append, List.length_singleton] at hk
      by_cases e : k < fc.length
      · obtain ⟨g, h1, h2⟩ := hf.holds.at_ k (by rw [List.length_append]; omega)
        refine ⟨g, ?_, by rw [h2, List.getElem_append_left e, List.getElem_append_left e]⟩
        rw [hfind, if_neg (by rw [hfo]; omega)]; exact h1
      · obtain rfl : k = fc.length := by omega
        refine ⟨_, by rw [hfind, if_pos (by rw [hfo])], ?_⟩
        show (fileM ((fileOf j : Nat) : Int) D.fs).now ++ allF bodies = _
        rw [hfile, hf2, List.getElem_append_right (Nat.le_refl _)]
        simp [cat_fr]
    · intro k hk
      rw [List.length_append, List.length_singleton] at hk
      rw [hfind, if_neg (by rw [hfo]; omega)]
      exact hno k (by rw [List.length_append, List.length_singleton]; exact hk)
    · show j.l ++ recsAt (fileOf j) (fileM ((fileOf j : Nat) : Int) D.fs).now.length bodies = _
      rw [recsOf_snoc, hf.l, recsOf_snoc, fms_app, recF_app, recF_fr, hfile, hf2, hfo, Nat.zero_add, Nat.zero_add, List.append_assoc]
    · show fileOf j = _
      rw [List.length_append, List.length_singleton, hfo]
    · show (fileM ((fileOf j : Nat) : Int) D.fs).now.length + (allF bodies).length = lastLen _ 0
      rw [hfile, hf2]; unfold lastLen
      rw [List.getLast?_append, List.getLast?_singleton]
      show _ = (FrA.cat (cs ++ bodies.map FrA.fr)).length
      rw [FrA.cat_app, List.length_append, cat_fr]
theorem recsAt_good (file : Nat) : ∀ (xs : List (List UInt8)) (a : Nat), (recsAt file a xs).map (fun r => (r.body, r.good)) = xs.map fun s => (s, true) := by
  intro xs
  induction xs with
  | nil => intro a; rfl
  | cons x xs ih => intro a; simp [recsAt, ih]
/-- a disk all of whose files are sure -/
def Still (D : Dm) : Prop := ∀ f ∈ D.fs, f.loose = [] ∧ f.sure = f.now
theorem setM_self : ∀ {fs : List DkB.Fm} {f : DkB.Fm}, findM f.n fs = some f → setM f fs = fs := by
  intro fs
  induction fs with
  | nil => intro f h; cases h
  | cons g fs ih =>
    intro f h
    simp only [findM] at h
    simp only [setM]
    by_cases e : f.n = g.n
    · rw [if_pos e] at h ⊢; cases h; rfl
    · rw [if_neg e] at h ⊢; rw [ih h]
/-- a loss of power leaves all of such a disk -/
theorem crash_still {D : Dm} (h : Still D) (hd : D.dead = false) (mask : BitVec 64) (torn : Int) : crashD D mask torn = { D with dead := true } := by
  have hst : ∀ (ks : List Int) (bit : Nat) (t : Int), (ks.foldl (crashStep mask) (D.fs, bit, t)).1 = D.fs := by
    intro ks
    induction ks with
    | nil => intro bit t; rfl
    | cons k ks ih =>
      intro bit t
      rw [List.foldl_cons]
      unfold crashStep
      cases hk : findM k D.fs with
      | none => exact ih bit t
      | some f =>
        obtain ⟨h1, h2⟩ := findM_mem hk
        obtain ⟨h3, h4⟩ := h f h1
        have h5 : lostF f.now f.sure f.loose mask bit t = (f.now, bit, t) := by unfold lostF; rw [h3, h4]; rfl
        have h6 : (⟨f.n, f.now, f.now, []⟩ : DkB.Fm) = f := by
          obtain ⟨n, now, sure, loose⟩ := f
          simp only at h3 h4
          rw [h3, h4]
        show (ks.foldl (crashStep mask) (setM ⟨f.n, (lostF f.now f.sure f.loose mask bit t).1, (lostF f.now f.sure f.loose mask bit t).1, []⟩ D.fs, (lostF f.now f.sure f.loose mask bit t).2)).1 = D.fs
        rw [h5, h6, setM_self (by rw [h2]; exact hk)]
        exact ih bit t
  unfold crashD
  rw [if_neg (by rw [hd]; decide)]
  unfold crashFs
  rw [hst]
end Jn4
end Go.Proofs.Ytgcebieihmlaoaa
