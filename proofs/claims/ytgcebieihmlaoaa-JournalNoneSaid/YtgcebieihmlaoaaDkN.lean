/-
  Disks without a plan, with power: what they stay; what was synced is there behind a loss of power.
-/
import Derived.Test.YtgcebieihmlaoaaProg
import Derived.Test.YtgcebieihmlaoaaSlj
import Derived.Test.YtgcebieihmlaoaaDkM
namespace Go.Proofs.Ytgcebieihmlaoaa
open Go.SL Go.RowKit
set_option linter.unusedVariables false
set_option linter.unusedSimpArgs false
set_option maxRecDepth 100000
open DkA DkB DkC DkD DkE DkF DkG DkH DkI DkJ DkK DkL DkM
namespace DkN


/-- A disk with power and no plan, of at most K files of at most L bytes, C changes. -/
structure Calm (K L C : Nat) (D : Dm) : Prop where
  plan : D.plan = []
  dead : D.dead = false
  nd : (D.fs.map (·.n)).Nodup
  rise : ∀ f ∈ D.fs, Rise f.loose
  lim : ∀ f ∈ D.fs, ∀ i ∈ f.loose, i < sec f.now.length
  len : D.fs.length ≤ K
  now : ∀ f ∈ D.fs, f.now.length ≤ L
  sure : ∀ f ∈ D.fs, f.sure.length ≤ f.now.length
  room : 0 ≤ D.room ∧ D.room ≤ 9223372036854775807
  ch : D.ch ≤ C
theorem Calm.fit {K L C : Nat} {D : Dm} (h : Calm K L C D) (hK : K ≤ 1000000) (hL : L ≤ 68719476736) (hC : C ≤ 1152921504606846976) : D.Fit :=
  ⟨h.nd, h.rise, h.lim, Nat.le_trans h.len hK, fun f hf => Nat.le_trans (h.now f hf) hL, h.sure, h.room, Nat.le_trans h.ch hC, by rw [h.plan]; exact Nat.zero_le _⟩
theorem Calm.mono {K L C K' L' C' : Nat} {D : Dm} (h : Calm K L C D) (hK : K ≤ K') (hL : L ≤ L') (hC : C ≤ C') : Calm K' L' C' D :=
  ⟨h.plan, h.dead, h.nd, h.rise, h.lim, Nat.le_trans h.len hK, fun f hf => Nat.le_trans (h.now f hf) hL, h.sure, h.room, Nat.le_trans h.ch hC⟩
theorem Calm.strikes {K L C : Nat} {D : Dm} (h : Calm K L C D) : strikesD D = ({ D with ch := D.ch + 1 }, false) := by
  unfold strikesD
  rw [if_neg (by rw [h.dead]; decide), h.plan]
  rfl
theorem findM_mem {k : Int} : ∀ {fs : List Fm} {f : Fm}, findM k fs = some f → f ∈ fs ∧ f.n = k := by
  intro fs
  induction fs with
  | nil => intro f h; cases h
  | cons g fs ih =>
    intro f h
    simp only [findM] at h
    split at h
    · rename_i e; cases h; exact ⟨by simp, e.symm⟩
    · obtain ⟨h1, h2⟩ := ih h; exact ⟨by simp [h1], h2⟩
theorem findM_of_mem : ∀ {fs : List Fm} {f : Fm}, (fs.map (·.n)).Nodup → f ∈ fs → findM f.n fs = some f := by
  intro fs
  induction fs with
  | nil => intro f _ h; cases h
  | cons g fs ih =>
    intro f hn h
    simp only [findM]
    rw [List.map_cons, List.nodup_cons] at hn
    rcases List.mem_cons.1 h with rfl | h
    · rw [if_pos rfl]
    · rw [if_neg (fun e => hn.1 (by rw [← e]; exact List.mem_map.2 ⟨f, h, rfl⟩)), ih hn.2 h]
theorem setM_mem {f : Fm} : ∀ {ms : List Fm} {g : Fm}, g ∈ setM f ms → g = f ∨ g ∈ ms := by
  intro ms
  induction ms with
  | nil => intro g h; left; simpa [setM] using h
  | cons m ms ih =>
    intro g h
    simp only [setM] at h
    split at h
    · rcases List.mem_cons.1 h with rfl | h
      · exact .inl rfl
      · exact .inr (by simp [h])
    · rcases List.mem_cons.1 h with rfl | h
      · exact .inr (by simp)
      · rcases ih h with e | e
        · exact .inl e
        · exact .inr (by simp [e])
theorem setM_nums {f : Fm} : ∀ {ms : List Fm}, (setM f ms).map (·.n) = if f.n ∈ ms.map (·.n) then ms.map (·.n) else ms.map (·.n) ++ [f.n] := by
  intro ms
  induction ms with
  | nil => rfl
  | cons m ms ih =>
    simp only [setM]
    split
    · rename_i e
      rw [if_pos (by simp [e])]; simp [e]
    · rename_i e
      rw [List.map_cons, ih, List.map_cons]
      by_cases h : f.n ∈ ms.map (·.n)
      · rw [if_pos h, if_pos (by simp only [List.mem_cons]; exact .inr h)]
      · rw [if_neg h, if_neg (by simp only [List.mem_cons, not_or]; exact ⟨e, h⟩)]; rfl
theorem setM_len (f : Fm) (ms : List Fm) : (setM f ms).length ≤ ms.length + 1 := by
  have := congrArg List.length (setM_nums (f := f) (ms := ms))
  rw [List.length_map] at this
  rw [this]
  split
  · rw [List.length_map]; omega
  · rw [List.length_append, List.length_map]; simp
theorem setM_nodup {f : Fm} {ms : List Fm} (h : (ms.map (·.n)).Nodup) : ((setM f ms).map (·.n)).Nodup := by
  rw [setM_nums]
  split
  · exact h
  · rename_i hn
    rw [List.nodup_append]
    exact ⟨h, by simp, fun a ha b hb e => hn (by rw [List.mem_singleton] at hb; rw [← hb, ← e]; exact ha)⟩
theorem findM_set {f : Fm} (k : Int) : ∀ {ms : List Fm}, findM k (setM f ms) = if k = f.n then some f else findM k ms := by
  intro ms
  induction ms with
  | nil => rfl
  | cons m ms ih =>
    simp only [setM]
    split
    · rename_i e
      simp only [findM]
      by_cases h : k = f.n
      · rw [if_pos h, if_pos h]
      · rw [if_neg h, if_neg h, if_neg (by rw [← e]; exact h)]
    · rename_i e
      simp only [findM]
      rw [ih]
      by_cases h : k = m.n
      · rw [if_pos h, if_pos h, if_neg (by rw [h]; exact fun e2 => e e2.symm)]
      · rw [if_neg h, if_neg h]
theorem delM_sub (k : Int) : ∀ (ms : List Fm), (DkB.delM k ms).Sublist ms := by
  intro ms
  induction ms with
  | nil => exact List.Sublist.refl _
  | cons m ms ih =>
    simp only [DkB.delM]
    split
    · exact List.sublist_cons_self _ _
    · exact ih.cons_cons _
theorem fileM_cases (n : Int) (fs : List Fm) : (∃ f ∈ fs, findM n fs = some f ∧ fileM n fs = f ∧ f.n = n) ∨ (findM n fs = none ∧ fileM n fs = ⟨n, [], [], []⟩) := by
  unfold fileM
  cases h : findM n fs with
  | none => exact .inr ⟨rfl, rfl⟩
  | some f => exact .inl ⟨f, (findM_mem h).1, rfl, rfl, (findM_mem h).2⟩
theorem touchL_rise {l : List Nat} (h : Rise l) (a b : Nat) : Rise (touchL l a b) := by
  unfold touchL
  split
  · generalize List.range' (a / 64) (sec b - a / 64) = r
    induction r generalizing l with
    | nil => exact h
    | cons i r ih => exact ih (insN_rise h i)
  · exact h
theorem touchL_mem {l : List Nat} {a b x : Nat} (h : x ∈ touchL l a b) : x ∈ l ∨ (a < b ∧ x < sec b) := by
  unfold touchL at h
  split at h
  · rename_i hab
    have : ∀ (r : List Nat) (l : List Nat), x ∈ r.foldl insN l → x ∈ l ∨ x ∈ r := by
      intro r
      induction r with
      | nil => intro l h; exact .inl h
      | cons i r ih =>
        intro l h
        rcases ih _ h with h | h
        · rcases (insN_mem _ _ _).1 h with h | h
          · exact .inl h
          · exact .inr (by simp [h])
        · exact .inr (by simp [h])
    rcases this _ _ h with h | h
    · exact .inl h
    · right
      rw [List.mem_range'_1] at h
      exact ⟨hab, by omega⟩
  · exact .inl h
theorem sec_mono {a b : Nat} (h : a ≤ b) : sec a ≤ sec b := by unfold sec; omega
/-- a file put in -/
theorem Calm.set {K L C : Nat} {D : Dm} (h : Calm K L C D) {f : Fm} {K' L' : Nat} (hK : K + 1 ≤ K') (hL : L ≤ L') (h1 : Rise f.loose) (h2 : ∀ i ∈ f.loose, i < sec f.now.length) (h3 : f.now.length ≤ L') (h4 : f.sure.length ≤ f.now.length) :
    Calm K' L' (C + 1) { D with ch := D.ch + 1, fs := setM f D.fs } := by
  refine ⟨h.plan, h.dead, setM_nodup h.nd, fun g hg => ?_, fun g hg => ?_, ?_, fun g hg => ?_, fun g hg => ?_, h.room, Nat.succ_le_succ h.ch⟩
  · rcases setM_mem hg with rfl | hg
    · exact h1
    · exact h.rise g hg
  · rcases setM_mem hg with rfl | hg
    · exact h2
    · exact h.lim g hg
  · have h5 := h.len
    have h6 := setM_len f D.fs
    show (setM f D.fs).length ≤ K'
    omega
  · rcases setM_mem hg with rfl | hg
    · exact h3
    · exact Nat.le_trans (h.now g hg) hL
  · rcases setM_mem hg with rfl | hg
    · exact h4
    · exact h.sure g hg
theorem Calm.file {K L C : Nat} {D : Dm} (h : Calm K L C D) (n : Int) : Rise (fileM n D.fs).loose ∧ (∀ i ∈ (fileM n D.fs).loose, i < sec (fileM n D.fs).now.length) ∧ (fileM n D.fs).now.length ≤ L ∧ (fileM n D.fs).sure.length ≤ (fileM n D.fs).now.length := by
  rcases fileM_cases n D.fs with ⟨f, hf, _, e, _⟩ | ⟨_, e⟩
  · rw [e]; exact ⟨h.rise f hf, h.lim f hf, h.now f hf, h.sure f hf⟩
  · rw [e]; exact ⟨List.Pairwise.nil, fun i hi => (by cases hi), Nat.zero_le _, Nat.le_refl _⟩
theorem Calm.append {K L C : Nat} {D : Dm} (h : Calm K L C D) (n : Int) (s : List UInt8) : Calm (K + 1) (L + s.length) (C + 1) (appendD D n s).1 := by
  have hf := h.file n
  have hm := h.mono (K' := K + 1) (L' := L + s.length) (C' := C + 1) (by omega) (by omega) (by omega)
  unfold appendD
  rw [h.strikes, if_neg (by rw [h.dead]; decide)]
  split
  · exact hm
  split
  · exact hm
  rw [if_neg Bool.false_ne_true]
  refine h.set (Nat.le_refl _) (by omega) (touchL_rise hf.1 _ _) (fun i hi => ?_) (by show (_ ++ s).length ≤ _; rw [List.length_append]; omega) (by have := hf.2.2.2; show (fileM n D.fs).sure.length ≤ (_ ++ s).length; rw [List.length_append]; omega)
  show i < sec (_ ++ s).length
  rw [List.length_append]
  rcases touchL_mem hi with hi | hi
  · exact Nat.lt_of_lt_of_le (hf.2.1 i hi) (sec_mono (by omega))
  · exact hi.2
theorem Calm.sync {K L C : Nat} {D : Dm} (h : Calm K L C D) (n : Int) : Calm (K + 1) L (C + 1) (syncD D n).1 := by
  have hf := h.file n
  have hm := h.mono (K' := K + 1) (L' := L) (C' := C + 1) (by omega) (by omega) (by omega)
  unfold syncD
  rw [h.strikes]
  split
  · exact hm
  rw [if_neg Bool.false_ne_true]
  exact h.set (Nat.le_refl _) (Nat.le_refl _) List.Pairwise.nil (fun i hi => (by cases hi)) hf.2.2.1 (Nat.le_refl _)
theorem Calm.cut {K L C : Nat} {D : Dm} (h : Calm K L C D) (n long : Int) : Calm (K + 1) L (C + 1) (cutD D n long).1 := by
  have hf := h.file n
  have hm := h.mono (K' := K + 1) (L' := L) (C' := C + 1) (by omega) (by omega) (by omega)
  unfold cutD
  rw [h.strikes]
  split
  · exact hm
  split
  · exact hm
  rw [if_neg Bool.false_ne_true]
  exact h.set (Nat.le_refl _) (Nat.le_refl _) List.Pairwise.nil (fun i hi => (by cases hi)) (by have := hf.2.2.1; show (List.take _ _).length ≤ _; rw [List.length_take]; omega) (Nat.le_refl _)
theorem Calm.write {K L C : Nat} {D : Dm} (h : Calm K L C D) (n at_ : Int) (s : List UInt8) : Calm (K + 1) L (C + 1) (writeD D n at_ s).1 := by
  have hf := h.file n
  have hm := h.mono (K' := K + 1) (L' := L) (C' := C + 1) (by omega) (by omega) (by omega)
  unfold writeD
  rw [h.strikes]
  split
  · exact hm
  split
  · exact hm
  rename_i hb
  rw [if_neg Bool.false_ne_true]
  have hl : ((fileM n D.fs).now.take at_.toNat ++ s ++ (fileM n D.fs).now.drop (at_.toNat + s.length)).length = (fileM n D.fs).now.length := by
    simp only [List.length_append, List.length_take, List.length_drop]; omega
  refine h.set (Nat.le_refl _) (Nat.le_refl _) (touchL_rise hf.1 _ _) (fun i hi => ?_) (by show List.length (_ ++ _) ≤ _; rw [hl]; exact hf.2.2.1) (by show _ ≤ List.length (_ ++ _); rw [hl]; exact hf.2.2.2)
  show i < sec (List.length (_ ++ _))
  rw [hl]
  rcases touchL_mem hi with hi | hi
  · exact hf.2.1 i hi
  · exact Nat.lt_of_lt_of_le hi.2 (sec_mono (by omega))
theorem Calm.remove {K L C : Nat} {D : Dm} (h : Calm K L C D) (n : Int) : Calm (K + 1) L (C + 1) (removeD D n).1 := by
  have hm := h.mono (K' := K + 1) (L' := L) (C' := C + 1) (by omega) (by omega) (by omega)
  unfold removeD
  rw [h.strikes]
  split
  · exact hm
  rw [if_neg Bool.false_ne_true]
  have hs := delM_sub n D.fs
  exact ⟨h.plan, h.dead, h.nd.sublist (hs.map _), fun f hf => h.rise f (hs.subset hf), fun f hf => h.lim f (hs.subset hf), Nat.le_trans (Nat.le_trans hs.length_le h.len) (by omega), fun f hf => h.now f (hs.subset hf), fun f hf => h.sure f (hs.subset hf), h.room, Nat.succ_le_succ h.ch⟩
/-- some first bytes of a file are sure -/
def SureL (fs : List Fm) (n : Int) (t : List UInt8) : Prop := ∃ f, findM n fs = some f ∧ t <+: f.now ∧ t <+: f.sure
theorem pre_at {t l : List UInt8} : t <+: l ↔ ∀ k, k < t.length → l[k]? = t[k]? := by
  constructor
  · rintro ⟨r, rfl⟩ k hk
    rw [List.getElem?_append_left hk]
  · intro h
    refine List.prefix_iff_getElem?.2 fun k hk => ?_
    rw [h k hk, List.getElem?_eq_getElem hk]
theorem pad_at {l : List UInt8} {n k : Nat} (h : k < l.length) : (pad l n)[k]? = l[k]? := by
  unfold pad; rw [List.getElem?_append_left h]
theorem outF_pre {t now out : List UInt8} {fr T : Nat} (h1 : t <+: now) (h2 : t <+: out) (hT : T ≤ now.length) : t <+: outF now out fr T := by
  unfold outF
  split
  · rename_i hlt
    have hl := pad_len out T
    have ho := h2.length_le
    rw [pre_at] at h1 h2 ⊢
    intro k hk
    have e1 : ((pad out T).take fr).length = fr := by rw [List.length_take]; omega
    have e2 : ((now.drop fr).take (T - fr)).length = T - fr := by rw [List.length_take, List.length_drop]; omega
    by_cases c1 : k < fr
    · rw [List.append_assoc, List.getElem?_append_left (by omega), List.getElem?_take_of_lt c1, pad_at (by omega)]; exact h2 k hk
    · by_cases c2 : k < T
      · rw [List.append_assoc, List.getElem?_append_right (by omega), List.getElem?_append_left (by omega), e1, List.getElem?_take_of_lt (by omega), List.getElem?_drop, show fr + (k - fr) = k by omega]; exact h1 k hk
      · rw [List.getElem?_append_right (by rw [List.length_append]; omega), List.length_append, e1, e2, List.getElem?_drop, show T + (k - (fr + (T - fr))) = k by omega, pad_at (by omega)]; exact h2 k hk
  · exact h2
theorem lostF_pre {t now : List UInt8} {mask : BitVec 64} : ∀ (loose : List Nat) (sure : List UInt8) (bit : Nat) (torn : Int), t <+: now → t <+: sure → (∀ i ∈ loose, i < sec now.length) → t <+: (lostF now sure loose mask bit torn).1 := by
  intro loose
  induction loose with
  | nil => intro sure bit torn _ h2 _; exact h2
  | cons i l ih =>
    intro sure bit torn h1 h2 h3
    show t <+: (lostF now (outF now sure (i * 64) (toF now mask bit torn i)) l mask (bit + 1) (if kept mask bit = true then torn else 0)).1
    exact ih _ _ _ h1 (outF_pre h1 h2 (toF_le (h3 i (by simp))).1) fun j hj => h3 j (by simp [hj])
theorem lost_ok {f : Fm} (h : f.Ok) (mask : BitVec 64) (bit : Nat) (torn : Int) : (lostF f.now f.sure f.loose mask bit torn).1.length ≤ f.now.length := (lostF_len f.now mask f.loose (f.sure, bit, torn) h.2.2.2 h.2.1).1
/-- what a loss of power leaves: files of the same numbers, what was sure, nothing loose -/
structure Left (ks : List Int) (fs0 : List Fm) (fs : List Fm) : Prop where
  nums : fs.map (·.n) = fs0.map (·.n)
  ok : ∀ f ∈ fs, f.Ok
  le : ∀ n f, findM n fs = some f → ∃ g, findM n fs0 = some g ∧ f.now.length ≤ g.now.length
  sure : ∀ n t, SureL fs0 n t → SureL fs n t
  none : ∀ n, n ∈ ks → ∀ f, findM n fs = some f → f.loose = []
theorem crash_left (mask : BitVec 64) (fs0 : List Fm) (ok0 : ∀ f ∈ fs0, f.Ok) : ∀ (ks done : List Int) (s : List Fm × Nat × Int), Left done fs0 s.1 → Left (done ++ ks) fs0 (ks.foldl (crashStep mask) s).1 := by
  intro ks
  induction ks with
  | nil => intro done s h; rw [List.append_nil]; exact h
  | cons k ks ih =>
    intro done s h
    rw [List.foldl_cons, show done ++ k :: ks = (done ++ [k]) ++ ks by simp]
    apply ih
    unfold crashStep
    cases hk : findM k s.1 with
    | none =>
      refine ⟨h.nums, h.ok, h.le, h.sure, fun n hn f hf => ?_⟩
      rcases List.mem_append.1 hn with hn | hn
      · exact h.none n hn f hf
      · rw [List.mem_singleton.1 hn, hk] at hf; cases hf
    | some f =>
      obtain ⟨hfm, hfn⟩ := findM_mem hk
      have hfo := h.ok f hfm
      have hl := lost_ok hfo mask s.2.1 s.2.2
      refine ⟨?_, ?_, ?_, ?_, ?_⟩
      · show (setM _ s.1).map (·.n) = _
        rw [setM_nums, if_pos (List.mem_map.2 ⟨f, hfm, rfl⟩)]; exact h.nums
      · refine setM_ok h.ok ⟨List.Pairwise.nil, fun i hi => (by cases hi), ?_, Nat.le_refl _⟩
        have := hfo.2.2.1
        show (lostF f.now f.sure f.loose mask s.2.1 s.2.2).1.length ≤ _
        omega
      · intro n g hg
        rw [show (setM _ s.1, _).1 = setM _ s.1 from rfl, findM_set] at hg
        split at hg
        · rename_i e
          cases hg
          obtain ⟨g0, hg0, hle⟩ := h.le k f hk
          exact ⟨g0, by rw [e]; show findM f.n fs0 = _; rw [hfn]; exact hg0, Nat.le_trans hl hle⟩
        · exact h.le n g hg
      · intro n t hs
        obtain ⟨g, hg, h1, h2⟩ := h.sure n t hs
        show SureL (setM _ s.1) n t
        unfold SureL
        rw [findM_set]
        by_cases e : n = f.n
        · rw [show n = k from e.trans hfn, hk] at hg
          cases hg
          have hp := lostF_pre (mask := mask) f.loose f.sure s.2.1 s.2.2 h1 h2 hfo.2.1
          exact ⟨_, if_pos e, hp, hp⟩
        · exact ⟨g, by rw [if_neg e]; exact hg, h1, h2⟩
      · intro n hn g hg
        rw [show (setM _ s.1, _).1 = setM _ s.1 from rfl, findM_set] at hg
        split at hg
        · cases hg; rfl
        · rename_i e
          rcases List.mem_append.1 hn with hn | hn
          · exact h.none n hn g hg
          · exact absurd (show n = f.n by rw [hfn]; exact List.mem_singleton.1 hn) e
theorem crash_calm {K L C : Nat} {D : Dm} (h : Calm K L C D) (hL : L ≤ 68719476736) (mask : BitVec 64) (torn : Int) :
    Calm K L C { crashD D mask torn with dead := false } ∧ (crashD D mask torn).dead = true ∧ (crashD D mask torn).fs.map (·.n) = D.fs.map (·.n) ∧ (∀ n t, SureL D.fs n t → SureL (crashD D mask torn).fs n t) ∧ (∀ f ∈ (crashD D mask torn).fs, f.loose = []) := by
  unfold crashD
  rw [if_neg (by rw [h.dead]; decide)]
  have ok0 : ∀ f ∈ D.fs, f.Ok := fun f hf => ⟨h.rise f hf, h.lim f hf, Nat.le_trans (h.now f hf) hL, h.sure f hf⟩
  have hl := crash_left mask D.fs ok0 (sortI (D.fs.map (·.n))) [] (D.fs, 0, torn) ⟨rfl, ok0, fun n f hf => ⟨f, hf, Nat.le_refl _⟩, fun n t hs => hs, fun n hn => (by cases hn)⟩
  have hnd : ((crashFs mask torn D.fs).map (·.n)).Nodup := by rw [show (crashFs mask torn D.fs).map (·.n) = _ from hl.nums]; exact h.nd
  have hloose : ∀ f ∈ crashFs mask torn D.fs, f.loose = [] := fun f hf => by
    refine hl.none f.n ?_ f (findM_of_mem hnd hf)
    rw [List.nil_append]
    refine (List.mergeSort_perm _ _).mem_iff.2 ?_
    rw [← hl.nums]
    exact List.mem_map.2 ⟨f, hf, rfl⟩
  refine ⟨⟨h.plan, rfl, hnd, fun f hf => (hl.ok f hf).1, fun f hf => (hl.ok f hf).2.1, ?_, fun f hf => ?_, fun f hf => (hl.ok f hf).2.2.2, h.room, h.ch⟩, rfl, hl.nums, hl.sure, hloose⟩
  · have := congrArg List.length hl.nums
    rw [List.length_map, List.length_map] at this
    show (crashFs mask torn D.fs).length ≤ K
    have h5 := h.len
    unfold crashFs; omega
  · obtain ⟨g, hg, hle⟩ := hl.le f.n f (findM_of_mem hnd hf)
    exact Nat.le_trans hle (h.now g (findM_mem hg).1)
theorem looseM_zero {fs : List Fm} (h : ∀ f ∈ fs, f.loose = []) : looseM fs = 0 := by
  unfold looseM
  induction fs with
  | nil => rfl
  | cons f fs ih => rw [List.map_cons, List.sum_cons, ih fun g hg => h g (by simp [hg]), h f (by simp)]; rfl
theorem sure_append {K L C : Nat} {D : Dm} (h : Calm K L C D) {m n : Int} {s t : List UInt8} (hs : SureL D.fs n t) : SureL (appendD D m s).1.fs n t := by
  unfold appendD
  rw [h.strikes, if_neg (by rw [h.dead]; decide)]
  split
  · exact hs
  split
  · exact hs
  rw [if_neg Bool.false_ne_true]
  show SureL (setM _ D.fs) n t
  unfold SureL
  rw [findM_set]
  by_cases e : n = m
  · obtain ⟨f, hf, h1, h2⟩ := hs
    have hfile : fileM m D.fs = f := by unfold fileM; rw [← e, hf]; rfl
    rw [hfile]
    exact ⟨_, if_pos e, h1.trans (List.prefix_append _ _), h2⟩
  · obtain ⟨f, hf, h1, h2⟩ := hs
    exact ⟨f, by rw [if_neg e]; exact hf, h1, h2⟩
end DkN
end Go.Proofs.Ytgcebieihmlaoaa
