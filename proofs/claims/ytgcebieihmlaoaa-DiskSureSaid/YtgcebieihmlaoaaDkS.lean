/-
  What was synced: plain laws.
-/
import Derived.Test.YtgcebieihmlaoaaProg
import Derived.Test.YtgcebieihmlaoaaSlj
import Derived.Test.YtgcebieihmlaoaaDkR
namespace Go.Proofs.Ytgcebieihmlaoaa
open Go.SL Go.RowKit
set_option linter.unusedVariables false
set_option linter.unusedSimpArgs false
set_option maxRecDepth 100000
open DkA DkB DkC DkD DkE DkF DkG DkH DkI DkJ DkK DkL DkM DkN DkO DkP DkQ DkR
namespace DkS


def nowOf (fs : List Fm) (n : Int) : List UInt8 := (fileM n fs).now
theorem findM_num {n : Int} : ∀ {fs : List Fm}, n ∈ fs.map (·.n) → ∃ f, findM n fs = some f := by
  intro fs
  induction fs with
  | nil => intro h; cases h
  | cons g fs ih =>
    intro h
    simp only [findM]
    split
    · exact ⟨g, rfl⟩
    · rename_i e
      rw [List.map_cons] at h
      rcases List.mem_cons.1 h with h | h
      · exact absurd h e
      · exact ih h
theorem sync_props {K L C : Nat} {D : Dm} (h : DkN.Calm K L C D) {n : Int} (hn : n ∈ D.fs.map (·.n)) :
    (syncD D n).2 = 0 ∧ (syncD D n).1.fs.map (·.n) = D.fs.map (·.n) ∧ (∀ m, nowOf (syncD D n).1.fs m = nowOf D.fs m) ∧ SureL (syncD D n).1.fs n (nowOf D.fs n) ∧ (∀ m t, SureL D.fs m t → SureL (syncD D n).1.fs m t) := by
  obtain ⟨f, hf⟩ := findM_num hn
  have hfile : fileM n D.fs = f := by unfold fileM; rw [hf]; rfl
  have hfn := (findM_mem hf).2
  have he : errM D n = 0 := by unfold errM; rw [if_neg (by rw [h.dead]; decide), hf]
  have hs : syncD D n = ({ D with ch := D.ch + 1, fs := setM ⟨n, f.now, f.now, []⟩ D.fs }, 0) := by
    unfold syncD
    rw [h.strikes, if_neg (fun e => e he), if_neg Bool.false_ne_true, hfile]
  rw [hs]
  refine ⟨rfl, ?_, fun m => ?_, ?_, fun m t ⟨g, hg, h1, h2⟩ => ?_⟩
  · show (setM _ D.fs).map (·.n) = _
    rw [setM_nums, if_pos hn]
  · unfold nowOf fileM
    rw [findM_set]
    by_cases e : m = n
    · rw [if_pos e, e, hf]; rfl
    · rw [if_neg e]
  · unfold nowOf
    rw [hfile]
    refine ⟨⟨n, f.now, f.now, []⟩, ?_, List.prefix_refl _, List.prefix_refl _⟩
    rw [findM_set, if_pos rfl]
  · by_cases e : m = n
    · rw [e, hf] at hg
      cases hg
      exact ⟨⟨n, f.now, f.now, []⟩, by rw [findM_set, if_pos e], h1, h1⟩
    · exact ⟨g, by rw [findM_set, if_neg e]; exact hg, h1, h2⟩
/-- the numbers of a disk's files, in order -/
def kys (D : Dm) : List Int := sortI (D.fs.map (·.n))
theorem kys_mem {D : Dm} {n : Int} : n ∈ kys D ↔ n ∈ D.fs.map (·.n) := (List.mergeSort_perm _ _).mem_iff
theorem kys_nodup {D : Dm} (h : (D.fs.map (·.n)).Nodup) : (kys D).Nodup := (List.mergeSort_perm _ _).nodup_iff.2 h
theorem kys_len (D : Dm) : (kys D).length = D.fs.length := by unfold kys; rw [sortI_len, List.length_map]
/-- what was read, by numbers -/
def wasL (T : Int → List UInt8) (ks : List Int) : List (Int × Value) := ks.map fun n => (n, str (T n))
theorem was_set {T : Int → List UInt8} {k : Int} : ∀ {ks : List Int}, k ∉ ks → mset k (str (T k)) (wasL T ks) = wasL T (ks ++ [k]) := by
  intro ks
  induction ks with
  | nil => intro _; rfl
  | cons j ks ih =>
    intro h
    rw [List.mem_cons, not_or] at h
    show (if k = j then _ else _) = _
    rw [if_neg h.1]
    show (j, str (T j)) :: mset k (str (T k)) (wasL T ks) = _
    rw [ih h.2]; rfl
theorem was_get {T : Int → List UInt8} {k : Int} : ∀ {ks : List Int}, k ∈ ks → mget k (wasL T ks) = some (str (T k)) := by
  intro ks
  induction ks with
  | nil => intro h; cases h
  | cons j ks ih =>
    intro h
    show (if k = j then _ else _) = _
    by_cases e : k = j
    · rw [if_pos e, e]
    · rw [if_neg e]
      rcases List.mem_cons.1 h with h | h
      · exact absurd h e
      · exact ih h
theorem nodup_take {l : List Int} (h : l.Nodup) {i : Nat} (hi : i < l.length) : l[i] ∉ l.take i := fun hm => by
  obtain ⟨j, hj, e⟩ := List.getElem_of_mem hm
  rw [List.length_take] at hj
  rw [List.getElem_take] at e
  exact (List.pairwise_iff_getElem.1 h) j i (by omega) hi (by omega) e
theorem band255 (n : Int) : ∃ m : Nat, bAnd .i64 n 255 = (m : Int) ∧ m ≤ 255 := by
  refine ⟨(BitVec.ofInt 64 n &&& BitVec.ofInt 64 255).toNat, ?_, ?_⟩
  · unfold bAnd
    have h1 : (BitVec.ofInt 64 n &&& BitVec.ofInt 64 255).toNat ≤ 255 := by
      rw [BitVec.toNat_and]; exact Nat.le_trans Nat.and_le_right (by decide)
    show IntKind.i64.wrap (((BitVec.ofInt 64 n &&& BitVec.ofInt 64 255).toNat : Nat) : Int) = _
    exact wrap64 (by omega) (by omega)
  · rw [BitVec.toNat_and]; exact Nat.le_trans Nat.and_le_right (by decide)
theorem err_of_sure {D : Dm} (hd : D.dead = false) {n : Int} {t : List UInt8} (h : SureL D.fs n t) : errM D n = 0 ∧ t <+: (fileM n D.fs).now := by
  obtain ⟨f, hf, h1, _⟩ := h
  refine ⟨by unfold errM; rw [if_neg (by rw [hd]; decide), hf], ?_⟩
  unfold fileM; rw [hf]; exact h1
end DkS
end Go.Proofs.Ytgcebieihmlaoaa
