/-
  JournalReads: whatever the input, the law answers true, and the input reads as it did.
-/
import Derived.Test.YtgcebieihmlaoaaProg
import Derived.SizedLaws
import Derived.Deep.Strs
import Derived.Test.YtgcebieihmlaoaaRows
import Derived.Test.YtgcebieihmlaoaaMg5

/-
  Plain laws: files of whatever bytes, read from the front on.
-/
namespace Go.Proofs.Ytgcebieihmlaoaa
open Go.SL Go.RowKit
set_option linter.unusedVariables false
set_option linter.unusedSimpArgs false
set_option maxRecDepth 100000
open DkA DkB DkD DkE DkF DkG DkH DkI DkJ DkM DkN Fr1 Jn1 Jn2 Jn3 Jn4 Jn5 Jn6
namespace Jn8


/-- a frame so many bytes further on -/
def shF (k : Nat) (f : Fr2.Fm) : Fr2.Fm := { f with pos := k + f.pos }
theorem nextT_sh (t : List UInt8) (k a : Nat) : Fr7.nextT t (k + a) = (Fr7.nextT t a).map (shF k) := by
  unfold Fr7.nextT
  split
  · rfl
  split
  · rfl
  split
  · rfl
  split
  · rfl
  · simp only [Option.map_some, shF]; rw [Nat.add_assoc]
theorem nextF_sh (p q : List UInt8) (a : Nat) (ha : a ≤ q.length) : Fr2.nextF (p ++ q) (p.length + a) = (Fr2.nextF q a).map (shF p.length) := by
  rw [Fr7.nextF_eq _ _ (by rw [List.length_append]; omega), Fr7.nextF_eq _ _ ha, List.drop_append, List.drop_of_length_le (by omega), List.nil_append, show p.length + a - p.length = a by omega, nextT_sh]
theorem nx_get {l : List UInt8} {a : Nat} {f : Fr2.Fm} (h : Fr2.nextF l a = some f) : Fr2.nx l a = f := by unfold Fr2.nx; rw [h]; rfl
theorem scanF_sh (p q : List UInt8) : ∀ (m a : Nat), a ≤ q.length → Fr2.scanF (p ++ q) m (p.length + a) = (Fr2.scanF q m a).map (shF p.length) := by
  intro m
  induction m with
  | zero => intro a _; rfl
  | succ m ih =>
    intro a ha
    unfold Fr2.scanF
    have h := nextF_sh p q a ha
    cases hq : Fr2.nextF q a with
    | none => rw [hq] at h; rw [h]; rfl
    | some f =>
      rw [hq] at h
      have h2 : Fr2.nextF (p ++ q) (p.length + a) = some (shF p.length f) := h
      have hb := Fr2.nx_bound ha (by rw [hq]; rfl)
      rw [nx_get hq] at hb
      rw [if_pos (by rw [h2]; rfl), if_pos (by rfl), nx_get h2, nx_get hq, List.map_cons]
      congr 1
      have h3 := ih (f.pos + f.body.length) hb.2
      rw [← h3]
      show Fr2.scanF (p ++ q) m (p.length + f.pos + f.body.length) = _
      rw [Nat.add_assoc]
theorem scanF_fuel (q : List UInt8) : ∀ (m m' a : Nat), a ≤ q.length → q.length < m + a → q.length < m' + a → Fr2.scanF q m a = Fr2.scanF q m' a := by
  intro m
  induction m with
  | zero => intro m' a h1 h2; omega
  | succ m ih =>
    intro m' a h1 h2 h3
    obtain ⟨m', rfl⟩ : ∃ k, m' = k + 1 := ⟨m' - 1, by omega⟩
    unfold Fr2.scanF
    cases hq : Fr2.nextF q a with
    | none => rfl
    | some f =>
      have hb := Fr2.nx_bound h1 (by rw [hq]; rfl)
      rw [nx_get hq] at hb
      rw [if_pos (by rfl), if_pos (by rfl), nx_get hq]
      congr 1
      exact ih m' _ hb.2 (by omega) (by omega)
theorem scan_app {cs : List Ck} (h : ∀ c ∈ cs, FrA.Ck.ok c) (q : List UInt8) : Fr2.scanL (FrA.cat cs ++ q) = FrA.fms cs 0 ++ (Fr2.scanL q).map (shF (FrA.cat cs).length) := by
  have h1 := FrA.scan_cat cs h [] q ((FrA.cat cs ++ q).length + 1) (by have := FrA.cat_len h; rw [List.length_append]; omega)
  simp only [List.nil_append, List.length_nil, Nat.zero_add] at h1
  unfold Fr2.scanL
  rw [h1]
  congr 1
  have h2 : Fr2.scanF (FrA.cat cs ++ q) ((FrA.cat cs ++ q).length + 1 - cs.length) (FrA.cat cs).length = _ := scanF_sh (FrA.cat cs) q ((FrA.cat cs ++ q).length + 1 - cs.length) 0 (Nat.zero_le _)
  rw [h2]
  congr 1
  exact scanF_fuel q _ _ 0 (Nat.zero_le _) (by have := FrA.cat_len h; rw [List.length_append]; omega) (by omega)
theorem endL_app (A B : List Fr2.Fm) (k : Nat) (hA : Fr2.endL A = k) : Fr2.endL (A ++ B.map (shF k)) = k + Fr2.endL B := by
  rcases List.eq_nil_or_concat B with rfl | ⟨B, x, rfl⟩
  · rw [List.map_nil, List.append_nil, hA]; rfl
  · rw [List.concat_eq_append, List.map_append, ← List.append_assoc]; show Fr2.endL (_ ++ [shF k x]) = _; rw [Fr2.endL_snoc, Fr2.endL_snoc]; show k + x.pos + x.body.length = _; omega
/-- files by their numbers, as they are read: the records, whether it ends among them -/
def readS : Nat → List (Option (List UInt8)) → List Rc
  | _, [] => []
  | _, none :: _ => []
  | k, some t :: sl => recF (k + 1) (Fr2.scanL t) ++ if Fr2.endL (Fr2.scanL t) < t.length then [] else readS (k + 1) sl
def stopS : List (Option (List UInt8)) → Bool
  | [] => false
  | none :: _ => true
  | some t :: sl => decide (Fr2.endL (Fr2.scanL t) < t.length) || stopS sl
theorem readS_app (sl : List (Option (List UInt8))) : ∀ (k : Nat) (o : Option (List UInt8)), readS k (sl ++ [o]) = readS k sl ++ if stopS sl = true then [] else (match o with | none => [] | some t => recF (k + sl.length + 1) (Fr2.scanL t)) := by
  induction sl with
  | nil => intro k o; cases o with
    | none => rfl
    | some t => simp [readS, stopS]
  | cons x sl ih =>
    intro k o
    cases x with
    | none => simp [readS, stopS]
    | some t =>
      simp only [List.cons_append, readS, stopS, List.length_cons]
      by_cases h : Fr2.endL (Fr2.scanL t) < t.length
      · simp [h]
      · simp only [h, if_false, decide_false, Bool.false_or, ih, List.append_assoc]
        rw [show k + 1 + sl.length + 1 = k + (sl.length + 1) + 1 by omega]
theorem stopS_app (sl : List (Option (List UInt8))) (o : Option (List UInt8)) : stopS (sl ++ [o]) = (stopS sl || (match o with | none => true | some t => decide (Fr2.endL (Fr2.scanL t) < t.length))) := by
  induction sl with
  | nil => cases o <;> simp [stopS]
  | cons x sl ih => cases x with
    | none => simp [stopS]
    | some t => simp only [List.cons_append, stopS, ih, Bool.or_assoc]
/-- the files of a disk are these -/
def Agr (fs : List DkB.Fm) (sl : List (Option (List UInt8))) : Prop := (∀ k (h : k < sl.length), (findM ((k + 1 : Nat) : Int) fs).map (·.now) = sl[k]) ∧ ∀ k : Nat, sl.length < k → findM (k : Int) fs = none
/-- how many files there are from the front on -/
def lead : List (Option (List UInt8)) → Nat
  | [] => 0
  | none :: _ => 0
  | some _ :: sl => lead sl + 1
theorem lead_le (sl : List (Option (List UInt8))) : lead sl ≤ sl.length := by
  induction sl with
  | nil => exact Nat.le_refl _
  | cons x sl ih => cases x <;> simp [lead] <;> omega
theorem lead_at : ∀ (sl : List (Option (List UInt8))) (k : Nat) (h : k < lead sl), ∃ t, sl[k]? = some (some t) := by
  intro sl
  induction sl with
  | nil => intro k h; simp [lead] at h
  | cons x sl ih =>
    intro k h
    cases x with
    | none => simp [lead] at h
    | some t =>
      cases k with
      | zero => exact ⟨t, rfl⟩
      | succ k => simpa using ih k (by simpa [lead] using h)
theorem Agr.lead {fs : List DkB.Fm} {sl : List (Option (List UInt8))} (h : Agr fs sl) : Jn8.lead sl ≤ fs.length :=
  run_le fun k hk => by
    obtain ⟨t, ht⟩ := lead_at sl k hk
    obtain ⟨hk2, ht2⟩ := List.getElem?_eq_some_iff.1 ht
    have := h.1 k hk2
    rw [ht2] at this
    cases hq : findM ((k + 1 : Nat) : Int) fs with
    | none => rw [hq] at this; cases this
    | some f => obtain ⟨g1, g2⟩ := findM_mem hq; exact List.mem_map.2 ⟨f, g1, g2⟩
theorem openF_read (fs : List DkB.Fm) : ∀ (sl : List (Option (List UInt8))) (fuel n : Nat) (l : List Rc) (long : Nat), (∀ k (h : k < sl.length), (findM ((n + k + 1 : Nat) : Int) fs).map (·.now) = sl[k]) → findM ((n + sl.length + 1 : Nat) : Int) fs = none → lead sl < fuel →
    (openF fs fuel (l, n, long)).1 = l ++ readS n sl := by
  intro sl
  induction sl with
  | nil =>
    intro fuel n l long _ hno hf
    obtain ⟨fuel, rfl⟩ : ∃ k, fuel = k + 1 := ⟨fuel - 1, by simp [lead] at hf; omega⟩
    unfold openF
    rw [show ((l, n, long) : List Rc × Nat × Nat).2.1 + 1 = n + [].length + 1 from rfl, hno]
    simp [readS]
  | cons x sl ih =>
    intro fuel n l long hat hno hf
    obtain ⟨fuel, rfl⟩ : ∃ k, fuel = k + 1 := ⟨fuel - 1, by omega⟩
    have h0 : (findM ((n + 0 + 1 : Nat) : Int) fs).map (·.now) = x := hat 0 (by simp)
    unfold openF
    rw [show (((l, n, long) : List Rc × Nat × Nat).2.1 + 1 : Nat) = n + 0 + 1 from rfl]
    cases hq : findM ((n + 0 + 1 : Nat) : Int) fs with
    | none => rw [hq] at h0; cases h0; simp [readS]
    | some f =>
      rw [hq] at h0
      cases h0
      simp only [Option.map_some, readS]
      split
      · rw [List.append_nil, Nat.add_zero]
      · rw [ih fuel (n + 0 + 1) _ _ (fun k hk => by
          have := hat (k + 1) (by simpa using hk)
          rw [show n + 0 + 1 + k + 1 = n + (k + 1) + 1 by omega]
          simpa using this) (by rw [show n + 0 + 1 + sl.length + 1 = n + (some f.now :: sl).length + 1 by simp; omega]; exact hno) (by simp [lead] at hf; omega)]
        rw [List.append_assoc, Nat.add_zero]
theorem Agr.open {fs : List DkB.Fm} {sl : List (Option (List UInt8))} (h : Agr fs sl) : (openF fs (fs.length + 1) ([], 0, 0)).1 = readS 0 sl := by
  have h0 := h.lead
  rw [openF_read fs sl (fs.length + 1) 0 [] 0 (fun k hk => by simpa using h.1 k hk) (by rw [Nat.zero_add]; exact h.2 _ (Nat.lt_succ_self _)) (by omega), List.nil_append]
theorem Agr.nil : Agr [] [] := ⟨fun k h => absurd h (Nat.not_lt_zero _), fun _ _ => rfl⟩
theorem Agr.none {fs : List DkB.Fm} {sl : List (Option (List UInt8))} (h : Agr fs sl) : Agr fs (sl ++ [none]) := by
  refine ⟨fun k hk => ?_, fun k hk => h.2 k (by rw [List.length_append] at hk; omega)⟩
  rw [List.length_append, List.length_singleton] at hk
  by_cases e : k < sl.length
  · rw [List.getElem_append_left e]; exact h.1 k e
  · obtain rfl : k = sl.length := by omega
    rw [List.getElem_append_right (Nat.le_refl _), h.2 _ (Nat.lt_succ_self _)]
    simp
theorem Agr.some {fs : List DkB.Fm} {sl : List (Option (List UInt8))} (h : Agr fs sl) (f : DkB.Fm) (hf : f.n = ((sl.length + 1 : Nat) : Int)) : Agr (setM f fs) (sl ++ [some f.now]) := by
  refine ⟨fun k hk => ?_, fun k hk => ?_⟩
  · rw [List.length_append, List.length_singleton] at hk
    by_cases e : k < sl.length
    · rw [List.getElem_append_left e, findM_set, if_neg (by rw [hf]; omega)]; exact h.1 k e
    · obtain rfl : k = sl.length := by omega
      rw [List.getElem_append_right (Nat.le_refl _), findM_set, if_pos hf.symm]
      simp
  · rw [List.length_append, List.length_singleton] at hk
    rw [findM_set, if_neg (by rw [hf]; omega)]
    exact h.2 k (by omega)
/-- bytes put into a new file, where there is room -/
theorem append_new {K L C : Nat} {D : Dm} (hc : DkN.Calm K L C D) {n : Nat} {t : List UInt8} (hno : findM (n : Int) D.fs = none) (hroom : ((sec t.length : Nat) : Int) ≤ D.room - (usedM D.fs : Nat)) :
    ∃ lo, appendD D (n : Int) t = ({ D with ch := D.ch + 1, fs := setM ⟨n, t, [], lo⟩ D.fs }, 0, 0) ∧ usedM (setM (⟨n, t, [], lo⟩ : DkB.Fm) D.fs) = usedM D.fs + sec t.length := by
  have hfile : fileM (n : Int) D.fs = ⟨n, [], [], []⟩ := by unfold fileM; rw [hno]; rfl
  have h0 : sec 0 = 0 := rfl
  refine ⟨touchL [] 0 (0 + t.length), ?_, ?_⟩
  · unfold appendD
    rw [hc.strikes, if_neg (by rw [hc.dead]; decide), if_neg (by omega), hfile, if_neg (by simp only [List.length_nil, Nat.zero_add, h0]; omega), if_neg Bool.false_ne_true]
    rfl
  · rw [setM_new hno]; unfold usedM; rw [List.map_append, List.sum_append]; simp
theorem read_file (xs : List (List UInt8)) (hx : ∀ s ∈ xs, s.length ≤ 65536) (q : List UInt8) (k : Nat) : (recF k (Fr2.scanL (allF xs ++ q))).map (·.body) = xs ++ (Fr4.rscanL q).map (·.body) ∧
    (Fr2.endL (Fr2.scanL (allF xs ++ q)) < (allF xs ++ q).length ↔ Fr4.rendL q < q.length) := by
  have hok : ∀ c ∈ xs.map FrA.fr, FrA.Ck.ok c := fun c hc => by
    obtain ⟨s, hs, rfl⟩ := List.mem_map.1 hc; exact FrA.fr_ok (hx s hs)
  have h1 := scan_app hok q
  rw [cat_fr] at h1
  have h2 := (scan_file hok).2
  rw [cat_fr] at h2
  rw [h1, endL_app _ _ _ h2, Fr8.end_same, ← Fr8.scan_same]
  refine ⟨?_, by rw [List.length_append]; omega⟩
  rw [recF_app, List.map_append, recF_fr]
  congr 1
  · have := congrArg (List.map Prod.fst) (recsAt_good k xs 0)
    simpa [List.map_map, Function.comp_def] using this
  · unfold recF; rw [List.map_map, List.map_map]; rfl
end Jn8
end Go.Proofs.Ytgcebieihmlaoaa

/-
  The walk of the law of files of whatever bytes.
-/
namespace Go.Proofs.Ytgcebieihmlaoaa
open Go.SL Go.RowKit
set_option linter.unusedVariables false
set_option linter.unusedSimpArgs false
set_option maxRecDepth 100000
open DkA DkB DkD DkE DkF DkG DkH DkI DkJ DkN Fr1 Jn1 Jn2 Jn3 Jn4 Jn5 Jn6 Jn8
namespace Jn9
theorem sz3 : (Try.prog.info? 3).map (·.size) = some 1 := by kernel_rfl
theorem sz4 : (Try.prog.info? 4).map (·.size) = some 1 := by kernel_rfl
theorem sz9 : (Try.prog.info? 9).map (·.size) = some 1 := by kernel_rfl
theorem sz62 : (Try.prog.info? 62).map (·.size) = some 1 := by kernel_rfl
theorem sz69 : (Try.prog.info? 69).map (·.size) = some 3 := by kernel_rfl
theorem sz74 : (Try.prog.info? 74).map (·.size) = some 4 := by kernel_rfl
theorem sz115 : (Try.prog.info? 115).map (·.size) = some 5 := by kernel_rfl
theorem ti5 : TI Try.prog 5 [.int .u8 0] 1 1 := TI.of (by kernel_rfl) rfl rfl
theorem ti9 : TI Try.prog 9 [str []] 1 16 := TI.of (by kernel_rfl) rfl rfl
theorem ti74 : TI Try.prog 74 [.int .i64 0, .int .i64 0, str [], .bool false] 4 40 := TI.of (by kernel_rfl) rfl rfl
theorem fo69_1 : FO Try.prog 69 1 1 1 false := FO.of Try.underlying69 rfl rfl (by kernel_rfl) Try.underlying9 rfl rfl
theorem fo74_2 : FO Try.prog 74 2 2 1 false := FO.of Try.underlying74 rfl rfl (by kernel_rfl) Try.underlying9 rfl rfl

set_option maxHeartbeats 16000000 in
theorem JournalReads_ct (l : List Tx) (Ao : Option Addr) (co : Nat) (rs : List (List UInt8)) (Ar : Option Addr) (cr : Nat) (gap : Int) (B : Frag) (hl : 0 < l.length → RoS B 1 Ao l.length (l.flatMap txc)) (hx : ∀ x ∈ l, TxOk B x) (hn : l.length ≤ 9223372036854775807) (hr : 0 < rs.length → RoS B 1 Ar rs.length (rs.map str)) (hrn : rs.length ≤ 9223372036854775807) : CtB Try.prog 5 [.slice Ao l.length co, .slice Ar rs.length cr, i64 gap] B (fun v B' => v = .bool true) := by
  refine CtB.of_body Try.func5 rfl (nt := 159) rfl (by kernel_rfl) rfl ?_
  intro N0 w0 R
  refine Cx.seq (fun K1 k1 => ?_)
  refine Cx.region ?_
  refine Lx.y (asg rfl) rfl ?_
  refine Lx.nil ?_
  refine Xx.tn (k1 _ _ _ _ ?_)
  refine Cx.seq (fun K2 k2 => ?_)
  refine Cx.region ?_
  refine Lx.c rfl rfl rfl (New2_ct 10000 _ (by decide)) ((one_star _).symm) rfl ?_
  rintro v1 B1 H1 ⟨hBB, db, d0, rfl, hd0, rfl⟩ hB1
  have hBB2 := hBB.symm
  subst hBB2
  clear hB1
  have hc0 : DkN.Calm 0 0 0 d0.abs := by rw [hd0]; exact calm_new 10000 (by decide)
  refine Lx.y (mv rfl) rfl ?_
  refine Lx.y (ext rfl rfl) rfl ?_
  refine Lx.y (ext rfl rfl) rfl ?_
  refine Lx.y (asg rfl) rfl ?_
  refine Lx.y (asg rfl) rfl ?_
  refine Lx.nil ?_
  refine Xx.tn (k2 _ _ _ _ ?_)
  refine Cx.seq (fun K3 k3 => ?_)
  refine Cx.region ?_
  refine Lx.o (bslZ Try.underlying62 ti9) rfl (fun v B' H' hΦ hB => ?_)
  obtain ⟨b0, rfl, hBB, rfl⟩ := hΦ
  have hBB2 := hBB.symm
  subst hBB2
  clear hB
  refine Lx.y (asg rfl) rfl ?_
  refine Lx.y (asg rfl) rfl ?_
  refine Lx.nil ?_
  refine Xx.tn (k3 _ _ _ _ ?_)
  refine Cx.seq (fun K4 k4 => ?_)
  refine Cx.region ?_
  refine Lx.y (asg rfl) rfl ?_
  refine Lx.nil ?_
  refine Xx.tn (k4 _ _ _ _ ?_)
  refine Cx.cutK (ds' := []) (Sub.cons (s := 0) rfl (Sub.cons (s := 1) rfl (Sub.cons (s := 2) rfl (Sub.cons (s := 7) rfl (Sub.cons (s := 8) rfl (Sub.cons (s := 27) rfl (Sub.cons (s := 28) rfl (Sub.cons (s := 29) rfl (Sub.cons (s := 30) rfl (Sub.cons (s := 31) rfl (Sub.nil _))))))))))) (fun ρ' B' H' => ∃ (d : Dk) (sl : List (Option (List UInt8))) (ms : List (List UInt8)) (Am : Option Addr) (cm : Nat), ρ' = [(9, .slice Am ms.length cm)] ∧ dkH db d * (sbuf 9 1 Am ms.length cm (ms.map str) * R) = H' ∧ DkN.Calm 6 7200 6 d.abs ∧ Agr d.abs.fs sl ∧ ms = (readS 0 sl).map (·.body) ∧ ms.length ≤ 1200 ∧ B.le B') ?_ ?_
  · skip
    refine Cx.seq (fun K5 k5 => ?_)
    refine Cx.region ?_
    refine Lx.y (asg rfl) rfl ?_
    refine Lx.nil ?_
    refine Xx.tn (k5 _ _ _ _ ?_)
    refine Cx.block ?_
    refine Cx.loopK (Sub.cons (s := 0) rfl (Sub.cons (s := 1) rfl (Sub.cons (s := 2) rfl (Sub.cons (s := 7) rfl (Sub.cons (s := 8) rfl (Sub.cons (s := 27) rfl (Sub.cons (s := 28) rfl (Sub.cons (s := 29) rfl (Sub.cons (s := 30) rfl (Sub.cons (s := 31) rfl (Sub.nil _))))))))))) (fun m ρ' B' H' => ∃ (i : Nat) (d : Dk) (sl : List (Option (List UInt8))) (ms : List (List UInt8)) (Am : Option Addr) (cm : Nat) (B4 : Frag), (i ≤ 6 ∧ DkN.Calm i (1200 * i) i d.abs ∧ d.abs.room = 10000 ∧ usedM d.abs.fs ≤ 20 * i ∧ Agr d.abs.fs sl ∧ ms = (readS 0 sl).map (·.body) ∧ ms.length ≤ 200 * i ∧ sl.length ≤ 2 * i ∧ B.le B4) ∧ m = 6 - i ∧ ρ' = [(9, .slice Am ms.length cm), (10, .bool (stopS sl)), (11, i64 (sl.length : Int)), (12, i64 (i : Int))] ∧ B4 = B' ∧ dkH db d * (sbuf 9 1 Am ms.length cm (ms.map str) * R) = H') ⟨0, d0, [], [], some ⟨b0, 0, none⟩, 0, _, ⟨Nat.zero_le _, hc0, by rw [hd0], by rw [hd0]; exact Nat.le_refl _, by rw [hd0]; exact Agr.nil, rfl, Nat.zero_le _, Nat.zero_le _, Frag.le_refl _⟩, rfl, rfl, rfl, by show _ * (sbuf _ 1 (some ⟨b0, 0, none⟩) 0 0 [] * R) = _; ac_rfl⟩ (Sub.cons (s := 9) rfl (Sub.cons (s := 10) rfl (Sub.cons (s := 11) rfl (Sub.cons (s := 12) rfl (Sub.cons (s := 0) rfl (Sub.cons (s := 1) rfl (Sub.cons (s := 2) rfl (Sub.cons (s := 7) rfl (Sub.cons (s := 8) rfl (Sub.cons (s := 27) rfl (Sub.cons (s := 28) rfl (Sub.cons (s := 29) rfl (Sub.cons (s := 30) rfl (Sub.cons (s := 31) rfl (Sub.nil _))))))))))))))) ?_
    rintro m ρ' B' H' ⟨i, d, sl, ms, Am, cm, B4, ⟨hi, hc, hroom, hused, hagr, hms, hml, hsl, hBle⟩, rfl, rfl, rfl, rfl⟩
    refine Cx.seq (fun K6 k6 => ?_)
    refine Cx.seq (fun K7 k7 => ?_)
    refine Cx.region ?_
    refine Lx.y (mv rfl) rfl ?_
    refine Lx.y (mv rfl) rfl ?_
    refine Lx.y (lenV (ty' := 0) Try.underlying61 rfl) rfl ?_
    refine Lx.y (lss rfl rfl) rfl ?_
    refine Lx.y (mv rfl) rfl ?_
    refine Xx.ifD (t := 36) rfl (fun h8 => ?_) (fun h8 => ?_)
    · skip
      have hlt := h8
      have hlt : i < l.length := by omega
      refine Lx.gT rfl rfl rfl ?_
      refine Lx.y (mv rfl) rfl ?_
      refine Lx.gT rfl rfl rfl ?_
      refine Lx.y (lss rfl rfl) rfl ?_
      refine Lx.y (pickT rfl rfl) rfl ?_
      refine Lx.nil ?_
      refine Xx.tn (k7 _ _ _ _ ?_)
      refine Cx.condD rfl (fun h9 => ?_) (fun h9 => ?_)
      · skip
        have h6 := h9
        have h6 : i < 6 := by omega
        obtain ⟨b9, o9, cs9, et9, fz9, hA9, hB9, hc9⟩ := DkF.flat_at txc_len (hl (by omega)) hlt
        have hB9 := hBle _ _ hB9
        have hxi := (hx _ (List.getElem_mem hlt)).mono hBle
        refine Cx.skip ?_
        refine Xx.tn (k6 _ _ _ _ ?_)
        refine Cx.seq (fun K10 k10 => ?_)
        refine Cx.block ?_
        refine Cx.seq (fun K11 k11 => ?_)
        refine Cx.region ?_
        refine Lx.y (mv rfl) rfl ?_
        refine Lx.y (Yx.val (add rfl rfl (by first | exact wrap64 (by omega) (by omega) | rfl)) (show _ = i64 ((sl.length + 1 : Nat) : Int) from rfl)) rfl ?_
        refine Lx.y (asg rfl) rfl ?_
        refine Lx.nil ?_
        refine Xx.tn (k11 _ _ _ _ ?_)
        refine Cx.cutK (ds' := []) (Sub.cons (s := 0) rfl (Sub.cons (s := 1) rfl (Sub.cons (s := 2) rfl (Sub.cons (s := 7) rfl (Sub.cons (s := 8) rfl (Sub.cons (s := 9) rfl (Sub.cons (s := 12) rfl (Sub.cons (s := 27) rfl (Sub.cons (s := 28) rfl (Sub.cons (s := 29) rfl (Sub.cons (s := 30) rfl (Sub.cons (s := 31) rfl (Sub.cons (s := 32) rfl (Sub.cons (s := 33) rfl (Sub.cons (s := 34) rfl (Sub.cons (s := 35) rfl (Sub.cons (s := 36) rfl (Sub.cons (s := 37) rfl (Sub.cons (s := 38) rfl (Sub.cons (s := 39) rfl (Sub.cons (s := 42) rfl (Sub.cons (s := 43) rfl (Sub.nil _))))))))))))))))))))))) (fun ρ' B' H' => ∃ sl2 : List (Option (List UInt8)), ρ' = [(10, .bool (stopS sl2)), (11, i64 ((sl2.length + 1 : Nat) : Int))] ∧ B4 = B' ∧ dkH db d * (sbuf 9 1 Am ms.length cm (ms.map str) * R) = H' ∧ Agr d.abs.fs sl2 ∧ ms = (readS 0 sl2).map (·.body) ∧ sl2.length ≤ 2 * i + 1) ?_ ?_
        · skip
          refine Cx.seq (fun K12 k12 => ?_)
          refine Cx.region ?_
          refine Lx.y (mv rfl) rfl ?_
          refine Lx.y (mv rfl) rfl ?_
          refine Lx.y (eqI rfl rfl) rfl ?_
          refine Lx.nil ?_
          refine Xx.tn (k12 _ _ _ _ ?_)
          refine Cx.condD rfl (fun h13 => ?_) (fun h13 => ?_)
          · skip
            have hgap := h13
            refine Cx.seq (fun K14 k14 => ?_)
            refine Cx.region ?_
            refine Lx.y (mv rfl) rfl ?_
            refine Lx.y (Yx.val (add rfl rfl (by first | exact wrap64 (by omega) (by omega) | rfl)) (show _ = i64 ((sl.length + 1 + 1 : Nat) : Int) from rfl)) rfl ?_
            refine Lx.y (asg rfl) rfl ?_
            refine Lx.nil ?_
            refine Xx.tn (k14 _ _ _ _ ?_)
            refine Cx.region ?_
            refine Lx.y (asg rfl) rfl ?_
            refine Lx.nil ?_
            exact Xx.mkK (⟨sl ++ [none], rfl, rfl, by ac_rfl, hagr.none, by rw [readS_app, hms]; simp, by rw [List.length_append, List.length_singleton]; omega⟩) (Sub.consE (s := 10) rfl (by rw [stopS_app]; simp) (Sub.consE (s := 11) rfl (by rw [List.length_append]; rfl) (Sub.cons (s := 0) rfl (Sub.cons (s := 1) rfl (Sub.cons (s := 2) rfl (Sub.cons (s := 7) rfl (Sub.cons (s := 8) rfl (Sub.cons (s := 9) rfl (Sub.cons (s := 12) rfl (Sub.cons (s := 27) rfl (Sub.cons (s := 28) rfl (Sub.cons (s := 29) rfl (Sub.cons (s := 30) rfl (Sub.cons (s := 31) rfl (Sub.cons (s := 32) rfl (Sub.cons (s := 33) rfl (Sub.cons (s := 34) rfl (Sub.cons (s := 35) rfl (Sub.cons (s := 36) rfl (Sub.cons (s := 37) rfl (Sub.cons (s := 38) rfl (Sub.cons (s := 39) rfl (Sub.cons (s := 42) rfl (Sub.cons (s := 43) rfl (Sub.nil _)))))))))))))))))))))))))
          · skip
            have hgap := h13
            refine Cx.skip ?_
            exact Xx.mkK (⟨sl, rfl, rfl, by ac_rfl, hagr, hms, by omega⟩) (Sub.cons (s := 10) rfl (Sub.cons (s := 11) rfl (Sub.cons (s := 0) rfl (Sub.cons (s := 1) rfl (Sub.cons (s := 2) rfl (Sub.cons (s := 7) rfl (Sub.cons (s := 8) rfl (Sub.cons (s := 9) rfl (Sub.cons (s := 12) rfl (Sub.cons (s := 27) rfl (Sub.cons (s := 28) rfl (Sub.cons (s := 29) rfl (Sub.cons (s := 30) rfl (Sub.cons (s := 31) rfl (Sub.cons (s := 32) rfl (Sub.cons (s := 33) rfl (Sub.cons (s := 34) rfl (Sub.cons (s := 35) rfl (Sub.cons (s := 36) rfl (Sub.cons (s := 37) rfl (Sub.cons (s := 38) rfl (Sub.cons (s := 39) rfl (Sub.cons (s := 42) rfl (Sub.cons (s := 43) rfl (Sub.nil _)))))))))))))))))))))))))
        · rintro ρ' B' H' ⟨sl2, rfl, rfl, rfl, hagr1, hms2, hsl2⟩
          refine Cx.seq (fun K15 k15 => ?_)
          refine Cx.region ?_
          refine Lx.y (asg rfl) rfl ?_
          refine Lx.nil ?_
          refine Xx.tn (k15 _ _ _ _ ?_)
          refine Cx.seq (fun K16 k16 => ?_)
          refine Cx.region ?_
          refine Lx.y (mv rfl) rfl ?_
          refine Lx.y (mv rfl) rfl ?_
          refine Lx.y (Yx.val (ia (b := b9) (o := o9) Try.underlying61 sz62 (by rw [← hA9]; rfl) rfl (Int.toNat_natCast _) (by omega) (by omega)) rfl) rfl ?_
          refine Lx.y (ldB Try.underlying62 rfl rfl hB9 (cell_of hc9 0 (by omega) rfl)) rfl ?_
          refine Lx.cb rfl rfl rfl (cut_ct l[i].xs l[i].A l[i].c _ hxi.1 hxi.2) rfl ?_
          rintro v5 B5 ⟨Ac, cc, rfl, hRc⟩ hB5
          have hca := cutL_all l[i].xs
          have hcl := cutL_len l[i].xs
          have hxs : ∀ s ∈ (cutL l[i].xs), s.length ≤ 65536 := fun s hs => Nat.le_trans (cutL_mem hs) (by decide)
          refine Lx.y (asg rfl) rfl ?_
          refine Lx.nil ?_
          refine Xx.tn (k16 _ _ _ _ ?_)
          refine Cx.seq (fun K18 k18 => ?_)
          refine Cx.seq (fun K19 k19 => ?_)
          refine Cx.region ?_
          refine Lx.y (asg rfl) rfl ?_
          refine Lx.nil ?_
          refine Xx.tn (k19 _ _ _ _ ?_)
          refine Cx.block ?_
          refine Cx.loopK (Sub.cons (s := 0) rfl (Sub.cons (s := 1) rfl (Sub.cons (s := 2) rfl (Sub.cons (s := 7) rfl (Sub.cons (s := 8) rfl (Sub.cons (s := 9) rfl (Sub.cons (s := 10) rfl (Sub.cons (s := 11) rfl (Sub.cons (s := 12) rfl (Sub.cons (s := 14) rfl (Sub.cons (s := 27) rfl (Sub.cons (s := 28) rfl (Sub.cons (s := 29) rfl (Sub.cons (s := 30) rfl (Sub.cons (s := 31) rfl (Sub.cons (s := 32) rfl (Sub.cons (s := 33) rfl (Sub.cons (s := 34) rfl (Sub.cons (s := 35) rfl (Sub.cons (s := 36) rfl (Sub.cons (s := 37) rfl (Sub.cons (s := 38) rfl (Sub.cons (s := 39) rfl (Sub.cons (s := 42) rfl (Sub.cons (s := 43) rfl (Sub.cons (s := 49) rfl (Sub.cons (s := 50) rfl (Sub.cons (s := 51) rfl (Sub.cons (s := 52) rfl (Sub.cons (s := 53) rfl (Sub.nil _))))))))))))))))))))))))))))))) (fun m ρ' B' H' => ∃ (q : Nat), (q ≤ (cutL l[i].xs).length) ∧ m = (cutL l[i].xs).length - q ∧ ρ' = [(13, str (allF ((cutL l[i].xs).take q))), (15, i64 (q : Int))] ∧ B5 = B' ∧ dkH db d * (sbuf 9 1 Am ms.length cm (ms.map str) * R) = H') ⟨0, Nat.zero_le _, rfl, rfl, rfl, rfl⟩ (Sub.cons (s := 13) rfl (Sub.cons (s := 15) rfl (Sub.cons (s := 0) rfl (Sub.cons (s := 1) rfl (Sub.cons (s := 2) rfl (Sub.cons (s := 7) rfl (Sub.cons (s := 8) rfl (Sub.cons (s := 9) rfl (Sub.cons (s := 10) rfl (Sub.cons (s := 11) rfl (Sub.cons (s := 12) rfl (Sub.cons (s := 14) rfl (Sub.cons (s := 27) rfl (Sub.cons (s := 28) rfl (Sub.cons (s := 29) rfl (Sub.cons (s := 30) rfl (Sub.cons (s := 31) rfl (Sub.cons (s := 32) rfl (Sub.cons (s := 33) rfl (Sub.cons (s := 34) rfl (Sub.cons (s := 35) rfl (Sub.cons (s := 36) rfl (Sub.cons (s := 37) rfl (Sub.cons (s := 38) rfl (Sub.cons (s := 39) rfl (Sub.cons (s := 42) rfl (Sub.cons (s := 43) rfl (Sub.cons (s := 49) rfl (Sub.cons (s := 50) rfl (Sub.cons (s := 51) rfl (Sub.cons (s := 52) rfl (Sub.cons (s := 53) rfl (Sub.nil _))))))))))))))))))))))))))))))))) ?_
          rintro m ρ' B' H' ⟨q, hq, rfl, rfl, rfl, rfl⟩
          refine Cx.seq (fun K20 k20 => ?_)
          refine Cx.seq (fun K21 k21 => ?_)
          refine Cx.region ?_
          refine Lx.y (mv rfl) rfl ?_
          refine Lx.y (mv rfl) rfl ?_
          refine Lx.y (lenV (ty' := 0) Try.underlying62 rfl) rfl ?_
          refine Lx.y (lss rfl rfl) rfl ?_
          refine Lx.nil ?_
          refine Xx.tn (k21 _ _ _ _ ?_)
          refine Cx.condD rfl (fun h22 => ?_) (fun h22 => ?_)
          · skip
            have hqt := h22
            have hqt : q < (cutL l[i].xs).length := by omega
            obtain ⟨b8, o8, cs8, et8, fz8, hA8, hB8, hv8⟩ := hRc.at1 hqt
            rw [List.getElem?_map, List.getElem?_eq_getElem hqt] at hv8
            have hql := cutL_mem (List.getElem_mem hqt)
            have hsn : allF ((cutL l[i].xs).take q) ++ refFrameL (cutL l[i].xs)[q] = allF ((cutL l[i].xs).take (q + 1)) := by rw [List.take_succ_eq_append_getElem hqt, allF_snoc, Fr8.refFrame_eq]
            have hqa := allF_len_take (cutL l[i].xs) q
            refine Cx.skip ?_
            refine Xx.tn (k20 _ _ _ _ ?_)
            refine Cx.seq (fun K23 k23 => ?_)
            refine Cx.block ?_
            refine Cx.region ?_
            refine Lx.y (mv rfl) rfl ?_
            refine Lx.y (mv rfl) rfl ?_
            refine Lx.y (mv rfl) rfl ?_
            refine Lx.y (Yx.val (ia (b := b8) (o := o8) Try.underlying62 sz9 (by rw [← hA8]; rfl) rfl (Int.toNat_natCast _) (by omega) (by omega)) rfl) rfl ?_
            refine Lx.y (ldB Try.underlying9 rfl rfl hB8 hv8) rfl ?_
            refine Lx.cp rfl rfl rfl (RefFrame_ct _ _ (by omega)) rfl ?_
            refine Lx.y (catS rfl rfl (by rw [Fr8.refFrame_eq, List.length_append, headL_len]; omega)) rfl ?_
            refine Lx.y (asg rfl) rfl ?_
            refine Lx.nil ?_
            refine Xx.bn ?_
            refine Xx.tn (k23 _ _ _ _ ?_)
            refine Cx.region ?_
            refine Lx.y (mv rfl) rfl ?_
            refine Lx.y (Yx.val (add rfl rfl (by first | exact wrap64 (by omega) (by omega) | rfl)) (show _ = i64 ((q + 1 : Nat) : Int) from rfl)) rfl ?_
            refine Lx.y (asg rfl) rfl ?_
            refine Lx.nil ?_
            exact Xx.againK ⟨q + 1, hqt, rfl, rfl, rfl, rfl⟩ (by omega) (Sub.consE (s := 13) rfl (by rw [hsn]) (Sub.cons (s := 15) rfl (Sub.cons (s := 0) rfl (Sub.cons (s := 1) rfl (Sub.cons (s := 2) rfl (Sub.cons (s := 7) rfl (Sub.cons (s := 8) rfl (Sub.cons (s := 9) rfl (Sub.cons (s := 10) rfl (Sub.cons (s := 11) rfl (Sub.cons (s := 12) rfl (Sub.cons (s := 14) rfl (Sub.cons (s := 27) rfl (Sub.cons (s := 28) rfl (Sub.cons (s := 29) rfl (Sub.cons (s := 30) rfl (Sub.cons (s := 31) rfl (Sub.cons (s := 32) rfl (Sub.cons (s := 33) rfl (Sub.cons (s := 34) rfl (Sub.cons (s := 35) rfl (Sub.cons (s := 36) rfl (Sub.cons (s := 37) rfl (Sub.cons (s := 38) rfl (Sub.cons (s := 39) rfl (Sub.cons (s := 42) rfl (Sub.cons (s := 43) rfl (Sub.cons (s := 49) rfl (Sub.cons (s := 50) rfl (Sub.cons (s := 51) rfl (Sub.cons (s := 52) rfl (Sub.cons (s := 53) rfl (Sub.nil _)))))))))))))))))))))))))))))))))
          · skip
            have hqt := h22
            obtain rfl : q = (cutL l[i].xs).length := by omega
            rw [List.take_length]
            refine Cx.exit ?_
            refine Xx.te ?_
            refine Xx.te ?_
            refine Xx.bh ?_
            refine Xx.tn (k18 _ _ _ _ ?_)
            refine Cx.seq (fun K24 k24 => ?_)
            refine Cx.region ?_
            refine Lx.y (asg rfl) rfl ?_
            refine Lx.nil ?_
            refine Xx.tn (k24 _ _ _ _ ?_)
            refine Cx.cutK (ds' := []) (Sub.cons (s := 0) rfl (Sub.cons (s := 1) rfl (Sub.cons (s := 2) rfl (Sub.cons (s := 7) rfl (Sub.cons (s := 8) rfl (Sub.cons (s := 9) rfl (Sub.cons (s := 10) rfl (Sub.cons (s := 11) rfl (Sub.cons (s := 12) rfl (Sub.cons (s := 13) rfl (Sub.cons (s := 14) rfl (Sub.cons (s := 15) rfl (Sub.cons (s := 27) rfl (Sub.cons (s := 28) rfl (Sub.cons (s := 29) rfl (Sub.cons (s := 30) rfl (Sub.cons (s := 31) rfl (Sub.cons (s := 32) rfl (Sub.cons (s := 33) rfl (Sub.cons (s := 34) rfl (Sub.cons (s := 35) rfl (Sub.cons (s := 36) rfl (Sub.cons (s := 37) rfl (Sub.cons (s := 38) rfl (Sub.cons (s := 39) rfl (Sub.cons (s := 42) rfl (Sub.cons (s := 43) rfl (Sub.cons (s := 49) rfl (Sub.cons (s := 50) rfl (Sub.cons (s := 51) rfl (Sub.cons (s := 52) rfl (Sub.cons (s := 53) rfl (Sub.cons (s := 54) rfl (Sub.cons (s := 55) rfl (Sub.cons (s := 56) rfl (Sub.cons (s := 57) rfl (Sub.nil _))))))))))))))))))))))))))))))))))))) (fun ρ' B' H' => ∃ rest : List UInt8, ρ' = [(16, str rest)] ∧ B5 = B' ∧ dkH db d * (sbuf 9 1 Am ms.length cm (ms.map str) * R) = H' ∧ rest.length ≤ 150) ?_ ?_
            · skip
              refine Cx.seq (fun K25 k25 => ?_)
              refine Cx.region ?_
              refine Lx.y (mv rfl) rfl ?_
              refine Lx.y (mv rfl) rfl ?_
              refine Lx.y (lenV (ty' := 0) Try.underlying62 rfl) rfl ?_
              refine Lx.y (lss rfl rfl) rfl ?_
              refine Lx.nil ?_
              refine Xx.tn (k25 _ _ _ _ ?_)
              refine Cx.condD rfl (fun h26 => ?_) (fun h26 => ?_)
              · skip
                have hir := h26
                have hir : i < rs.length := by omega
                obtain ⟨b7, o7, cs7, et7, fz7, hA7, hB7, hv7⟩ := (hr (by omega)).at1 hir
                rw [List.getElem?_map, List.getElem?_eq_getElem hir] at hv7
                have hB7 := hB5 _ _ (hBle _ _ hB7)
                refine Cx.region ?_
                refine Lx.y (mv rfl) rfl ?_
                refine Lx.y (mv rfl) rfl ?_
                refine Lx.y (Yx.val (ia (b := b7) (o := o7) Try.underlying62 sz9 (by rw [← hA7]; rfl) rfl (Int.toNat_natCast _) (by omega) (by omega)) rfl) rfl ?_
                refine Lx.y (ldB Try.underlying9 rfl rfl hB7 hv7) rfl ?_
                refine Lx.cp rfl rfl rfl (few_ct _ _) rfl ?_
                refine Lx.y (asg rfl) rfl ?_
                refine Lx.nil ?_
                exact Xx.mkK (⟨_, rfl, rfl, rfl, fewL_len _⟩) (Sub.cons (s := 16) rfl (Sub.cons (s := 0) rfl (Sub.cons (s := 1) rfl (Sub.cons (s := 2) rfl (Sub.cons (s := 7) rfl (Sub.cons (s := 8) rfl (Sub.cons (s := 9) rfl (Sub.cons (s := 10) rfl (Sub.cons (s := 11) rfl (Sub.cons (s := 12) rfl (Sub.cons (s := 13) rfl (Sub.cons (s := 14) rfl (Sub.cons (s := 15) rfl (Sub.cons (s := 27) rfl (Sub.cons (s := 28) rfl (Sub.cons (s := 29) rfl (Sub.cons (s := 30) rfl (Sub.cons (s := 31) rfl (Sub.cons (s := 32) rfl (Sub.cons (s := 33) rfl (Sub.cons (s := 34) rfl (Sub.cons (s := 35) rfl (Sub.cons (s := 36) rfl (Sub.cons (s := 37) rfl (Sub.cons (s := 38) rfl (Sub.cons (s := 39) rfl (Sub.cons (s := 42) rfl (Sub.cons (s := 43) rfl (Sub.cons (s := 49) rfl (Sub.cons (s := 50) rfl (Sub.cons (s := 51) rfl (Sub.cons (s := 52) rfl (Sub.cons (s := 53) rfl (Sub.cons (s := 54) rfl (Sub.cons (s := 55) rfl (Sub.cons (s := 56) rfl (Sub.cons (s := 57) rfl (Sub.nil _))))))))))))))))))))))))))))))))))))))
              · skip
                skip
                refine Cx.skip ?_
                exact Xx.mkK (⟨[], rfl, rfl, rfl, Nat.zero_le _⟩) (Sub.cons (s := 16) rfl (Sub.cons (s := 0) rfl (Sub.cons (s := 1) rfl (Sub.cons (s := 2) rfl (Sub.cons (s := 7) rfl (Sub.cons (s := 8) rfl (Sub.cons (s := 9) rfl (Sub.cons (s := 10) rfl (Sub.cons (s := 11) rfl (Sub.cons (s := 12) rfl (Sub.cons (s := 13) rfl (Sub.cons (s := 14) rfl (Sub.cons (s := 15) rfl (Sub.cons (s := 27) rfl (Sub.cons (s := 28) rfl (Sub.cons (s := 29) rfl (Sub.cons (s := 30) rfl (Sub.cons (s := 31) rfl (Sub.cons (s := 32) rfl (Sub.cons (s := 33) rfl (Sub.cons (s := 34) rfl (Sub.cons (s := 35) rfl (Sub.cons (s := 36) rfl (Sub.cons (s := 37) rfl (Sub.cons (s := 38) rfl (Sub.cons (s := 39) rfl (Sub.cons (s := 42) rfl (Sub.cons (s := 43) rfl (Sub.cons (s := 49) rfl (Sub.cons (s := 50) rfl (Sub.cons (s := 51) rfl (Sub.cons (s := 52) rfl (Sub.cons (s := 53) rfl (Sub.cons (s := 54) rfl (Sub.cons (s := 55) rfl (Sub.cons (s := 56) rfl (Sub.cons (s := 57) rfl (Sub.nil _))))))))))))))))))))))))))))))))))))))
            · rintro ρ' B' H' ⟨rest, rfl, rfl, rfl, hrest⟩
              refine Cx.seq (fun K27 k27 => ?_)
              refine Cx.region ?_
              refine Lx.y (mv rfl) rfl ?_
              refine Lx.cb rfl rfl rfl (Fr4.RefScan_ct rest _ (by omega)) rfl ?_
              rintro v6 B6 ⟨Af, cf, rfl, hRf, hcf⟩ hB6
              have hmo := Fr4.rscanF_len rest (rest.length + 1) 0 (by omega)
              have hmo : 12 * (Fr4.rscanL rest).length + 0 ≤ rest.length := hmo
              have hrt : (allF (cutL l[i].xs) ++ rest).length ≤ 1200 := by rw [List.length_append]; omega
              obtain ⟨lo, hap, hus⟩ := append_new hc (n := sl2.length + 1) (t := allF (cutL l[i].xs) ++ rest) (hagr1.2 _ (Nat.lt_succ_self _)) (by rw [hroom]; unfold sec; omega)
              refine Lx.y (mv rfl) rfl ?_
              refine Lx.y (ext rfl rfl) rfl ?_
              refine Lx.y (ext rfl rfl) rfl ?_
              refine Lx.y (asg rfl) rfl ?_
              refine Lx.y (asg rfl) rfl ?_
              refine Lx.nil ?_
              refine Xx.tn (k27 _ _ _ _ ?_)
              refine Cx.seq (fun K29 k29 => ?_)
              refine Cx.seq (fun K30 k30 => ?_)
              refine Cx.region ?_
              refine Lx.y (mv rfl) rfl ?_
              refine Lx.y (mv rfl) rfl ?_
              refine Lx.y (mv rfl) rfl ?_
              refine Lx.y (mv rfl) rfl ?_
              refine Lx.y (catS rfl rfl (by omega)) rfl ?_
              refine Lx.c rfl rfl rfl (Append_ct d db ((sl2.length + 1 : Nat) : Int) (allF (cutL l[i].xs) ++ rest) _ (hc.fit (by omega) (by omega) (by omega)) (by omega)) (Pick.eq) rfl ?_
              rintro v7 B7 H7 ⟨rfl, d2, hd2, rfl⟩ hB7
              rw [hap] at hd2 ⊢
              have hBle6 := Frag.le_trans hBle (Frag.le_trans hB5 (Frag.le_trans hB6 hB7))
              have hc2 := (hc.append ((sl2.length + 1 : Nat) : Int) (allF (cutL l[i].xs) ++ rest))
              rw [hap] at hc2
              have hab2 : d2.abs = { d.abs with ch := d.abs.ch + 1, fs := setM ⟨((sl2.length + 1 : Nat) : Int), allF (cutL l[i].xs) ++ rest, [], lo⟩ d.abs.fs } := hd2
              rw [← hd2] at hc2
              have hc2 := hc2.mono (Nat.le_refl (i + 1)) (show _ ≤ 1200 * (i + 1) by omega) (Nat.le_refl (i + 1))
              have hroom2 : d2.abs.room = 10000 := by rw [hab2]; exact hroom
              have hagr2 : Agr d2.abs.fs (sl2 ++ [some (allF (cutL l[i].xs) ++ rest)]) := by rw [hab2]; exact hagr1.some _ rfl
              have hus2 : usedM d2.abs.fs = usedM d.abs.fs + sec (allF (cutL l[i].xs) ++ rest).length := by rw [hab2]; exact hus
              have hsec : sec (allF (cutL l[i].xs) ++ rest).length ≤ 20 := by unfold sec; omega
              refine Lx.y (mv rfl) rfl ?_
              refine Lx.y (ext rfl rfl) rfl ?_
              refine Lx.y (ext rfl rfl) rfl ?_
              refine Lx.y (asg rfl) rfl ?_
              refine Lx.y (asg rfl) rfl ?_
              refine Lx.nil ?_
              refine Xx.tn (k30 _ _ _ _ ?_)
              refine Cx.seq (fun K31 k31 => ?_)
              refine Cx.region ?_
              refine Lx.y (mv rfl) rfl ?_
              refine Lx.y (Yx.ff (neI rfl rfl) rfl) rfl ?_
              refine Lx.nil ?_
              refine Xx.tn (k31 _ _ _ _ ?_)
              refine Cx.condF rfl ?_
              refine Cx.skip ?_
              refine Xx.tn (k29 _ _ _ _ ?_)
              refine Cx.seq (fun K32 k32 => ?_)
              refine Cx.seq (fun K33 k33 => ?_)
              refine Cx.region ?_
              refine Lx.y (mv rfl) rfl ?_
              refine Lx.nil ?_
              refine Xx.tn (k33 _ _ _ _ ?_)
              refine Cx.condB rfl (fun h34 => ?_) (fun h34 => ?_)
              · skip
                have hst := h34
                refine Cx.exit ?_
                refine Xx.te ?_
                refine Xx.bh ?_
                refine Xx.tn (k10 _ _ _ _ ?_)
                refine Cx.region ?_
                refine Lx.y (mv rfl) rfl ?_
                refine Lx.y (Yx.val (add rfl rfl (by first | exact wrap64 (by omega) (by omega) | rfl)) (show _ = i64 ((i + 1 : Nat) : Int) from rfl)) rfl ?_
                refine Lx.y (asg rfl) rfl ?_
                refine Lx.nil ?_
                exact Xx.againK ⟨i + 1, d2, sl2 ++ [some (allF (cutL l[i].xs) ++ rest)], ms, Am, cm, _, ⟨by omega, hc2, hroom2, by omega, hagr2, by rw [readS_app, hst, if_pos rfl, List.append_nil]; exact hms2, by omega, by rw [List.length_append, List.length_singleton]; omega, hBle6⟩, rfl, rfl, rfl, (by ac_rfl)⟩ (by omega) (Sub.cons (s := 9) rfl (Sub.consE (s := 10) rfl (by rw [stopS_app, hst]; rfl) (Sub.consE (s := 11) rfl (by rw [List.length_append]; rfl) (Sub.cons (s := 12) rfl (Sub.cons (s := 0) rfl (Sub.cons (s := 1) rfl (Sub.cons (s := 2) rfl (Sub.cons (s := 7) rfl (Sub.cons (s := 8) rfl (Sub.cons (s := 27) rfl (Sub.cons (s := 28) rfl (Sub.cons (s := 29) rfl (Sub.cons (s := 30) rfl (Sub.cons (s := 31) rfl (Sub.nil _)))))))))))))))
              · skip
                have hst := h34
                refine Cx.skip ?_
                refine Xx.tn (k32 _ _ _ _ ?_)
                refine Cx.seq (fun K35 k35 => ?_)
                refine Cx.region ?_
                refine Lx.y (mv rfl) rfl ?_
                refine Lx.y (mv rfl) rfl ?_
                refine Lx.o (appB (et := 9) (A := Am) (ms.length + (cutL l[i].xs).length) ((ms ++ (cutL l[i].xs)).map str) Try.underlying62 Try.underlying62 ti9 rfl rfl (hRc.mono (Frag.le_trans hB6 hB7)) (strs_all _) (by omega) (by omega) rfl (by rw [List.map_append])) rfl (fun v B' H' hΦ hB => ?_)
                obtain ⟨A3, c3, rfl, hA3, hc3, hBB, rfl⟩ := hΦ
                have hBB2 := hBB.symm
                subst hBB2
                clear hB
                refine Lx.y (asg rfl) rfl ?_
                refine Lx.nil ?_
                refine Xx.tn (k35 _ _ _ _ ?_)
                refine Cx.seq (fun K36 k36 => ?_)
                refine Cx.seq (fun K37 k37 => ?_)
                refine Cx.region ?_
                refine Lx.y (asg rfl) rfl ?_
                refine Lx.nil ?_
                refine Xx.tn (k37 _ _ _ _ ?_)
                refine Cx.block ?_
                refine Cx.loopK (Sub.cons (s := 0) rfl (Sub.cons (s := 1) rfl (Sub.cons (s := 2) rfl (Sub.cons (s := 7) rfl (Sub.cons (s := 8) rfl (Sub.cons (s := 10) rfl (Sub.cons (s := 11) rfl (Sub.cons (s := 12) rfl (Sub.cons (s := 13) rfl (Sub.cons (s := 14) rfl (Sub.cons (s := 15) rfl (Sub.cons (s := 16) rfl (Sub.cons (s := 17) rfl (Sub.cons (s := 18) rfl (Sub.cons (s := 20) rfl (Sub.cons (s := 27) rfl (Sub.cons (s := 28) rfl (Sub.cons (s := 29) rfl (Sub.cons (s := 30) rfl (Sub.cons (s := 31) rfl (Sub.cons (s := 32) rfl (Sub.cons (s := 33) rfl (Sub.cons (s := 34) rfl (Sub.cons (s := 35) rfl (Sub.cons (s := 36) rfl (Sub.cons (s := 37) rfl (Sub.cons (s := 38) rfl (Sub.cons (s := 39) rfl (Sub.cons (s := 42) rfl (Sub.cons (s := 43) rfl (Sub.cons (s := 49) rfl (Sub.cons (s := 50) rfl (Sub.cons (s := 51) rfl (Sub.cons (s := 52) rfl (Sub.cons (s := 53) rfl (Sub.cons (s := 54) rfl (Sub.cons (s := 55) rfl (Sub.cons (s := 56) rfl (Sub.cons (s := 57) rfl (Sub.cons (s := 76) rfl (Sub.cons (s := 77) rfl (Sub.cons (s := 78) rfl (Sub.cons (s := 79) rfl (Sub.cons (s := 80) rfl (Sub.cons (s := 81) rfl (Sub.cons (s := 82) rfl (Sub.cons (s := 83) rfl (Sub.cons (s := 84) rfl (Sub.cons (s := 85) rfl (Sub.cons (s := 86) rfl (Sub.cons (s := 87) rfl (Sub.cons (s := 88) rfl (Sub.cons (s := 89) rfl (Sub.cons (s := 90) rfl (Sub.cons (s := 91) rfl (Sub.cons (s := 92) rfl (Sub.cons (s := 93) rfl (Sub.cons (s := 94) rfl (Sub.cons (s := 95) rfl (Sub.nil _)))))))))))))))))))))))))))))))))))))))))))))))))))))))))))) (fun m ρ' B' H' => ∃ (q : Nat) (A4 : Option Addr) (c4 : Nat), (q ≤ (Fr4.rscanL rest).length) ∧ m = (Fr4.rscanL rest).length - q ∧ ρ' = [(9, .slice A4 (ms.length + (cutL l[i].xs).length + q) c4), (21, i64 (q : Int))] ∧ B7 = B' ∧ dkH db d2 * (sbuf 9 1 A4 (ms.length + (cutL l[i].xs).length + q) c4 ((ms ++ (cutL l[i].xs) ++ ((Fr4.rscanL rest).take q).map (·.body)).map str) * R) = H') ⟨0, A3, c3, Nat.zero_le _, rfl, rfl, rfl, (by rw [List.take_zero, List.map_nil, List.append_nil, Nat.add_zero]; ac_rfl)⟩ (Sub.cons (s := 9) rfl (Sub.cons (s := 21) rfl (Sub.cons (s := 0) rfl (Sub.cons (s := 1) rfl (Sub.cons (s := 2) rfl (Sub.cons (s := 7) rfl (Sub.cons (s := 8) rfl (Sub.cons (s := 10) rfl (Sub.cons (s := 11) rfl (Sub.cons (s := 12) rfl (Sub.cons (s := 13) rfl (Sub.cons (s := 14) rfl (Sub.cons (s := 15) rfl (Sub.cons (s := 16) rfl (Sub.cons (s := 17) rfl (Sub.cons (s := 18) rfl (Sub.cons (s := 20) rfl (Sub.cons (s := 27) rfl (Sub.cons (s := 28) rfl (Sub.cons (s := 29) rfl (Sub.cons (s := 30) rfl (Sub.cons (s := 31) rfl (Sub.cons (s := 32) rfl (Sub.cons (s := 33) rfl (Sub.cons (s := 34) rfl (Sub.cons (s := 35) rfl (Sub.cons (s := 36) rfl (Sub.cons (s := 37) rfl (Sub.cons (s := 38) rfl (Sub.cons (s := 39) rfl (Sub.cons (s := 42) rfl (Sub.cons (s := 43) rfl (Sub.cons (s := 49) rfl (Sub.cons (s := 50) rfl (Sub.cons (s := 51) rfl (Sub.cons (s := 52) rfl (Sub.cons (s := 53) rfl (Sub.cons (s := 54) rfl (Sub.cons (s := 55) rfl (Sub.cons (s := 56) rfl (Sub.cons (s := 57) rfl (Sub.cons (s := 76) rfl (Sub.cons (s := 77) rfl (Sub.cons (s := 78) rfl (Sub.cons (s := 79) rfl (Sub.cons (s := 80) rfl (Sub.cons (s := 81) rfl (Sub.cons (s := 82) rfl (Sub.cons (s := 83) rfl (Sub.cons (s := 84) rfl (Sub.cons (s := 85) rfl (Sub.cons (s := 86) rfl (Sub.cons (s := 87) rfl (Sub.cons (s := 88) rfl (Sub.cons (s := 89) rfl (Sub.cons (s := 90) rfl (Sub.cons (s := 91) rfl (Sub.cons (s := 92) rfl (Sub.cons (s := 93) rfl (Sub.cons (s := 94) rfl (Sub.cons (s := 95) rfl (Sub.nil _)))))))))))))))))))))))))))))))))))))))))))))))))))))))))))))) ?_
                rintro m ρ' B' H' ⟨q, A4, c4, hq, rfl, rfl, rfl, rfl⟩
                refine Cx.seq (fun K38 k38 => ?_)
                refine Cx.seq (fun K39 k39 => ?_)
                refine Cx.region ?_
                refine Lx.y (mv rfl) rfl ?_
                refine Lx.y (mv rfl) rfl ?_
                refine Lx.y (lenV (ty' := 0) Try.underlying65 rfl) rfl ?_
                refine Lx.y (lss rfl rfl) rfl ?_
                refine Lx.nil ?_
                refine Xx.tn (k39 _ _ _ _ ?_)
                refine Cx.condD rfl (fun h40 => ?_) (fun h40 => ?_)
                · skip
                  have hqt := h40
                  have hqt : q < (Fr4.rscanL rest).length := by omega
                  obtain ⟨bf, of, csf, etf, fzf, hAf, hBf, hcf2⟩ := DkF.flat_at fmc_len hRf hqt
                  have hBf := hB7 _ _ hBf
                  refine Cx.skip ?_
                  refine Xx.tn (k38 _ _ _ _ ?_)
                  refine Cx.seq (fun K41 k41 => ?_)
                  refine Cx.block ?_
                  refine Cx.region ?_
                  refine Lx.y (mv rfl) rfl ?_
                  refine Lx.y (mv rfl) rfl ?_
                  refine Lx.y (mv rfl) rfl ?_
                  refine Lx.y (Yx.val (ia (b := bf) (o := of) Try.underlying65 sz69 (by rw [← hAf]; rfl) rfl (Int.toNat_natCast _) (by omega) (by omega)) rfl) rfl ?_
                  refine Lx.y (fa' fo69_1 rfl) rfl ?_
                  refine Lx.y (ldB Try.underlying9 rfl rfl hBf (cell_of hcf2 1 (by omega) rfl)) rfl ?_
                  refine Lx.bsl (bsl1 Try.underlying62 ti9 rfl rfl rfl (by decide)) rfl (fun bv => ?_)
                  refine Lx.o (appN (et := 9) (A := A4) (ms.length + (cutL l[i].xs).length + q + 1) [str (Fr4.rscanL rest)[q].body] (((ms ++ (cutL l[i].xs) ++ ((Fr4.rscanL rest).take q).map (·.body)) ++ [(Fr4.rscanL rest)[q].body]).map str) Try.underlying62 Try.underlying62 ti9 rfl rfl rfl rfl rfl (by omega) (by omega) rfl (by simp only [List.map_append, List.map_cons, List.map_nil])) rfl (fun v B' H' hΦ hB => ?_)
                  obtain ⟨A5, c5, rfl, hA5, hl5, hc5, hBB, rfl⟩ := hΦ
                  have hBB2 := hBB.symm
                  subst hBB2
                  refine Xx.dropB bv ?_
                  clear hB
                  refine Lx.y (asg rfl) rfl ?_
                  refine Lx.nil ?_
                  refine Xx.bn ?_
                  refine Xx.tn (k41 _ _ _ _ ?_)
                  refine Cx.region ?_
                  refine Lx.y (mv rfl) rfl ?_
                  refine Lx.y (Yx.val (add rfl rfl (by first | exact wrap64 (by omega) (by omega) | rfl)) (show _ = i64 ((q + 1 : Nat) : Int) from rfl)) rfl ?_
                  refine Lx.y (asg rfl) rfl ?_
                  refine Lx.nil ?_
                  exact Xx.againK ⟨q + 1, A5, c5, hqt, rfl, rfl, rfl, (by simp only [List.take_succ_eq_append_getElem hqt, List.map_append, List.map_cons, List.map_nil, ← Nat.add_assoc, ← List.append_assoc]; ac_rfl)⟩ (by omega) (Sub.cons (s := 9) rfl (Sub.cons (s := 21) rfl (Sub.cons (s := 0) rfl (Sub.cons (s := 1) rfl (Sub.cons (s := 2) rfl (Sub.cons (s := 7) rfl (Sub.cons (s := 8) rfl (Sub.cons (s := 10) rfl (Sub.cons (s := 11) rfl (Sub.cons (s := 12) rfl (Sub.cons (s := 13) rfl (Sub.cons (s := 14) rfl (Sub.cons (s := 15) rfl (Sub.cons (s := 16) rfl (Sub.cons (s := 17) rfl (Sub.cons (s := 18) rfl (Sub.cons (s := 20) rfl (Sub.cons (s := 27) rfl (Sub.cons (s := 28) rfl (Sub.cons (s := 29) rfl (Sub.cons (s := 30) rfl (Sub.cons (s := 31) rfl (Sub.cons (s := 32) rfl (Sub.cons (s := 33) rfl (Sub.cons (s := 34) rfl (Sub.cons (s := 35) rfl (Sub.cons (s := 36) rfl (Sub.cons (s := 37) rfl (Sub.cons (s := 38) rfl (Sub.cons (s := 39) rfl (Sub.cons (s := 42) rfl (Sub.cons (s := 43) rfl (Sub.cons (s := 49) rfl (Sub.cons (s := 50) rfl (Sub.cons (s := 51) rfl (Sub.cons (s := 52) rfl (Sub.cons (s := 53) rfl (Sub.cons (s := 54) rfl (Sub.cons (s := 55) rfl (Sub.cons (s := 56) rfl (Sub.cons (s := 57) rfl (Sub.cons (s := 76) rfl (Sub.cons (s := 77) rfl (Sub.cons (s := 78) rfl (Sub.cons (s := 79) rfl (Sub.cons (s := 80) rfl (Sub.cons (s := 81) rfl (Sub.cons (s := 82) rfl (Sub.cons (s := 83) rfl (Sub.cons (s := 84) rfl (Sub.cons (s := 85) rfl (Sub.cons (s := 86) rfl (Sub.cons (s := 87) rfl (Sub.cons (s := 88) rfl (Sub.cons (s := 89) rfl (Sub.cons (s := 90) rfl (Sub.cons (s := 91) rfl (Sub.cons (s := 92) rfl (Sub.cons (s := 93) rfl (Sub.cons (s := 94) rfl (Sub.cons (s := 95) rfl (Sub.nil _))))))))))))))))))))))))))))))))))))))))))))))))))))))))))))))
                · skip
                  have hqt := h40
                  obtain rfl : q = (Fr4.rscanL rest).length := by omega
                  rw [List.take_length]
                  have hmm : (ms ++ (cutL l[i].xs) ++ ((Fr4.rscanL rest)).map (·.body)).length ≤ 200 * (i + 1) := by simp only [List.length_append, List.length_map]; omega
                  refine Cx.exit ?_
                  refine Xx.te ?_
                  refine Xx.te ?_
                  refine Xx.bh ?_
                  refine Xx.tn (k36 _ _ _ _ ?_)
                  refine Cx.region ?_
                  refine Lx.y (mv rfl) rfl ?_
                  refine Lx.y (mv rfl) rfl ?_
                  refine Lx.y (lenS Try.underlying9 rfl) rfl ?_
                  refine Lx.y (lss rfl rfl) rfl ?_
                  refine Lx.y (asg rfl) rfl ?_
                  refine Lx.nil ?_
                  refine Xx.bn ?_
                  refine Xx.tn (k10 _ _ _ _ ?_)
                  refine Cx.region ?_
                  refine Lx.y (mv rfl) rfl ?_
                  refine Lx.y (Yx.val (add rfl rfl (by first | exact wrap64 (by omega) (by omega) | rfl)) (show _ = i64 ((i + 1 : Nat) : Int) from rfl)) rfl ?_
                  refine Lx.y (asg rfl) rfl ?_
                  refine Lx.nil ?_
                  exact Xx.againK ⟨i + 1, d2, sl2 ++ [some (allF (cutL l[i].xs) ++ rest)], (ms ++ (cutL l[i].xs) ++ ((Fr4.rscanL rest)).map (·.body)), A4, c4, _, ⟨by omega, hc2, hroom2, by omega, hagr2, by rw [readS_app, hst, if_neg Bool.false_ne_true, List.map_append, ← hms2, (read_file (cutL l[i].xs) hxs rest _).1, List.append_assoc], hmm, by rw [List.length_append, List.length_singleton]; omega, hBle6⟩, rfl, rfl, rfl, (by rw [show (ms ++ (cutL l[i].xs) ++ ((Fr4.rscanL rest)).map (·.body)).length = ms.length + (cutL l[i].xs).length + (Fr4.rscanL rest).length from by simp only [List.length_append, List.length_map]])⟩ (by omega) (Sub.consE (s := 9) rfl (by simp only [List.length_append, List.length_map]) (Sub.consE (s := 10) rfl (by rw [stopS_app, hst, Bool.false_or]; show Value.bool (decide _) = Value.bool (decide _); congr 1; rw [decide_eq_decide]; rw [(read_file (cutL l[i].xs) hxs rest 0).2]; omega) (Sub.consE (s := 11) rfl (by rw [List.length_append]; rfl) (Sub.cons (s := 12) rfl (Sub.cons (s := 0) rfl (Sub.cons (s := 1) rfl (Sub.cons (s := 2) rfl (Sub.cons (s := 7) rfl (Sub.cons (s := 8) rfl (Sub.cons (s := 27) rfl (Sub.cons (s := 28) rfl (Sub.cons (s := 29) rfl (Sub.cons (s := 30) rfl (Sub.cons (s := 31) rfl (Sub.nil _)))))))))))))))
      · skip
        refine Cx.exit ?_
        refine Xx.te ?_
        refine Xx.te ?_
        refine Xx.bh ?_
        exact Xx.mkK (⟨d, sl, ms, Am, cm, rfl, rfl, hc.mono (by omega) (by omega) (by omega), hagr, hms, by omega, hBle⟩) (Sub.cons (s := 9) rfl (Sub.cons (s := 0) rfl (Sub.cons (s := 1) rfl (Sub.cons (s := 2) rfl (Sub.cons (s := 7) rfl (Sub.cons (s := 8) rfl (Sub.cons (s := 27) rfl (Sub.cons (s := 28) rfl (Sub.cons (s := 29) rfl (Sub.cons (s := 30) rfl (Sub.cons (s := 31) rfl (Sub.nil _))))))))))))
    · skip
      refine Lx.gF rfl rfl rfl rfl ?_
      refine Lx.gF rfl rfl rfl rfl ?_
      refine Lx.y (pickF rfl rfl) rfl ?_
      refine Lx.nil ?_
      refine Xx.tn (k7 _ _ _ _ ?_)
      refine Cx.condF rfl ?_
      refine Cx.exit ?_
      refine Xx.te ?_
      refine Xx.te ?_
      refine Xx.bh ?_
      exact Xx.mkK (⟨d, sl, ms, Am, cm, rfl, rfl, hc.mono (by omega) (by omega) (by omega), hagr, hms, by omega, hBle⟩) (Sub.cons (s := 9) rfl (Sub.cons (s := 0) rfl (Sub.cons (s := 1) rfl (Sub.cons (s := 2) rfl (Sub.cons (s := 7) rfl (Sub.cons (s := 8) rfl (Sub.cons (s := 27) rfl (Sub.cons (s := 28) rfl (Sub.cons (s := 29) rfl (Sub.cons (s := 30) rfl (Sub.cons (s := 31) rfl (Sub.nil _))))))))))))
  · rintro ρ' B' H' ⟨d, sl, ms, Am, cm, rfl, rfl, hc, hagr, hms, hml, hBle⟩
    rename Frag => B4
    refine Cx.seq (fun K42 k42 => ?_)
    refine Cx.region ?_
    refine Lx.y (mv rfl) rfl ?_
    refine Lx.c rfl rfl rfl (JOpen_ct d db 100 _ (hc.fit (by decide) (by decide) (by decide)) hc.dead (by decide) (fun f hf => Nat.le_trans (hc.now f hf) (by decide))) (rfl) rfl ?_
    rintro v7 B7 H7 ⟨kb, Ak, ck, rfl, rfl⟩ hB7
    obtain ⟨k, hk⟩ : ∃ k : Jn, k = ⟨db, 100, (openF d.abs.fs (d.abs.fs.length + 1) ([], 0, 0)).2.1, (openF d.abs.fs (d.abs.fs.length + 1) ([], 0, 0)).2.2, (openF d.abs.fs (d.abs.fs.length + 1) ([], 0, 0)).1, Ak, ck⟩ := ⟨_, rfl⟩
    rw [← hk]
    have hkl : k.l.map (·.body) = ms := by rw [hk, hms]; exact congrArg _ hagr.open
    have hkn : k.l.length = ms.length := by rw [← hkl, List.length_map]
    simp only [star_assoc]
    refine Lx.y (mv rfl) rfl ?_
    refine Lx.y (ext rfl rfl) rfl ?_
    refine Lx.y (ext rfl rfl) rfl ?_
    refine Lx.y (asg rfl) rfl ?_
    refine Lx.y (asg rfl) rfl ?_
    refine Lx.nil ?_
    refine Xx.tn (k42 _ _ _ _ ?_)
    refine Cx.seq (fun K43 k43 => ?_)
    refine Cx.seq (fun K44 k44 => ?_)
    refine Cx.region ?_
    refine Lx.cb rfl rfl rfl (awake_ct _) rfl ?_
    rintro v9 B9 rfl hB9
    refine Lx.y (not' rfl) rfl ?_
    refine Lx.y (mv rfl) rfl ?_
    refine Lx.gT rfl rfl rfl ?_
    refine Lx.y (mv rfl) rfl ?_
    refine Lx.gT rfl rfl rfl ?_
    refine Lx.y (Yx.ff (neI rfl rfl) rfl) rfl ?_
    refine Lx.y (pickF rfl rfl) rfl ?_
    refine Lx.y (mv rfl) rfl ?_
    refine Lx.gT rfl rfl rfl ?_
    refine Lx.y (mv rfl) rfl ?_
    refine Lx.gT rfl rfl rfl ?_
    refine Lx.y (Yx.ff (neI rfl rfl) rfl) rfl ?_
    refine Lx.y (pickF rfl rfl) rfl ?_
    refine Lx.y (mv rfl) rfl ?_
    refine Lx.gT rfl rfl rfl ?_
    refine Lx.y (mv rfl) rfl ?_
    refine Lx.gT rfl rfl rfl ?_
    refine Lx.co rfl rfl rfl (JLen_ct kb k _) (Pick.eq) rfl ?_
    refine Lx.gT rfl rfl rfl ?_
    refine Lx.y (mv rfl) rfl ?_
    refine Lx.gT rfl rfl rfl ?_
    refine Lx.y (lenV (ty' := 0) Try.underlying62 rfl) rfl ?_
    refine Lx.gT rfl rfl rfl ?_
    refine Lx.y (Yx.ff (neI rfl rfl) (by rw [hkn]; simp)) rfl ?_
    refine Lx.y (pickF rfl rfl) rfl ?_
    refine Lx.nil ?_
    refine Xx.tn (k44 _ _ _ _ ?_)
    refine Cx.condF rfl ?_
    refine Cx.skip ?_
    refine Xx.tn (k43 _ _ _ _ ?_)
    refine Cx.seq (fun K46 k46 => ?_)
    refine Cx.seq (fun K47 k47 => ?_)
    refine Cx.region ?_
    refine Lx.y (asg rfl) rfl ?_
    refine Lx.nil ?_
    refine Xx.tn (k47 _ _ _ _ ?_)
    refine Cx.block ?_
    refine Cx.loopK (Sub.cons (s := 0) rfl (Sub.cons (s := 1) rfl (Sub.cons (s := 2) rfl (Sub.cons (s := 7) rfl (Sub.cons (s := 8) rfl (Sub.cons (s := 9) rfl (Sub.cons (s := 22) rfl (Sub.cons (s := 23) rfl (Sub.cons (s := 27) rfl (Sub.cons (s := 28) rfl (Sub.cons (s := 29) rfl (Sub.cons (s := 30) rfl (Sub.cons (s := 31) rfl (Sub.cons (s := 114) rfl (Sub.cons (s := 115) rfl (Sub.cons (s := 116) rfl (Sub.cons (s := 117) rfl (Sub.cons (s := 118) rfl (Sub.cons (s := 119) rfl (Sub.cons (s := 120) rfl (Sub.cons (s := 121) rfl (Sub.cons (s := 122) rfl (Sub.cons (s := 123) rfl (Sub.cons (s := 124) rfl (Sub.cons (s := 125) rfl (Sub.cons (s := 126) rfl (Sub.cons (s := 127) rfl (Sub.cons (s := 128) rfl (Sub.cons (s := 129) rfl (Sub.cons (s := 130) rfl (Sub.cons (s := 131) rfl (Sub.cons (s := 132) rfl (Sub.cons (s := 133) rfl (Sub.cons (s := 134) rfl (Sub.cons (s := 135) rfl (Sub.nil _)))))))))))))))))))))))))))))))))))) (fun m ρ' B' H' => ∃ (i : Nat), (i ≤ ms.length) ∧ m = ms.length - i ∧ ρ' = [(24, i64 (i : Int))] ∧ B9 = B' ∧ jnH kb k * (dkH db d * (sbuf 9 1 Am ms.length cm (ms.map str) * R)) = H') ⟨0, Nat.zero_le _, rfl, rfl, rfl, by ac_rfl⟩ (Sub.cons (s := 24) rfl (Sub.cons (s := 0) rfl (Sub.cons (s := 1) rfl (Sub.cons (s := 2) rfl (Sub.cons (s := 7) rfl (Sub.cons (s := 8) rfl (Sub.cons (s := 9) rfl (Sub.cons (s := 22) rfl (Sub.cons (s := 23) rfl (Sub.cons (s := 27) rfl (Sub.cons (s := 28) rfl (Sub.cons (s := 29) rfl (Sub.cons (s := 30) rfl (Sub.cons (s := 31) rfl (Sub.cons (s := 114) rfl (Sub.cons (s := 115) rfl (Sub.cons (s := 116) rfl (Sub.cons (s := 117) rfl (Sub.cons (s := 118) rfl (Sub.cons (s := 119) rfl (Sub.cons (s := 120) rfl (Sub.cons (s := 121) rfl (Sub.cons (s := 122) rfl (Sub.cons (s := 123) rfl (Sub.cons (s := 124) rfl (Sub.cons (s := 125) rfl (Sub.cons (s := 126) rfl (Sub.cons (s := 127) rfl (Sub.cons (s := 128) rfl (Sub.cons (s := 129) rfl (Sub.cons (s := 130) rfl (Sub.cons (s := 131) rfl (Sub.cons (s := 132) rfl (Sub.cons (s := 133) rfl (Sub.cons (s := 134) rfl (Sub.cons (s := 135) rfl (Sub.nil _))))))))))))))))))))))))))))))))))))) ?_
    rintro m ρ' B' H' ⟨i, hi, rfl, rfl, rfl, rfl⟩
    refine Cx.seq (fun K48 k48 => ?_)
    refine Cx.seq (fun K49 k49 => ?_)
    refine Cx.region ?_
    refine Lx.y (mv rfl) rfl ?_
    refine Lx.y (mv rfl) rfl ?_
    refine Lx.y (lenV (ty' := 0) Try.underlying62 rfl) rfl ?_
    refine Lx.y (lss rfl rfl) rfl ?_
    refine Lx.nil ?_
    refine Xx.tn (k49 _ _ _ _ ?_)
    refine Cx.condD rfl (fun h50 => ?_) (fun h50 => ?_)
    · skip
      have hlt := h50
      have hlt : i < ms.length := by omega
      have hki : i < k.l.length := by omega
      have hkb : k.l[i].body = ms[i] := by
        have h9 := congrArg (·[i]?) hkl
        simpa [hki, hlt] using h9
      refine Xx.addrT Am (by omega) (fun bm hAm hmx hmc => ?_)
      refine Xx.perm (H' := jnH kb k * (dkH db d * (sbuf 9 1 (some ⟨bm, 0, none⟩) ms.length cm (ms.map str) * R))) ?_ (by rw [hAm])
      refine Cx.skip ?_
      refine Xx.tn (k48 _ _ _ _ ?_)
      refine Cx.seq (fun K51 k51 => ?_)
      refine Cx.block ?_
      refine Cx.seq (fun K52 k52 => ?_)
      refine Cx.region ?_
      refine Lx.y (mv rfl) rfl ?_
      refine Lx.y (mv rfl) rfl ?_
      refine Lx.co rfl rfl rfl (JAt_ct kb k i _) (Pick.eq) rfl ?_
      rw [atV_in hki]
      refine Lx.y (mv rfl) rfl ?_
      refine Lx.y (ext rfl rfl) rfl ?_
      refine Lx.y (ext rfl rfl) rfl ?_
      refine Lx.new (allocO ti74) rfl (fun b17 => ?_)
      refine Lx.st (stA (d := .bool) sz74 rfl rfl rfl rfl (by show 0 + 4 ≤ 4; omega) rfl) ?_
      refine Lx.y (asg rfl) rfl ?_
      refine Lx.nil ?_
      refine Xx.tn (k52 _ _ _ _ ?_)
      refine Cx.seq (fun K53 k53 => ?_)
      refine Cx.drawn (by kernel_rfl) ?_
      refine Dx.p (i := 0) rfl (by kernel_rfl) (mv rfl) rfl ?_
      refine Dx.p (i := 1) rfl (by kernel_rfl) (not' rfl) rfl ?_
      refine Dx.p (i := 2) rfl (by kernel_rfl) (mv rfl) rfl ?_
      refine Dx.pT (i := 3) rfl rfl rfl rfl (by kernel_rfl) (fa' fo74_2 rfl) rfl ?_
      refine Dx.rT (i := 4) rfl rfl rfl rfl (by kernel_rfl) (ld Try.underlying9 rfl rfl rfl) rfl ?_
      refine Dx.pT (i := 5) rfl rfl rfl rfl (by kernel_rfl) (Yx.val (mv rfl) (show _ = Value.slice (some ⟨bm, 0, none⟩) ms.length cm from by rw [← hAm])) rfl ?_
      refine Dx.pT (i := 6) rfl rfl rfl rfl (by kernel_rfl) (mv rfl) rfl ?_
      refine Dx.pT (i := 7) rfl rfl rfl rfl (by kernel_rfl) (ia Try.underlying62 sz9 rfl rfl (Int.toNat_natCast _) (by omega) (by omega)) rfl ?_
      refine Dx.rT (i := 8) rfl rfl rfl rfl (by kernel_rfl) (ldC Try.underlying9 rfl rfl (Cells.buf (b := bm) (m := 1) (str_at hlt) (by rw [List.length_map]; omega))) rfl ?_
      refine Dx.pT (i := 9) rfl rfl rfl rfl (by kernel_rfl) (Yx.ff (neS rfl rfl) (by rw [hkb]; simp)) rfl ?_
      refine Dx.p (i := 10) rfl (by kernel_rfl) (pickF rfl rfl) rfl ?_
      refine Dx.done (by kernel_rfl) ?_
      refine Xx.tn (k53 _ _ _ _ ?_)
      refine Cx.condF rfl ?_
      refine Cx.skip ?_
      refine Xx.bn ?_
      refine Xx.tn (k51 _ _ _ _ ?_)
      refine Xx.dropB b17 ?_
      refine Cx.region ?_
      refine Lx.y (mv rfl) rfl ?_
      refine Lx.y (Yx.val (add rfl rfl (by first | exact wrap64 (by omega) (by omega) | rfl)) (show _ = i64 ((i + 1 : Nat) : Int) from rfl)) rfl ?_
      refine Lx.y (asg rfl) rfl ?_
      refine Lx.nil ?_
      exact Xx.againK ⟨i + 1, hlt, rfl, rfl, rfl, (by rw [hAm])⟩ (by omega) (Sub.cons (s := 24) rfl (Sub.cons (s := 0) rfl (Sub.cons (s := 1) rfl (Sub.cons (s := 2) rfl (Sub.cons (s := 7) rfl (Sub.cons (s := 8) rfl (Sub.cons (s := 9) rfl (Sub.cons (s := 22) rfl (Sub.cons (s := 23) rfl (Sub.cons (s := 27) rfl (Sub.cons (s := 28) rfl (Sub.cons (s := 29) rfl (Sub.cons (s := 30) rfl (Sub.cons (s := 31) rfl (Sub.cons (s := 114) rfl (Sub.cons (s := 115) rfl (Sub.cons (s := 116) rfl (Sub.cons (s := 117) rfl (Sub.cons (s := 118) rfl (Sub.cons (s := 119) rfl (Sub.cons (s := 120) rfl (Sub.cons (s := 121) rfl (Sub.cons (s := 122) rfl (Sub.cons (s := 123) rfl (Sub.cons (s := 124) rfl (Sub.cons (s := 125) rfl (Sub.cons (s := 126) rfl (Sub.cons (s := 127) rfl (Sub.cons (s := 128) rfl (Sub.cons (s := 129) rfl (Sub.cons (s := 130) rfl (Sub.cons (s := 131) rfl (Sub.cons (s := 132) rfl (Sub.cons (s := 133) rfl (Sub.cons (s := 134) rfl (Sub.cons (s := 135) rfl (Sub.nil _)))))))))))))))))))))))))))))))))))))
    · skip
      refine Cx.exit ?_
      refine Xx.te ?_
      refine Xx.te ?_
      refine Xx.bh ?_
      refine Xx.tn (k46 _ _ _ _ ?_)
      refine Cx.seq (fun K54 k54 => ?_)
      refine Cx.region ?_
      refine Lx.y (asg rfl) rfl ?_
      refine Lx.nil ?_
      refine Xx.tn (k54 _ _ _ _ ?_)
      refine Cx.ret ?_
      repeat refine Xx.drop ?_
      exact Xx.rB1 rfl rfl rfl (Frag.le_trans hBle (Frag.le_trans hB7 hB9)) rfl
end Jn9
end Go.Proofs.Ytgcebieihmlaoaa

/-
  What comes in: lists of things that are told apart cell by cell; numbers.
-/
namespace Go.SL
open Go.RowKit Go.ChangeShapes Go.WideShapes Go.ChangeAt
set_option linter.unusedVariables false
set_option linter.unusedSimpArgs false
theorem flatG_len {α : Type} {enc : α → List Value} {size : Nat} (he : ∀ x, (enc x).length = size) (l : List α) : (l.flatMap enc).length = l.length * size := by
  induction l with
  | nil => simp
  | cons x l ih => rw [List.flatMap_cons, List.length_append, ih, he, List.length_cons, Nat.succ_mul]; omega
theorem flatG_at {α : Type} {enc : α → List Value} {size : Nat} (he : ∀ x, (enc x).length = size) : ∀ (k : Nat) (l : List α) (h : k < l.length), ((l.flatMap enc).drop (k * size)).take size = enc l[k] := by
  intro k
  induction k with
  | zero =>
    intro l h
    cases l with
    | nil => simp at h
    | cons x l =>
      rw [Nat.zero_mul, List.drop_zero, List.flatMap_cons, List.take_append_of_le_length (by rw [he]; exact Nat.le_refl _), List.take_of_length_le (by rw [he]; exact Nat.le_refl _)]; rfl
  | succ k ih =>
    intro l h
    cases l with
    | nil => simp at h
    | cons x l =>
      have h' : k < l.length := by simpa using h
      rw [List.flatMap_cons, List.drop_append, he, List.drop_of_length_le (by rw [he, Nat.succ_mul]; omega), List.nil_append, show (k + 1) * size - size = k * size by rw [Nat.succ_mul]; omega]
      exact ih l h'
theorem flat_at {α : Type} {enc : α → List Value} {size : Nat} {B : Frag} {A : Option Addr} {l : List α} {k : Nat} (he : ∀ x, (enc x).length = size) (h : RoS B size A l.length (l.flatMap enc)) (hk : k < l.length) :
    ∃ b o cs et fz, A = some ⟨b, o, none⟩ ∧ B b = some (.cells (List.toArray cs) et fz) ∧ (cs.drop (o + k * size)).take size = enc l[k] := by
  obtain ⟨b, o, cs, et, fz, h1, h2, h3⟩ := h.at (k := k) hk
  exact ⟨b, o, cs, et, fz, h1, h2, by rw [h3, flatG_at he]⟩
/-- the first place where p holds; -1: there is none -/
def ixF {α : Type} (p : α → Bool) (l : List α) : Int := if l.any p = true then ((l.findIdx p : Nat) : Int) else -1
section
variable {H : Type} {enc : TypeId × Value → H}
theorem weightsAll_mem {P : Program} {e : TypeId} : ∀ {l : List (DataW H)} {d : DataW H} {n : Nat}, d ∈ l → n ∈ d.weights P e → n ∈ DataW.weightsAll P e l := by
  intro l
  induction l with
  | nil => intro d n h; cases h
  | cons x l ih =>
    intro d n h hn
    simp only [DataW.weightsAll, List.mem_append]
    rcases List.mem_cons.1 h with rfl | h
    · exact .inl hn
    · exact .inr (ih h hn)
theorem add_block (a : Addr) (k : Nat) : (a.add k).block = a.block := by unfold Addr.add; split <;> rfl
theorem add_off (a : Addr) (k : Nat) : (a.add k).off = a.off + k := by unfold Addr.add; split <;> simp_all
theorem cells_row {W : World} {b0 : Nat} {a : Addr} {n : Nat} {cs : List Value} (h : W.cells? b0 a n = some cs) (hn : 0 < n) : a.spot = none ∧ ∃ l et fz, W.heap[a.block]? = some (.cells (List.toArray l) et fz) ∧ (l.drop a.off).take n = cs := by
  obtain ⟨_, hl, hc⟩ := World.cells?_some h
  have hb : ∀ k, (a.add k).block = a.block := fun k => by unfold Addr.add; split <;> rfl
  have h0 := cell_obj ((hc 0 hn).trans (List.getElem?_eq_getElem (by omega)))
  have hs : a.spot = none := by have := h0.1; simpa [Addr.add] using this
  obtain ⟨l, et, fz, hh, _⟩ := h0.2
  rw [hb] at hh
  have ho : ∀ k, (a.add k).off = a.off + k := fun k => by unfold Addr.add; split <;> simp_all
  refine ⟨hs, l, et, fz, hh, ?_⟩
  apply List.ext_getElem?
  intro k
  by_cases hk : k < n
  · rw [List.getElem?_take, if_pos hk, List.getElem?_drop]
    obtain ⟨l2, et2, fz2, hh2, hv2⟩ := (cell_obj ((hc k hk).trans (List.getElem?_eq_getElem (by omega)))).2
    rw [hb, hh] at hh2
    rw [ho] at hv2
    injection hh2 with hh2
    injection hh2 with e1
    have e2 : l = l2 := by simpa using congrArg Array.toList e1
    subst e2
    rw [hv2, List.getElem?_eq_getElem]
  · rw [List.getElem?_take, if_neg hk, List.getElem?_eq_none (by omega)]
theorem wf_i64 {n : Int} (h : (Lit.int .i64 n).wf = true) : -9223372036854775808 ≤ n ∧ n ≤ 9223372036854775807 := by
  unfold Lit.wf at h
  rw [Bool.and_eq_true] at h
  exact ⟨of_decide_eq_true h.1, of_decide_eq_true h.2⟩
theorem wf_u64 {n : Int} (h : (Lit.int .u64 n).wf = true) : 0 ≤ n ∧ n ≤ 18446744073709551615 := by
  unfold Lit.wf at h
  rw [Bool.and_eq_true] at h
  exact ⟨of_decide_eq_true h.1, of_decide_eq_true h.2⟩
theorem u64_of {n : Int} (h : (Lit.int .u64 n).wf = true) : ∃ b : BitVec 64, Value.int .u64 n = u64 b := by
  obtain ⟨h1, h2⟩ := wf_u64 h
  refine ⟨BitVec.ofNat 64 n.toNat, ?_⟩
  show _ = Value.int .u64 _
  congr 1
  rw [BitVec.toNat_ofNat]
  omega
theorem flat_of {α : Type} {en : α → List Value} {size : Nat} : ∀ (l : List α) (o : Nat) (cs : List Value), (∀ i (h : i < l.length), (cs.drop (o + i * size)).take size = en l[i]) → (cs.drop o).take (l.length * size) = l.flatMap en := by
  intro l
  induction l with
  | nil => intro o cs _; simp
  | cons x l ih =>
    intro o cs h
    have h0 := h 0 (by simp)
    rw [Nat.zero_mul, Nat.add_zero] at h0
    have h1 := ih (o + size) cs (fun i hi => by
      have := h (i + 1) (by simpa using hi)
      rw [Nat.succ_mul, Nat.add_comm (i * size), ← Nat.add_assoc] at this
      exact this)
    rw [List.length_cons, Nat.succ_mul, Nat.add_comm, List.take_add, h0, List.drop_drop, h1, List.flatMap_cons]; rfl
theorem choose_any {α : Type} {n : Nat} {Q : Nat → α → Prop} (h : ∀ i, i < n → ∃ x, Q i x) : ∃ l : List α, l.length = n ∧ ∀ i (hi : i < l.length), Q i l[i] := by
  induction n with
  | zero => exact ⟨[], rfl, fun i hi => by simp at hi⟩
  | succ n ih =>
    obtain ⟨l, hl, hall⟩ := ih (fun i hi => h i (by omega))
    obtain ⟨x, hx⟩ := h n (by omega)
    refine ⟨l ++ [x], by simp [hl], fun i hi => ?_⟩
    by_cases e : i < l.length
    · rw [List.getElem_append_left e]; exact hall i e
    · have hin : i = l.length := by simp at hi; omega
      subst hin
      rw [List.getElem_append_right (Nat.le_refl _)]
      simp only [Nat.sub_self, List.getElem_cons_zero]
      rw [hl]; exact hx
/-- A slice among the arguments, of elements that are told apart cell by cell. -/
theorem open_list {α : Type} {P : Program} {r : Reach} {b0 base' : Nat} {sp : Nat → Bool} {hd : Bool} {W : World} {t e : TypeId} {v : Value} {d : DataW H} {ps : List MemPlace} {size : Nat} (en : α → List Value) (Q : α → Prop) (he : ∀ x, (en x).length = size) (hz : 0 < size) (ht : P.underlying t = some (.slice e)) (hc : P.cellsOf e = size)
    (hval : Value.okWide P W r b0 t v) (h : DataW.Trod enc P W base' sp hd t v d ps)
    (hel : ∀ n cs y, DataW.trod enc P W base' sp hd n e cs = some y → (∀ k ∈ y.1.weights P e, k ∈ d.weights P t) → ∃ x, cs = en x ∧ Q x) :
    ∃ (A : Option Addr) (c : Nat) (l : List α), v = .slice A l.length c ∧ l.length ≤ 9223372036854775807 ∧ (0 < l.length → RoS (base W) size A l.length (l.flatMap en)) ∧ ∀ x ∈ l, Q x := by
  obtain ⟨a0, len0, cap0, rfl⟩ := okWide_slice ht hval
  obtain ⟨fuel, hf⟩ := h
  rcases DataW.trod_slice ht hf with ⟨hcs, _⟩ | ⟨a, len, cap, elems, rest, n, rfl, hcs, hx4, _, hl4, hm4, hlen4, hev, _, _⟩
  · simp [Value.cells] at hcs
    obtain ⟨rfl, rfl, rfl⟩ := hcs
    exact ⟨none, 0, [], rfl, by simp, fun h => by simp at h, fun x hx => by cases hx⟩
  · simp [Value.cells] at hcs
    obtain ⟨rfl, rfl, rfl⟩ := hcs
    have hdx : d = .slice (elems.map (·.1)) (rest.map (·.1)) := congrArg Prod.fst hx4
    have hex : ∀ i, i < len0 → ∃ x, W.cells? base' (a.add (i * size)) size = some (en x) ∧ Q x := by
      intro i hi
      have h1 := hev i hi
      rw [hc, List.getElem?_eq_getElem (by omega), Option.bind_eq_some_iff] at h1
      obtain ⟨cs', h2, h3⟩ := h1
      obtain ⟨x, rfl, hq⟩ := hel n cs' _ h3 (fun m hm => by
        rw [hdx]
        simp only [DataW.weights, ht, List.mem_cons, List.mem_append]
        exact .inr (.inl (weightsAll_mem (List.mem_map.2 ⟨_, List.getElem_mem (by omega), rfl⟩) hm)))
      exact ⟨x, h2, hq⟩
    obtain ⟨l, hl, hall⟩ := choose_any hex
    subst hl
    have hml : maxLen ≤ 9223372036854775807 := by decide
    refine ⟨some a, cap0, l, rfl, by omega, fun h0 => ?_, fun x hx => ?_⟩
    · obtain ⟨hs, cs, et, fz, hh, hd0⟩ := cells_row (hall 0 h0).1 hz
      rw [add_block] at hh
      have hsa : a.spot = none := by simpa [Addr.add] using hs
      refine ⟨flatG_len he l, .inr ⟨a.block, a.off, cs, et, fz, by rw [← hsa], hh, flat_of l a.off cs fun i hi => ?_⟩⟩
      obtain ⟨_, cs', et', fz', hh', hd'⟩ := cells_row (hall i hi).1 hz
      rw [add_block] at hh'
      rw [add_off] at hd'
      have e1 := hh.symm.trans hh'
      injection e1 with e1
      injection e1 with e1 e2 e3
      have e4 : cs = cs' := by simpa using congrArg Array.toList e1
      rw [e4]; exact hd'
    · obtain ⟨i, hi, rfl⟩ := List.getElem_of_mem hx
      exact (hall i hi).2
theorem open_u64 {P : Program} {r : Reach} {b0 base' : Nat} {sp : Nat → Bool} {hd : Bool} {W : World} {t : TypeId} {v : Value} {d : DataW H} {ps : List MemPlace} (ht : P.underlying t = some (.int .u64)) (hval : Value.okWide P W r b0 t v) (h : DataW.Trod enc P W base' sp hd t v d ps) : ∃ n : BitVec 64, v = u64 n := by
  obtain ⟨n, rfl, _, _, hn⟩ := open_int ht hval h
  exact u64_of hn
/-- .. as a thing's part. -/
theorem open_list0 {α : Type} {P : Program} {base' : Nat} {sp : Nat → Bool} {hd : Bool} {W : World} {t e : TypeId} {cs0 : List Value} {y0 : DataW H × List MemPlace} {fuel : Nat} {size : Nat} (en : α → List Value) (Q : α → Prop) (he : ∀ x, (en x).length = size) (hz : 0 < size) (ht : P.underlying t = some (.slice e)) (hc : P.cellsOf e = size)
    (h : DataW.trod enc P W base' sp hd fuel t cs0 = some y0)
    (hel : ∀ n cs y, DataW.trod enc P W base' sp hd n e cs = some y → ∃ x, cs = en x ∧ Q x) :
    ∃ (A : Option Addr) (c : Nat) (l : List α), cs0 = [.slice A l.length c] ∧ l.length ≤ 9223372036854775807 ∧ (0 < l.length → RoS (base W) size A l.length (l.flatMap en)) ∧ ∀ x ∈ l, Q x := by
  rcases DataW.trod_slice ht h with ⟨hcs, _⟩ | ⟨a, len, cap, elems, rest, n, rfl, hcs, hx4, _, hl4, hm4, hlen4, hev, _, _⟩
  · exact ⟨none, 0, [], hcs, by simp, fun h => by simp at h, fun x hx => by cases hx⟩
  · have hex : ∀ i, i < len → ∃ x, W.cells? base' (a.add (i * size)) size = some (en x) ∧ Q x := by
      intro i hi
      have h1 := hev i hi
      rw [hc, List.getElem?_eq_getElem (by omega), Option.bind_eq_some_iff] at h1
      obtain ⟨cs', h2, h3⟩ := h1
      obtain ⟨x, rfl, hq⟩ := hel n cs' _ h3
      exact ⟨x, h2, hq⟩
    obtain ⟨l, hl, hall⟩ := choose_any hex
    subst hl
    have hml : maxLen ≤ 9223372036854775807 := by decide
    refine ⟨some a, cap, l, hcs, by omega, fun h0 => ?_, fun x hx => ?_⟩
    · obtain ⟨hs, cs, et, fz, hh, hd0⟩ := cells_row (hall 0 h0).1 hz
      rw [add_block] at hh
      have hsa : a.spot = none := by simpa [Addr.add] using hs
      refine ⟨flatG_len he l, .inr ⟨a.block, a.off, cs, et, fz, by rw [← hsa], hh, flat_of l a.off cs fun i hi => ?_⟩⟩
      obtain ⟨_, cs', et', fz', hh', hd'⟩ := cells_row (hall i hi).1 hz
      rw [add_block] at hh'
      rw [add_off] at hd'
      have e1 := hh.symm.trans hh'
      injection e1 with e1
      injection e1 with e1 e2 e3
      have e4 : cs = cs' := by simpa using congrArg Array.toList e1
      rw [e4]; exact hd'
    · obtain ⟨i, hi, rfl⟩ := List.getElem_of_mem hx
      exact (hall i hi).2
def s1 (s : List UInt8) : List Value := [str s]
theorem s1_flat (l : List (List UInt8)) : l.flatMap s1 = l.map str := by
  induction l with
  | nil => rfl
  | cons x l ih => rw [List.flatMap_cons, ih]; rfl
theorem open_str0 {P : Program} {base' : Nat} {sp : Nat → Bool} {hd : Bool} {W : World} {t : TypeId} (ht : P.underlying t = some .string) (n : Nat) (cs : List Value) (y : DataW H × List MemPlace) (h : DataW.trod enc P W base' sp hd n t cs = some y) : ∃ x, cs = s1 x ∧ True := by
  obtain ⟨m, q, _, _⟩ := DataW.trod_string ht h
  exact ⟨m.data.toList, q, trivial⟩
/-- Texts that come in. -/
theorem open_sl0 {P : Program} {base' : Nat} {sp : Nat → Bool} {hd : Bool} {W : World} {t e : TypeId} {cs0 : List Value} {y0 : DataW H × List MemPlace} {fuel : Nat} (ht : P.underlying t = some (.slice e)) (he : P.underlying e = some .string) (hc : P.cellsOf e = 1) (h : DataW.trod enc P W base' sp hd fuel t cs0 = some y0) :
    ∃ (A : Option Addr) (c : Nat) (l : List (List UInt8)), cs0 = [.slice A l.length c] ∧ l.length ≤ 9223372036854775807 ∧ (0 < l.length → RoS (base W) 1 A l.length (l.map str)) := by
  obtain ⟨A, c, l, h1, h2, h3, _⟩ := open_list0 s1 (fun _ => True) (fun _ => rfl) (by decide) ht hc h (fun n cs y hy => open_str0 he n cs y hy)
  exact ⟨A, c, l, h1, h2, fun h0 => by rw [← s1_flat]; exact h3 h0⟩
theorem open_sl {P : Program} {r : Reach} {b0 base' : Nat} {sp : Nat → Bool} {hd : Bool} {W : World} {t e : TypeId} {v : Value} {d : DataW H} {ps : List MemPlace} (ht : P.underlying t = some (.slice e)) (he : P.underlying e = some .string) (hc : P.cellsOf e = 1) (hval : Value.okWide P W r b0 t v) (h : DataW.Trod enc P W base' sp hd t v d ps) :
    ∃ (A : Option Addr) (c : Nat) (l : List (List UInt8)), v = .slice A l.length c ∧ l.length ≤ 9223372036854775807 ∧ (0 < l.length → RoS (base W) 1 A l.length (l.map str)) := by
  obtain ⟨A, c, l, h1, h2, h3, _⟩ := open_list s1 (fun _ => True) (fun _ => rfl) (by decide) ht hc hval h (fun n cs y hy _ => open_str0 he n cs y hy)
  exact ⟨A, c, l, h1, h2, fun h0 => by rw [← s1_flat]; exact h3 h0⟩
end
end Go.SL

/-
  Lists of lists of texts that come in.
-/
namespace Go.Proofs.Ytgcebieihmlaoaa
open Go.SL Go.RowKit
set_option linter.unusedVariables false
set_option linter.unusedSimpArgs false
set_option maxRecDepth 100000
open Jn6
open Go.ChangeShapes Go.WideShapes Go.ChangeAt
namespace JnA


section
variable {H : Type} {enc : TypeId × Value → H}
theorem open_txs {r : Reach} {b0 base' : Nat} {sp : Nat → Bool} {hd : Bool} {W : World} {v : Value} {d : DataW H} {ps : List MemPlace} (hval : Value.okWide Try.prog W r b0 61 v) (h : DataW.Trod enc Try.prog W base' sp hd 61 v d ps) :
    ∃ (A : Option Addr) (c : Nat) (l : List Tx), v = .slice A l.length c ∧ l.length ≤ 9223372036854775807 ∧ (0 < l.length → RoS (base W) 1 A l.length (l.flatMap txc)) ∧ ∀ x ∈ l, TxOk (base W) x :=
  open_list (size := 1) txc (TxOk (base W)) txc_len (by decide) Try.underlying61 (by kernel_rfl) hval h fun n cs y hy _ => by
    obtain ⟨A, c, l, h1, h2, h3⟩ := open_sl0 Try.underlying62 Try.underlying9 (by kernel_rfl) hy
    exact ⟨⟨A, c, l⟩, h1, h3, h2⟩
theorem open_ss {r : Reach} {b0 base' : Nat} {sp : Nat → Bool} {hd : Bool} {W : World} {v : Value} {d : DataW H} {ps : List MemPlace} (hval : Value.okWide Try.prog W r b0 62 v) (h : DataW.Trod enc Try.prog W base' sp hd 62 v d ps) :
    ∃ (A : Option Addr) (c : Nat) (l : List (List UInt8)), v = .slice A l.length c ∧ l.length ≤ 9223372036854775807 ∧ (0 < l.length → RoS (base W) 1 A l.length (l.map str)) :=
  open_sl Try.underlying62 Try.underlying9 (by kernel_rfl) hval h
end
end JnA
end Go.Proofs.Ytgcebieihmlaoaa

/-
  JournalReads: whatever the input, the law answers true, and the input reads as it did.
-/
namespace Go.Proofs.Ytgcebieihmlaoaa.JournalReadsLaw
open Go.ChangeShapes Go.WideShapes Go.ChangeAt Go.RowKit Go.SL
open JnA
open Go.ChangeMaps (open_string shut_string)

theorem own : ownKnob Try.prog.godebug = none := by kernel_rfl
theorem laidOut : laidOutB Try.prog = true := by kernel_rfl

set_option maxRecDepth 100000 in
theorem contract (H : Type) (enc : TypeId × Value → H) (W : World) (base : Nat) (args : Array Value) (ds gs : List (DataW H)) (before : List MemPlace)
    (hval : ∀ (j : Nat) t v, Try.f5.params[j]? = some t → args[j]? = some v → Value.okWide Try.prog W .any base t v)
    (hW : DataW.Whole enc Try.prog Try.f5.params.toList Rows.journalReadsSpec.vars false W args.toList ds gs before) :
    Calls Try.prog 5 args W fun e W' => ∃ v, e = .returned v ∧ Rows.journalReadsSpec.post enc Try.prog Try.f5 false true false false W args v W' := by
  have hW' := hW
  obtain ⟨p, q, hA0, hV, rfl, hfz, hnd⟩ := hW
  have hA : DataW.TrodAll enc Try.prog W 0 (fun _ => true) true Try.f5.params.toList args.toList ds p := hA0
  rw [Try.params5] at hA hval
  obtain ⟨v0, vs0, d0, ds0, p0, q0, hargs, rfl, rfl, h0, r0⟩ := trodAll_cons hA
  obtain ⟨v1, vs1, d1, ds1, p1, q1, rfl, rfl, rfl, h1, r1⟩ := trodAll_cons r0
  obtain ⟨v2, vs2, d2, ds2, p2, q2, rfl, rfl, rfl, h2, r2⟩ := trodAll_cons r1
  obtain ⟨rfl, rfl, rfl⟩ := trodAll_nil r2
  obtain rfl : args = #[v0, v1, v2] := by cases args; simp_all
  obtain ⟨A0, c0, l0, rfl, hm0, ro0, tx0⟩ := open_txs (hval 0 61 v0 rfl rfl) h0
  obtain ⟨A1, c1, l1, rfl, hm1, ro1⟩ := open_ss (hval 1 62 v1 rfl rfl) h1
  obtain ⟨a2, rfl, rfl, rfl, m2⟩ := open_int Try.underlying3 (hval 2 3 v2 rfl rfl) h2
  obtain ⟨rfl, rfl⟩ := trodVars_none hV
  refine (law_calls (args := [.slice A0 l0.length c0, .slice A1 l1.length c1, i64 a2]) (Jn9.JournalReads_ct l0 A0 c0 l1 A1 c1 a2 _ ro0 tx0 hm0 ro1 hm1)).mono fun e W' ⟨he, hb⟩ => ?_
  exact ⟨_, he, law_post laidOut (by kernel_rfl) (by kernel_rfl) Try.underlying4 rfl hW' rfl hb⟩

set_option maxRecDepth 100000 in
theorem lifted (os : Os) (started : os.Started) (H : Type) (enc : TypeId × Value → H) :
    ReturnsInHanded {} Try.checked os 5 .any (Rows.journalReadsSpec.pre6 enc Try.prog Try.f5 Rows.journalReadsRow.domain false) (Rows.journalReadsSpec.post enc Try.prog Try.f5 false true false false) := by
  refine returnsInHanded_of_change (C := Try.checked) own started (by kernel_rfl) Try.func5
    (ChangeSpec.witness6 (enc := enc) (C := Try.checked) false ⟨#[], #[.slice none 0 0, .slice none 0 0, .int .i64 0], []⟩ 8 (by kernel_rfl) (by kernel_rfl) (by kernel_rfl) (by kernel_rfl)) ?_
  intro W base args ds gs before hval hW _ _
  exact contract H enc W base args ds gs before hval hW

theorem said : Rows.JournalReadsSaid :=
  OpenClaim.holds_of_wide 5 Try.f5 rfl rfl rfl rfl rfl rfl rfl ⟨rfl, rfl, rfl, rfl, rfl⟩ rfl rfl rfl rfl rfl (by kernel_rfl) Try.func5 (by kernel_rfl)
    (of_decide_eq_true (by kernel_rfl)) (by unfold Func.isWrapper; first | (rw [if_pos (by decide +kernel)]; kernel_rfl) | (rw [if_neg (by decide +kernel)]; exact ⟨rfl, rfl⟩))
    (fun os started H enc _ => lifted os started H enc)
end Go.Proofs.Ytgcebieihmlaoaa.JournalReadsLaw
#print axioms Go.Proofs.Ytgcebieihmlaoaa.JournalReadsLaw.said
