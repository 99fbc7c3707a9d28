/-
  The walk of frame.next, of its iterator, of the scans.
-/
import Derived.Test.YtgcebieihmlaoaaProg
import Derived.Test.YtgcebieihmlaoaaSlj
import Derived.Test.YtgcebieihmlaoaaFr1
namespace Go.Proofs.Ytgcebieihmlaoaa
open Go.SL Go.RowKit
set_option linter.unusedVariables false
set_option linter.unusedSimpArgs false
set_option maxRecDepth 100000
open Fr1
namespace Fr2
theorem sz119 : (Try.prog.info? 119).map (·.size) = some 3 := by kernel_rfl
theorem ti119 : TI Try.prog 119 [.int .i64 0, str [], .bool false] 3 32 := TI.of (by kernel_rfl) rfl rfl
theorem fo119_0 : FO Try.prog 119 0 0 1 false := FO.of Try.underlying119 rfl rfl (by kernel_rfl) Try.underlying3 rfl rfl
theorem fo119_1 : FO Try.prog 119 1 1 1 false := FO.of Try.underlying119 rfl rfl (by kernel_rfl) Try.underlying9 rfl rfl
theorem pl119 : PL Try.prog 119 [(0, 1), (1, 1), (2, 1)] := PL.of Try.underlying119 (by kernel_rfl)

structure Fm where
  pos : Nat
  body : List UInt8
  good : Bool
def nextF (l : List UInt8) (a : Nat) : Option Fm :=
  if (l.length : Int) - a < 12 then none
  else if (65536 : Int) < ((numL (l.drop a)).toNat : Nat) then none
  else if ¬ numL (l.drop (a + 4)) = crc ((l.take (a + 4)).drop a) then none
  else if (l.length : Int) - a - 12 < ((numL (l.drop a)).toNat : Nat) then none
  else some ⟨a + 12, (l.take (a + 12 + (numL (l.drop a)).toNat)).drop (a + 12), decide (numL (l.drop (a + 8)) = crc ((l.take (a + 12 + (numL (l.drop a)).toNat)).drop (a + 12)))⟩
def fmV (f : Fm) : Value := .agg #[i64 f.pos, str f.body, .bool f.good]
def nextV (l : List UInt8) (a : Nat) : Value := match nextF l a with
  | none => .tuple #[.agg #[i64 0, str [], .bool false], .bool false]
  | some f => .tuple #[fmV f, .bool true]
theorem nextV_no {l : List UInt8} {a : Nat} (h : nextF l a = none) : nextV l a = .tuple #[.agg [i64 0, str [], .bool false].toArray, .bool false] := by unfold nextV; rw [h]
theorem nextV_yes {l : List UInt8} {a : Nat} {f : Fm} (h : nextF l a = some f) : nextV l a = .tuple #[.agg [i64 f.pos, str f.body, .bool f.good].toArray, .bool true] := by unfold nextV; rw [h]; rfl

set_option maxHeartbeats 1000000 in
theorem next_ct (l : List UInt8) (a : Nat) (B : Frag) (hl : l.length ≤ 4611686018427387904) (ha : a ≤ l.length) : CtP Try.prog 97 [str l, i64 a] B (nextV l a) := by
  refine CtB.of_body Try.func97 rfl (nt := 66) rfl (by kernel_rfl) rfl ?_
  intro N0 w0 R
  refine Cx.seq (fun K1 k1 => ?_)
  refine Cx.region ?_
  refine Lx.new (allocO ti119) rfl (fun b2 => ?_)
  refine Lx.y (asg rfl) rfl ?_
  refine Lx.nil ?_
  refine Xx.tn (k1 _ _ _ _ ?_)
  refine Cx.seq (fun K3 k3 => ?_)
  refine Cx.seq (fun K4 k4 => ?_)
  refine Cx.region ?_
  refine Lx.y (mv rfl) rfl ?_
  refine Lx.y (lenS Try.underlying9 rfl) rfl ?_
  refine Lx.y (mv rfl) rfl ?_
  refine Lx.y (sub rfl rfl (by first | exact wrap64 (by omega) (by omega) | rfl)) rfl ?_
  refine Lx.y (lss rfl rfl) rfl ?_
  refine Lx.nil ?_
  refine Xx.tn (k4 _ _ _ _ ?_)
  refine Cx.condD rfl (fun h5 => ?_) (fun h5 => ?_)
  · skip
    have q0 := h5
    refine Cx.seq (fun K6 k6 => ?_)
    refine Cx.region ?_
    refine Lx.y (bld ti119 pl119 rfl rfl) rfl ?_
    refine Lx.st (stA (d := .bool) sz119 rfl rfl rfl rfl (by simp) rfl) ?_
    refine Lx.y (asg rfl) rfl ?_
    refine Lx.nil ?_
    refine Xx.tn (k6 _ _ _ _ ?_)
    refine Cx.ret ?_
    refine Xx.tr ?_
    exact Xx.rBc rfl Try.underlying119 rfl sz119 rfl rfl rfl ⟨(nextV_no (by unfold nextF; rw [if_pos q0])).symm, rfl⟩ (Frag.le_refl _)
  · skip
    have q0 := h5
    refine Cx.skip ?_
    refine Xx.tn (k3 _ _ _ _ ?_)
    refine Cx.seq (fun K7 k7 => ?_)
    refine Cx.region ?_
    refine Lx.y (mv rfl) rfl ?_
    refine Lx.y (mv rfl) rfl ?_
    refine Lx.y (sl1S Try.underlying9 rfl rfl (by first | exact Int.toNat_natCast _ | rfl) (by omega) (by omega)) rfl ?_
    refine Lx.cp rfl rfl rfl (number_ct _ _ (by simp; omega)) rfl ?_
    refine Lx.y (asg rfl) rfl ?_
    refine Lx.nil ?_
    refine Xx.tn (k7 _ _ _ _ ?_)
    refine Cx.seq (fun K8 k8 => ?_)
    refine Cx.seq (fun K9 k9 => ?_)
    refine Cx.drawn (by kernel_rfl) ?_
    refine Dx.p (i := 0) rfl (by kernel_rfl) (mv rfl) rfl ?_
    refine Dx.p (i := 1) rfl (by kernel_rfl) (gtr rfl rfl) rfl ?_
    refine Dx.p (i := 2) rfl (by kernel_rfl) (mv rfl) rfl ?_
    refine Xx.ifD (t := 21) rfl (fun h10 => ?_) (fun h10 => ?_)
    · skip
      have q1 := h10
      refine Dx.pF (i := 3) rfl (fun _ h => by cases h) rfl rfl rfl (by kernel_rfl) rfl ?_
      refine Dx.pF (i := 4) rfl (fun _ h => by cases h) rfl rfl rfl (by kernel_rfl) rfl ?_
      refine Dx.pF (i := 5) rfl (fun _ h => by cases h) rfl rfl rfl (by kernel_rfl) rfl ?_
      refine Dx.pF (i := 6) rfl (fun _ h => by cases h) rfl rfl rfl (by kernel_rfl) rfl ?_
      refine Dx.pF (i := 7) rfl (fun _ h => by cases h) rfl rfl rfl (by kernel_rfl) rfl ?_
      refine Dx.pF (i := 8) rfl (fun _ h => by cases h) rfl rfl rfl (by kernel_rfl) rfl ?_
      refine Dx.pF (i := 9) rfl (fun _ h => by cases h) rfl rfl rfl (by kernel_rfl) rfl ?_
      refine Dx.pF (i := 10) rfl (fun _ h => by cases h) rfl rfl rfl (by kernel_rfl) rfl ?_
      refine Dx.pF (i := 11) rfl (fun _ h => by cases h) rfl rfl rfl (by kernel_rfl) rfl ?_
      refine Dx.pF (i := 12) rfl (fun _ h => by cases h) rfl rfl rfl (by kernel_rfl) rfl ?_
      refine Dx.pF (i := 13) rfl (fun _ h => by cases h) rfl rfl rfl (by kernel_rfl) rfl ?_
      refine Dx.pF (i := 14) rfl (fun _ h => by cases h) rfl rfl rfl (by kernel_rfl) rfl ?_
      refine Dx.p (i := 15) rfl (by kernel_rfl) (pickT rfl rfl) rfl ?_
      refine Dx.p (i := 16) rfl (by kernel_rfl) (mv rfl) rfl ?_
      refine Dx.pF (i := 17) rfl (fun _ h => by cases h) rfl rfl rfl (by kernel_rfl) rfl ?_
      refine Dx.pF (i := 18) rfl (fun _ h => by cases h) rfl rfl rfl (by kernel_rfl) rfl ?_
      refine Dx.pF (i := 19) rfl (fun _ h => by cases h) rfl rfl rfl (by kernel_rfl) rfl ?_
      refine Dx.pF (i := 20) rfl (fun _ h => by cases h) rfl rfl rfl (by kernel_rfl) rfl ?_
      refine Dx.pF (i := 21) rfl (fun _ h => by cases h) rfl rfl rfl (by kernel_rfl) rfl ?_
      refine Dx.pF (i := 22) rfl (fun _ h => by cases h) rfl rfl rfl (by kernel_rfl) rfl ?_
      refine Dx.pF (i := 23) rfl (fun _ h => by cases h) rfl rfl rfl (by kernel_rfl) rfl ?_
      refine Dx.pF (i := 24) rfl (fun _ h => by cases h) rfl rfl rfl (by kernel_rfl) rfl ?_
      refine Dx.p (i := 25) rfl (by kernel_rfl) (pickT rfl rfl) rfl ?_
      refine Dx.done (by kernel_rfl) ?_
      refine Xx.tn (k9 _ _ _ _ ?_)
      refine Cx.condT rfl ?_
      refine Cx.seq (fun K11 k11 => ?_)
      refine Cx.region ?_
      refine Lx.y (bld ti119 pl119 rfl rfl) rfl ?_
      refine Lx.st (stA (d := .bool) sz119 rfl rfl rfl rfl (by simp) rfl) ?_
      refine Lx.y (asg rfl) rfl ?_
      refine Lx.nil ?_
      refine Xx.tn (k11 _ _ _ _ ?_)
      refine Cx.ret ?_
      refine Xx.tr ?_
      exact Xx.rBc rfl Try.underlying119 rfl sz119 rfl rfl rfl ⟨(nextV_no (by unfold nextF; rw [if_neg q0, if_pos q1])).symm, rfl⟩ (Frag.le_refl _)
    · skip
      have q1 := h10
      have hn := (numL (l.drop a)).isLt
      refine Dx.pT (i := 3) rfl rfl rfl rfl (by kernel_rfl) (mv rfl) rfl ?_
      refine Dx.pT (i := 4) rfl rfl rfl rfl (by kernel_rfl) (mv rfl) rfl ?_
      refine Dx.pT (i := 5) rfl rfl rfl rfl (by kernel_rfl) (add rfl rfl (by first | exact wrap64 (by omega) (by omega) | rfl)) rfl ?_
      refine Dx.pT (i := 6) rfl rfl rfl rfl (by kernel_rfl) (sl1S Try.underlying9 rfl rfl (by first | exact Int.toNat_natCast _ | rfl) (by omega) (by omega)) rfl ?_
      refine Dx.pT (i := 8) rfl rfl rfl rfl (by kernel_rfl) (mv rfl) rfl ?_
      refine Dx.pT (i := 9) rfl rfl rfl rfl (by kernel_rfl) (mv rfl) rfl ?_
      refine Dx.pT (i := 10) rfl rfl rfl rfl (by kernel_rfl) (mv rfl) rfl ?_
      refine Dx.pT (i := 11) rfl rfl rfl rfl (by kernel_rfl) (add rfl rfl (by first | exact wrap64 (by omega) (by omega) | rfl)) rfl ?_
      refine Dx.pT (i := 12) rfl rfl rfl rfl (by kernel_rfl) (sl3S Try.underlying9 rfl rfl rfl (by first | exact Int.toNat_natCast _ | rfl) (by first | exact Int.toNat_natCast _ | rfl) (by omega) (by omega) (by omega)) rfl ?_
      refine Dx.one (i := 7) (by kernel_rfl) ?_
      refine Dstep.oT (i := 7) rfl rfl rfl rfl (Ox.cb rfl rfl rfl (number_ct _ _ (by simp; omega))) rfl (fun v B' H' hΦ hB => ?_)
      obtain ⟨rfl, rfl, rfl⟩ := hΦ; clear hB
      refine ⟨JOk.top, ?_⟩
      refine Dx.one (i := 13) (by kernel_rfl) ?_
      refine Dstep.oT (i := 13) rfl rfl rfl rfl (Ox.cb rfl rfl rfl (Check_ct _ _ (by simp; omega))) rfl (fun v B' H' hΦ hB => ?_)
      obtain ⟨rfl, rfl, rfl⟩ := hΦ; clear hB
      refine ⟨JOk.top, ?_⟩
      refine Dx.pT (i := 14) rfl rfl rfl rfl (by kernel_rfl) (neW32 rfl rfl) rfl ?_
      refine Dx.p (i := 15) rfl (by kernel_rfl) (pickF rfl rfl) rfl ?_
      refine Dx.p (i := 16) rfl (by kernel_rfl) (mv rfl) rfl ?_
      refine Xx.ifN (t := 35) rfl (fun h12 => ?_) (fun h12 => ?_)
      · skip
        have q2 := h12
        refine Dx.pF (i := 17) rfl (fun _ h => by cases h) rfl rfl rfl (by kernel_rfl) rfl ?_
        refine Dx.pF (i := 18) rfl (fun _ h => by cases h) rfl rfl rfl (by kernel_rfl) rfl ?_
        refine Dx.pF (i := 19) rfl (fun _ h => by cases h) rfl rfl rfl (by kernel_rfl) rfl ?_
        refine Dx.pF (i := 20) rfl (fun _ h => by cases h) rfl rfl rfl (by kernel_rfl) rfl ?_
        refine Dx.pF (i := 21) rfl (fun _ h => by cases h) rfl rfl rfl (by kernel_rfl) rfl ?_
        refine Dx.pF (i := 22) rfl (fun _ h => by cases h) rfl rfl rfl (by kernel_rfl) rfl ?_
        refine Dx.pF (i := 23) rfl (fun _ h => by cases h) rfl rfl rfl (by kernel_rfl) rfl ?_
        refine Dx.pF (i := 24) rfl (fun _ h => by cases h) rfl rfl rfl (by kernel_rfl) rfl ?_
        refine Dx.p (i := 25) rfl (by kernel_rfl) (pickT rfl rfl) rfl ?_
        refine Dx.done (by kernel_rfl) ?_
        refine Xx.tn (k9 _ _ _ _ ?_)
        refine Cx.condT rfl ?_
        refine Cx.seq (fun K13 k13 => ?_)
        refine Cx.region ?_
        refine Lx.y (bld ti119 pl119 rfl rfl) rfl ?_
        refine Lx.st (stA (d := .bool) sz119 rfl rfl rfl rfl (by simp) rfl) ?_
        refine Lx.y (asg rfl) rfl ?_
        refine Lx.nil ?_
        refine Xx.tn (k13 _ _ _ _ ?_)
        refine Cx.ret ?_
        refine Xx.tr ?_
        exact Xx.rBc rfl Try.underlying119 rfl sz119 rfl rfl rfl ⟨(nextV_no (by unfold nextF; rw [if_neg q0, if_neg q1, if_pos q2])).symm, rfl⟩ (Frag.le_refl _)
      · skip
        have q2 := h12
        refine Dx.pT (i := 17) rfl rfl rfl rfl (by kernel_rfl) (mv rfl) rfl ?_
        refine Dx.pT (i := 18) rfl rfl rfl rfl (by kernel_rfl) (cvI rfl Try.underlying110 Try.underlying3 (by first | exact wrap64 (by omega) (by omega) | rfl)) rfl ?_
        refine Dx.pT (i := 19) rfl rfl rfl rfl (by kernel_rfl) (mv rfl) rfl ?_
        refine Dx.pT (i := 20) rfl rfl rfl rfl (by kernel_rfl) (lenS Try.underlying9 rfl) rfl ?_
        refine Dx.pT (i := 21) rfl rfl rfl rfl (by kernel_rfl) (mv rfl) rfl ?_
        refine Dx.pT (i := 22) rfl rfl rfl rfl (by kernel_rfl) (sub rfl rfl (by first | exact wrap64 (by omega) (by omega) | rfl)) rfl ?_
        refine Dx.pT (i := 23) rfl rfl rfl rfl (by kernel_rfl) (sub rfl rfl (by first | exact wrap64 (by omega) (by omega) | rfl)) rfl ?_
        refine Dx.pT (i := 24) rfl rfl rfl rfl (by kernel_rfl) (gtr rfl rfl) rfl ?_
        refine Dx.p (i := 25) rfl (by kernel_rfl) (pickF rfl rfl) rfl ?_
        refine Dx.done (by kernel_rfl) ?_
        refine Xx.tn (k9 _ _ _ _ ?_)
        refine Cx.condD rfl (fun h14 => ?_) (fun h14 => ?_)
        · skip
          have q3 := h14
          refine Cx.seq (fun K15 k15 => ?_)
          refine Cx.region ?_
          refine Lx.y (bld ti119 pl119 rfl rfl) rfl ?_
          refine Lx.st (stA (d := .bool) sz119 rfl rfl rfl rfl (by simp) rfl) ?_
          refine Lx.y (asg rfl) rfl ?_
          refine Lx.nil ?_
          refine Xx.tn (k15 _ _ _ _ ?_)
          refine Cx.ret ?_
          refine Xx.tr ?_
          exact Xx.rBc rfl Try.underlying119 rfl sz119 rfl rfl rfl ⟨(nextV_no (by unfold nextF; rw [if_neg q0, if_neg q1, if_neg (by simpa using q2), if_pos q3])).symm, rfl⟩ (Frag.le_refl _)
        · skip
          have q3 := h14
          refine Cx.skip ?_
          refine Xx.tn (k8 _ _ _ _ ?_)
          refine Cx.seq (fun K16 k16 => ?_)
          refine Cx.region ?_
          refine Lx.y (mv rfl) rfl ?_
          refine Lx.y (add rfl rfl (by first | exact wrap64 (by omega) (by omega) | rfl)) rfl ?_
          refine Lx.y (asg rfl) rfl ?_
          refine Lx.nil ?_
          refine Xx.tn (k16 _ _ _ _ ?_)
          refine Cx.seq (fun K17 k17 => ?_)
          refine Cx.region ?_
          refine Lx.y (mv rfl) rfl ?_
          refine Lx.y (mv rfl) rfl ?_
          refine Lx.y (mv rfl) rfl ?_
          refine Lx.y (mv rfl) rfl ?_
          refine Lx.y (cvI rfl Try.underlying110 Try.underlying3 (by first | exact wrap64 (by omega) (by omega) | rfl)) rfl ?_
          refine Lx.y (add rfl rfl (by first | exact wrap64 (by omega) (by omega) | rfl)) rfl ?_
          refine Lx.y (sl3S Try.underlying9 rfl rfl rfl (by first | exact Int.toNat_natCast _ | rfl) (by first | exact Int.toNat_natCast _ | rfl) (by omega) (by omega) (by omega)) rfl ?_
          refine Lx.y (asg rfl) rfl ?_
          refine Lx.nil ?_
          refine Xx.tn (k17 _ _ _ _ ?_)
          refine Cx.seq (fun K18 k18 => ?_)
          refine Cx.region ?_
          refine Lx.y (mv rfl) rfl ?_
          refine Lx.y (mv rfl) rfl ?_
          refine Lx.y (mv rfl) rfl ?_
          refine Lx.y (mv rfl) rfl ?_
          refine Lx.y (add rfl rfl (by first | exact wrap64 (by omega) (by omega) | rfl)) rfl ?_
          refine Lx.y (sl1S Try.underlying9 rfl rfl (by first | exact Int.toNat_natCast _ | rfl) (by omega) (by omega)) rfl ?_
          refine Lx.cp rfl rfl rfl (number_ct _ _ (by simp; omega)) rfl ?_
          refine Lx.y (mv rfl) rfl ?_
          refine Lx.cp rfl rfl rfl (Check_ct _ _ (by simp; omega)) rfl ?_
          refine Lx.y (eqW32 rfl rfl) rfl ?_
          refine Lx.y (bld ti119 pl119 rfl rfl) rfl ?_
          refine Lx.st (stA (d := .bool) sz119 rfl rfl rfl rfl (by simp) rfl) ?_
          refine Lx.y (asg rfl) rfl ?_
          refine Lx.nil ?_
          refine Xx.tn (k18 _ _ _ _ ?_)
          refine Cx.ret ?_
          refine Xx.rBc rfl Try.underlying119 rfl sz119 rfl rfl rfl ⟨?_, rfl⟩ (Frag.le_refl _)
          exact (nextV_yes (by unfold nextF; rw [if_neg q0, if_neg q1, if_neg (by simpa using q2), if_neg q3])).symm

def nx (l : List UInt8) (a : Nat) : Fm := (nextF l a).getD ⟨0, [], false⟩
theorem nextV_eq (l : List UInt8) (a : Nat) : nextV l a = .tuple #[.agg [i64 (nx l a).pos, str (nx l a).body, .bool (nx l a).good].toArray, .bool (nextF l a).isSome] := by
  unfold nextV nx; cases nextF l a <;> rfl
theorem nx_bound {l : List UInt8} {a : Nat} (ha : a ≤ l.length) (h : (nextF l a).isSome = true) : (nx l a).pos = a + 12 ∧ (nx l a).pos + (nx l a).body.length ≤ l.length := by
  unfold nx
  unfold nextF at *
  split at h
  · cases h
  · split at h
    · cases h
    · split at h
      · cases h
      · split at h
        · cases h
        · rename_i h1 h2 h3 h4
          rw [if_neg h1, if_neg h2, if_neg h3, if_neg h4]
          simp
          omega
def scanF (l : List UInt8) : Nat → Nat → List Fm
  | 0, _ => []
  | n + 1, a => if (nextF l a).isSome = true then nx l a :: scanF l n ((nx l a).pos + (nx l a).body.length) else []
def scanL (l : List UInt8) : List Fm := scanF l (l.length + 1) 0
theorem scanF_len (l : List UInt8) : ∀ (n a : Nat), a ≤ l.length → 12 * (scanF l n a).length + a ≤ l.length := by
  intro n
  induction n with
  | zero => intro a ha; simpa [scanF] using ha
  | succ n ih =>
    intro a ha
    unfold scanF
    split
    · rename_i h
      have h1 := nx_bound ha h
      have h2 := ih ((nx l a).pos + (nx l a).body.length) h1.2
      simp only [List.length_cons]
      omega
    · simpa using ha
theorem scanF_mem (l : List UInt8) : ∀ (n a : Nat), a ≤ l.length → ∀ f ∈ scanF l n a, f.pos + f.body.length ≤ l.length := by
  intro n
  induction n with
  | zero => intro a ha f hf; simp [scanF] at hf
  | succ n ih =>
    intro a ha f hf
    unfold scanF at hf
    split at hf
    · rename_i h
      have h1 := nx_bound ha h
      rcases List.mem_cons.1 hf with rfl | h2
      · exact h1.2
      · exact ih _ h1.2 f h2
    · cases hf
theorem next_ct' (l : List UInt8) (a : Nat) (B : Frag) (hl : l.length ≤ 4611686018427387904) (ha : a ≤ l.length) : CtP Try.prog 97 [str l, i64 a] B (.tuple #[.agg [i64 (nx l a).pos, str (nx l a).body, .bool (nx l a).good].toArray, .bool (nextF l a).isSome]) := by
  rw [← nextV_eq]; exact next_ct l a B hl ha
def endL (xs : List Fm) : Nat := match xs.getLast? with
  | none => 0
  | some f => f.pos + f.body.length
@[simp] theorem endL_snoc (xs : List Fm) (x : Fm) : endL (xs ++ [x]) = x.pos + x.body.length := by simp [endL]
def flatF (xs : List Fm) : List Value := xs.flatMap fun f => [i64 f.pos, str f.body, .bool f.good]
@[simp] theorem flatF_snoc (xs : List Fm) (x : Fm) : flatF (xs ++ [x]) = flatF xs ++ [i64 x.pos, str x.body, .bool x.good] := by simp [flatF]
theorem flatF_len (xs : List Fm) : (flatF xs).length = xs.length * 3 := by
  unfold flatF
  induction xs with
  | nil => rfl
  | cons x xs ih => simp only [List.flatMap_cons, List.length_append, ih, List.length_cons, List.length_nil]; omega

set_option maxHeartbeats 1000000 in
theorem All_ct (l : List UInt8) (B : Frag) : CtB Try.prog 81 [str l] B (fun v B' => ∃ b, v = .func (.func 96) #[] #[.pointer (some ⟨b, 0, none⟩)] ∧ B' b = some (.cells [str l].toArray 9 (0, 0))) := by
  refine CtB.of_body Try.func81 rfl (nt := 4) rfl (by kernel_rfl) rfl ?_
  intro N0 w0 R
  refine Cx.seq (fun K1 k1 => ?_)
  refine Cx.region ?_
  refine Lx.new (boxO rfl rfl) rfl (fun bb => ?_)
  refine Lx.y (asg rfl) rfl ?_
  refine Lx.nil ?_
  refine Xx.tn (k1 _ _ _ _ ?_)
  refine Cx.seq (fun K2 k2 => ?_)
  refine Cx.region ?_
  refine Lx.y (mkf rfl rfl) rfl ?_
  refine Lx.y (asg rfl) rfl ?_
  refine Lx.nil ?_
  refine Xx.tn (k2 _ _ _ _ ?_)
  refine Cx.ret ?_
  refine Xx.freezeB bb fun B2 hB2 hb => ?_
  exact Xx.rB1 rfl rfl ⟨bb, rfl, hb⟩ hB2 rfl

set_option maxHeartbeats 1000000 in
theorem All1_it (l : List UInt8) (b : Nat) (B : Frag) (hl : l.length ≤ 4611686018427387904) (hb : B b = some (.cells [str l].toArray 9 (0, 0))) : It Try.prog 96 [.pointer (some ⟨b, 0, none⟩)] (fun f => [fmV f]) (scanL l) B 1 := by
  refine ⟨enters_of Try.func96 rfl (by kernel_rfl), fun lp J Jx hy B1 H1 hB1 hJ0 => ?_⟩
  refine Ct.of_body Try.func96 rfl (nt := 26) rfl (by kernel_rfl) rfl ?_
  intro N0 w0 R
  rw [one_star]
  refine Cx.seq (fun K1 k1 => ?_)
  refine Cx.region ?_
  refine Lx.y (asg rfl) rfl ?_
  refine Lx.nil ?_
  refine Xx.tn (k1 _ _ _ _ ?_)
  refine Cx.block ?_
  refine Cx.loopK (Sub.cons (s := 0) rfl (Sub.cons (s := 1) rfl (Sub.nil _))) (fun m ρ' B' H' => ∃ (n a : Nat) (pre : List Fm) (B2 : Frag) (H2 : HP), (scanL l = pre ++ scanF l n a ∧ l.length < n + a ∧ a ≤ l.length ∧ J pre B2 H2 ∧ B1.le B2) ∧ m = 1 + n ∧ ρ' = [(3, i64 a)] ∧ B2 = B' ∧ H2 * R = H') ⟨l.length + 1, 0, [], B1, H1, ⟨rfl, by omega, by omega, hJ0, Frag.le_refl _⟩, rfl, rfl, rfl, rfl⟩ (Sub.cons (s := 3) rfl (Sub.cons (s := 0) rfl (Sub.cons (s := 1) rfl (Sub.nil _)))) ?_
  rintro m ρ' B' H' ⟨n, a, pre, B2, H2, ⟨hxs, hn, ha, hJ, hB2⟩, rfl, rfl, rfl, rfl⟩
  obtain ⟨n, rfl⟩ : ∃ k, n = k + 1 := ⟨n - 1, by omega⟩
  refine Cx.block ?_
  refine Cx.seq (fun K2 k2 => ?_)
  refine Cx.region ?_
  refine Lx.y (ldB Try.underlying9 rfl rfl (hB2 _ _ (hB1 _ _ hb)) rfl) rfl ?_
  refine Lx.y (mv rfl) rfl ?_
  refine Lx.cp rfl rfl rfl (next_ct' l a _ hl ha) rfl ?_
  refine Lx.y (mv rfl) rfl ?_
  refine Lx.y (ext rfl rfl) rfl ?_
  refine Lx.y (ext rfl rfl) rfl ?_
  refine Lx.new (allocO ti119) rfl (fun b4 => ?_)
  refine Lx.st (stA (d := .bool) sz119 rfl rfl rfl rfl (by simp) rfl) ?_
  refine Lx.y (asg rfl) rfl ?_
  refine Lx.nil ?_
  refine Xx.tn (k2 _ _ _ _ ?_)
  refine Cx.seq (fun K3 k3 => ?_)
  refine Cx.seq (fun K4 k4 => ?_)
  refine Cx.region ?_
  refine Lx.y (mv rfl) rfl ?_
  refine Lx.y (not' rfl) rfl ?_
  refine Lx.y (mv rfl) rfl ?_
  refine Xx.ifB (t := 14) rfl (fun h5 => ?_) (fun h5 => ?_)
  · skip
    have his : ¬ (nextF l a).isSome = true := by simpa using h5
    have hxs2 : scanL l = pre := by rw [hxs, scanF, if_neg his]; simp
    refine Lx.gF rfl rfl rfl rfl ?_
    refine Lx.gF rfl rfl rfl rfl ?_
    refine Lx.gF rfl rfl rfl rfl ?_
    refine Lx.gF rfl rfl rfl rfl ?_
    refine Lx.y (pickT rfl rfl) rfl ?_
    refine Lx.nil ?_
    refine Xx.tn (k4 _ _ _ _ ?_)
    refine Cx.condT rfl ?_
    refine Cx.ret ?_
    refine Xx.tr ?_
    refine Xx.br ?_
    refine Xx.tr ?_
    refine Xx.br ?_
    refine Xx.dropB b4 ?_
    exact Xx.ret0 rfl ⟨H2, (one_star H2).symm, .inl (hxs2 ▸ hJ)⟩ hB2 rfl
  · skip
    have his : (nextF l a).isSome = true := by simpa using h5
    have hnb := nx_bound ha his
    have hxs2 : scanL l = (pre ++ [nx l a]) ++ scanF l n ((nx l a).pos + (nx l a).body.length) := by rw [hxs, scanF, if_pos his]; simp
    refine Lx.gT rfl rfl rfl ?_
    refine Lx.y (mv rfl) rfl ?_
    refine Lx.gT rfl rfl rfl ?_
    refine Lx.y (ldA Try.underlying119 rfl sz119 rfl (Cells.own (n := 3) PickB.eq rfl) rfl) rfl ?_
    refine Lx.gT rfl rfl rfl ?_
    refine Lx.yield rfl rfl (hy pre (nx l a) (scanF l n ((nx l a).pos + (nx l a).body.length)) B2 H2 (by rw [hxs2]; simp) (Frag.le_trans hB1 hB2) hJ) (star_left _ _ _) rfl ?_
    rintro t B3 H3 hΦ hB3
    refine Lx.gT rfl rfl rfl ?_
    refine Lx.y (not' rfl) rfl ?_
    refine Lx.y (pickF rfl rfl) rfl ?_
    refine Lx.nil ?_
    refine Xx.tn (k4 _ _ _ _ ?_)
    refine Cx.condB rfl (fun h6 => ?_) (fun h6 => ?_)
    · skip
      obtain ⟨_, hΦ⟩ : t = false ∧ Jx (pre ++ [nx l a]) B3 H3 := by simpa [show t = false by simpa using h6] using hΦ
      refine Cx.ret ?_
      refine Xx.tr ?_
      refine Xx.br ?_
      refine Xx.tr ?_
      refine Xx.br ?_
      refine Xx.dropB b4 ?_
      exact Xx.ret0 rfl ⟨H3, (one_star H3).symm, .inr ⟨_, _, hxs2, hΦ⟩⟩ (Frag.le_trans hB2 hB3) rfl
    · skip
      obtain ⟨_, hΦ⟩ : t = true ∧ J (pre ++ [nx l a]) B3 H3 := by simpa [show t = true by simpa using h6] using hΦ
      refine Cx.skip ?_
      refine Xx.tn (k3 _ _ _ _ ?_)
      refine Cx.region ?_
      refine Lx.y (fa' fo119_0 rfl) rfl ?_
      refine Lx.y (ld Try.underlying3 rfl rfl rfl) rfl ?_
      refine Lx.y (fa' fo119_1 rfl) rfl ?_
      refine Lx.y (ld Try.underlying9 rfl rfl rfl) rfl ?_
      refine Lx.y (lenS Try.underlying9 rfl) rfl ?_
      refine Lx.y (add rfl rfl (by first | exact wrap64 (by omega) (by omega) | rfl)) rfl ?_
      refine Lx.y (asg rfl) rfl ?_
      refine Lx.nil ?_
      refine Xx.bn ?_
      refine Xx.dropB b4 ?_
      exact Xx.againK ⟨n, (nx l a).pos + (nx l a).body.length, pre ++ [nx l a], B3, H3, ⟨hxs2, by omega, hnb.2, hΦ, Frag.le_trans hB2 hB3⟩, rfl, rfl, rfl, rfl⟩ (by omega) (Sub.cons (s := 3) rfl (Sub.cons (s := 0) rfl (Sub.cons (s := 1) rfl (Sub.nil _))))
end Fr2
end Go.Proofs.Ytgcebieihmlaoaa
