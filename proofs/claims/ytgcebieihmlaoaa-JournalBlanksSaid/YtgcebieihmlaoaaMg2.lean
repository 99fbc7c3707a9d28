/-
  Texts of this seat, one behind the other: Fr4, Fr5, Fr6, Fr7, Fr8, FrA, Slk, Slm, Sln, Slo, Slp, Slq, Slr, Sls, Slt, Slu, Slv, DkA.
-/
import Derived.Test.YtgcebieihmlaoaaProg
import Derived.WalkKit
import Derived.ProofKit
import Derived.OpenShut
import Derived.JoinedCond
import Derived.JoinedOf
import Derived.ChangeSame
import Derived.Carry
import Derived.SliceStrings
import Derived.Laws.IdiomStrings
import Derived.Laws.AppendOwn
import Derived.Laws.CopyRow
import Derived.Lib.AppendZeros
import Derived.Lib.Overlaps
import Derived.Lib.Bytealg
import Derived.LoopNIn
import Derived.ChangeMaps4
import Derived.Laws.IdiomRangeMap
import Derived.Sort.OwnSortedInts
import Derived.Test.YtgcebieihmlaoaaMg1

/-
  The walks of the reference scan and of awake.
-/
namespace Go.Proofs.Ytgcebieihmlaoaa
open Go.SL Go.RowKit
set_option linter.unusedVariables false
set_option linter.unusedSimpArgs false
set_option maxRecDepth 100000
open Fr1 Fr2 Fr3
namespace Fr4
theorem ti69 : TI Try.prog 69 [.int .i64 0, str [], .bool false] 3 32 := TI.of (by kernel_rfl) rfl rfl
theorem pl69 : PL Try.prog 69 [(0, 1), (1, 1), (2, 1)] := PL.of Try.underlying69 (by kernel_rfl)

def refN (l : List UInt8) : Nat := (l.getD 0 0).toNat + (l.getD 1 0).toNat * 256 + (l.getD 2 0).toNat * 65536 + (l.getD 3 0).toNat * 16777216
theorem refN_eq (l : List UInt8) : refNumL l = ((refN l : Nat) : Int) := by unfold refNumL refN; omega
theorem refNum_ct (l : List UInt8) (B : Frag) (hl : 4 ≤ l.length) : CtP Try.prog 57 [str l] B (i64 ((refN l : Nat) : Int)) := by rw [← refN_eq]; exact RefNumber_ct l B hl
theorem refN_lt (l : List UInt8) : refN l < 4294967296 := by
  have b0 := (l.getD 0 0).toNat_lt
  have b1 := (l.getD 1 0).toNat_lt
  have b2 := (l.getD 2 0).toNat_lt
  have b3 := (l.getD 3 0).toNat_lt
  unfold refN; omega
/-- a frame stands there, as the reference has it -/
def rIs (l : List UInt8) (a : Nat) : Prop := a + 12 ≤ l.length ∧ refN ((l.take (a + 4)).drop a) ≤ 65536 ∧ refFourL (refCrc ((l.take (a + 4)).drop a)) = (l.take (a + 8)).drop (a + 4) ∧ a + 12 + refN ((l.take (a + 4)).drop a) ≤ l.length
instance (l : List UInt8) (a : Nat) : Decidable (rIs l a) := by unfold rIs; infer_instance
def rB (l : List UInt8) (a : Nat) : List UInt8 := (l.take (a + 12 + refN ((l.take (a + 4)).drop a))).drop (a + 12)
theorem rB_len (l : List UInt8) (a : Nat) : (rB l a).length ≤ l.length := by
  unfold rB
  generalize refN _ = z
  simp only [List.length_drop, List.length_take]
  omega
def rx (l : List UInt8) (a : Nat) : Fm := ⟨a + 12, rB l a, decide (refFourL (refCrc (rB l a)) = (l.take (a + 12)).drop (a + 8))⟩
def rscanF (l : List UInt8) : Nat → Nat → List Fm
  | 0, _ => []
  | n + 1, a => if rIs l a then rx l a :: rscanF l n (a + (12 + refN ((l.take (a + 4)).drop a))) else []
def rscanL (l : List UInt8) : List Fm := rscanF l (l.length + 1) 0
theorem rscanF_len (l : List UInt8) : ∀ (n a : Nat), a ≤ l.length → 12 * (rscanF l n a).length + a ≤ l.length := by
  intro n
  induction n with
  | zero => intro a ha; simpa [rscanF] using ha
  | succ n ih =>
    intro a ha
    unfold rscanF
    split
    · rename_i h
      have h2 := ih (a + (12 + refN ((l.take (a + 4)).drop a))) (by have := h.2.2.2; omega)
      simp only [List.length_cons]
      omega
    · simpa using ha
def rendF (l : List UInt8) : Nat → Nat → Nat
  | 0, a => a
  | n + 1, a => if rIs l a then rendF l n (a + (12 + refN ((l.take (a + 4)).drop a))) else a
def rendL (l : List UInt8) : Nat := rendF l (l.length + 1) 0

set_option maxHeartbeats 1000000 in
theorem RefScan_ct (l : List UInt8) (B : Frag) (hl : l.length ≤ 1048576) : CtB Try.prog 33 [str l] B (fun v B' => ∃ A c, v = .tuple #[.slice A (rscanL l).length c, i64 (rendL l)] ∧ RoS B' 3 A (rscanL l).length (flatF (rscanL l)) ∧ (rscanL l).length ≤ c) := by
  refine CtB.of_body Try.func33 rfl (nt := 78) rfl (by kernel_rfl) rfl ?_
  intro N0 w0 R
  refine Cx.seq (fun K1 k1 => ?_)
  refine Cx.region ?_
  refine Lx.y (asg rfl) rfl ?_
  refine Lx.y (asg rfl) rfl ?_
  refine Lx.nil ?_
  refine Xx.tn (k1 _ _ _ _ ?_)
  refine Cx.seq (fun K2 k2 => ?_)
  refine Cx.region ?_
  refine Lx.bsl (bslO Try.underlying65 ti69 rfl rfl (by simp [Value.cells]) (by decide)) rfl (fun b8 => ?_)
  refine Lx.y (asg rfl) rfl ?_
  refine Lx.y (asg rfl) rfl ?_
  refine Xx.toS b8 3 0 0 rfl (by omega) rfl ?_
  refine Lx.nil ?_
  refine Xx.tn (k2 _ _ _ _ ?_)
  refine Cx.seq (fun K3 k3 => ?_)
  refine Cx.block ?_
  refine Cx.loopK (Sub.cons (s := 0) rfl (Sub.cons (s := 2) rfl (Sub.cons (s := 3) rfl (Sub.cons (s := 8) rfl (Sub.nil _))))) (fun m ρ' B' H' => ∃ (n a : Nat) (pre : List Fm) (A : Option Addr) (c : Nat) (B2 : Frag), (rscanL l = pre ++ rscanF l n a ∧ rendL l = rendF l n a ∧ l.length < n + a ∧ a ≤ l.length ∧ B = B2) ∧ m = 1 + n ∧ ρ' = [(4, .slice A pre.length c), (5, i64 a)] ∧ B2 = B' ∧ sbuf 69 3 A pre.length c (flatF pre) * R = H') ⟨l.length + 1, 0, [], _, _, _, ⟨rfl, rfl, by omega, by omega, rfl⟩, rfl, rfl, rfl, rfl⟩ (Sub.cons (s := 4) rfl (Sub.cons (s := 5) rfl (Sub.cons (s := 0) rfl (Sub.cons (s := 2) rfl (Sub.cons (s := 3) rfl (Sub.cons (s := 8) rfl (Sub.nil _))))))) ?_
  rintro m ρ' B' H' ⟨n, a, pre, A, c, B2, ⟨hxs, hes, hn, ha, rfl⟩, rfl, rfl, rfl, rfl⟩
  obtain ⟨n, rfl⟩ : ∃ k, n = k + 1 := ⟨n - 1, by omega⟩
  refine Cx.seq (fun K4 k4 => ?_)
  refine Cx.seq (fun K5 k5 => ?_)
  refine Cx.region ?_
  refine Lx.y (mv rfl) rfl ?_
  refine Lx.y (lenS Try.underlying9 rfl) rfl ?_
  refine Lx.y (mv rfl) rfl ?_
  refine Lx.y (sub rfl rfl (by first | exact wrap64 (by omega) (by omega) | rfl)) rfl ?_
  refine Lx.y (geq rfl rfl) rfl ?_
  refine Lx.nil ?_
  refine Xx.tn (k5 _ _ _ _ ?_)
  refine Cx.condD rfl (fun h6 => ?_) (fun h6 => ?_)
  · skip
    have q0 := h6
    refine Cx.skip ?_
    refine Xx.tn (k4 _ _ _ _ ?_)
    refine Cx.block ?_
    refine Cx.seq (fun K7 k7 => ?_)
    refine Cx.region ?_
    refine Lx.y (mv rfl) rfl ?_
    refine Lx.y (mv rfl) rfl ?_
    refine Lx.y (mv rfl) rfl ?_
    refine Lx.y (add rfl rfl (by first | exact wrap64 (by omega) (by omega) | rfl)) rfl ?_
    refine Lx.y (sl3S Try.underlying9 rfl rfl rfl (by first | exact Int.toNat_natCast _ | rfl) (by first | exact Int.toNat_natCast _ | rfl) (by omega) (by omega) (by omega)) rfl ?_
    refine Lx.cp rfl rfl rfl (refNum_ct _ _ (by simp; omega)) rfl ?_
    have hnl := refN_lt ((l.take (a + 4)).drop a)
    refine Lx.y (asg rfl) rfl ?_
    refine Lx.nil ?_
    refine Xx.tn (k7 _ _ _ _ ?_)
    refine Cx.seq (fun K8 k8 => ?_)
    refine Cx.seq (fun K9 k9 => ?_)
    refine Cx.drawn (by kernel_rfl) ?_
    refine Dx.p (i := 0) rfl (by kernel_rfl) (mv rfl) rfl ?_
    refine Dx.p (i := 1) rfl (by kernel_rfl) (gtr rfl rfl) rfl ?_
    refine Dx.p (i := 2) rfl (by kernel_rfl) (mv rfl) rfl ?_
    refine Xx.ifD (t := 22) rfl (fun h10 => ?_) (fun h10 => ?_)
    · skip
      have q1 : (65536 : Int) < ((refN ((l.take (a + 4)).drop a) : Nat) : Int) := h10
      have hnr : ¬ rIs l a := fun h => absurd h.2.1 (by omega)
      have hd1 : rscanL l = pre := by rw [hxs, rscanF, if_neg hnr]; simp
      have hd2 : rendL l = a := by rw [hes, rendF, if_neg hnr]
      refine Dx.pF (i := 3) rfl (fun _ h => by cases h) rfl rfl rfl (by kernel_rfl) rfl ?_
      refine Dx.pF (i := 4) rfl (fun _ h => by cases h) rfl rfl rfl (by kernel_rfl) rfl ?_
      refine Dx.pF (i := 5) rfl (fun _ h => by cases h) rfl rfl rfl (by kernel_rfl) rfl ?_
      refine Dx.pF (i := 6) rfl (fun _ h => by cases h) rfl rfl rfl (by kernel_rfl) rfl ?_
      refine Dx.pF (i := 7) rfl (fun _ h => by cases h) rfl rfl rfl (by kernel_rfl) rfl ?_
      refine Dx.pF (i := 8) rfl (fun _ h => by cases h) rfl rfl rfl (by kernel_rfl) rfl ?_
      refine Dx.pF (i := 9) rfl (fun _ h => by cases h) rfl rfl rfl (by kernel_rfl) rfl ?_
      refine Dx.pF (i := 10) rfl (fun _ h => by cases h) rfl rfl rfl (by kernel_rfl) rfl ?_
      refine Dx.pF (i := 11) rfl (fun _ h => by cases h) rfl rfl rfl (by kernel_rfl) rfl ?_
      refine Dx.pF (i := 12) rfl (fun _ h => by cases h) rfl rfl rfl (by kernel_rfl) rfl ?_
      refine Dx.pF (i := 13) rfl (fun _ h => by cases h) rfl rfl rfl (by kernel_rfl) rfl ?_
      refine Dx.pF (i := 14) rfl (fun _ h => by cases h) rfl rfl rfl (by kernel_rfl) rfl ?_
      refine Dx.pF (i := 15) rfl (fun _ h => by cases h) rfl rfl rfl (by kernel_rfl) rfl ?_
      refine Dx.pF (i := 16) rfl (fun _ h => by cases h) rfl rfl rfl (by kernel_rfl) rfl ?_
      refine Dx.p (i := 17) rfl (by kernel_rfl) (pickT rfl rfl) rfl ?_
      refine Dx.p (i := 18) rfl (by kernel_rfl) (mv rfl) rfl ?_
      refine Dx.pF (i := 19) rfl (fun _ h => by cases h) rfl rfl rfl (by kernel_rfl) rfl ?_
      refine Dx.pF (i := 20) rfl (fun _ h => by cases h) rfl rfl rfl (by kernel_rfl) rfl ?_
      refine Dx.pF (i := 21) rfl (fun _ h => by cases h) rfl rfl rfl (by kernel_rfl) rfl ?_
      refine Dx.pF (i := 22) rfl (fun _ h => by cases h) rfl rfl rfl (by kernel_rfl) rfl ?_
      refine Dx.pF (i := 23) rfl (fun _ h => by cases h) rfl rfl rfl (by kernel_rfl) rfl ?_
      refine Dx.pF (i := 24) rfl (fun _ h => by cases h) rfl rfl rfl (by kernel_rfl) rfl ?_
      refine Dx.pF (i := 25) rfl (fun _ h => by cases h) rfl rfl rfl (by kernel_rfl) rfl ?_
      refine Dx.p (i := 26) rfl (by kernel_rfl) (pickT rfl rfl) rfl ?_
      refine Dx.done (by kernel_rfl) ?_
      refine Xx.tn (k9 _ _ _ _ ?_)
      refine Cx.condT rfl ?_
      refine Cx.exit ?_
      refine Xx.te ?_
      refine Xx.bm rfl ?_
      refine Xx.te ?_
      refine Xx.bh ?_
      refine Xx.tn (k3 _ _ _ _ ?_)
      refine Cx.seq (fun K11 k11 => ?_)
      refine Cx.region ?_
      refine Lx.y (mv rfl) rfl ?_
      refine Lx.y (mv rfl) rfl ?_
      refine Lx.y (asg rfl) rfl ?_
      refine Lx.y (asg rfl) rfl ?_
      refine Lx.nil ?_
      refine Xx.tn (k11 _ _ _ _ ?_)
      refine Cx.ret ?_
      refine Xx.freezeT A fun B3 hB3 hRo hnc _ => ?_
      exact Xx.rB2 rfl rfl rfl ⟨A, c, by rw [hd1, hd2], hd1 ▸ hRo, hd1 ▸ hnc⟩ hB3 rfl
    · skip
      have q1 : ¬ (65536 : Int) < ((refN ((l.take (a + 4)).drop a) : Nat) : Int) := h10
      refine Dx.pT (i := 3) rfl rfl rfl rfl (by kernel_rfl) (mv rfl) rfl ?_
      refine Dx.pT (i := 4) rfl rfl rfl rfl (by kernel_rfl) (mv rfl) rfl ?_
      refine Dx.pT (i := 5) rfl rfl rfl rfl (by kernel_rfl) (mv rfl) rfl ?_
      refine Dx.pT (i := 6) rfl rfl rfl rfl (by kernel_rfl) (add rfl rfl (by first | exact wrap64 (by omega) (by omega) | rfl)) rfl ?_
      refine Dx.pT (i := 7) rfl rfl rfl rfl (by kernel_rfl) (sl3S Try.underlying9 rfl rfl rfl (by first | exact Int.toNat_natCast _ | rfl) (by first | exact Int.toNat_natCast _ | rfl) (by omega) (by omega) (by omega)) rfl ?_
      refine Dx.pT (i := 10) rfl rfl rfl rfl (by kernel_rfl) (mv rfl) rfl ?_
      refine Dx.pT (i := 11) rfl rfl rfl rfl (by kernel_rfl) (mv rfl) rfl ?_
      refine Dx.pT (i := 12) rfl rfl rfl rfl (by kernel_rfl) (add rfl rfl (by first | exact wrap64 (by omega) (by omega) | rfl)) rfl ?_
      refine Dx.pT (i := 13) rfl rfl rfl rfl (by kernel_rfl) (mv rfl) rfl ?_
      refine Dx.pT (i := 14) rfl rfl rfl rfl (by kernel_rfl) (add rfl rfl (by first | exact wrap64 (by omega) (by omega) | rfl)) rfl ?_
      refine Dx.pT (i := 15) rfl rfl rfl rfl (by kernel_rfl) (sl3S Try.underlying9 rfl rfl rfl (by first | exact Int.toNat_natCast _ | rfl) (by first | exact Int.toNat_natCast _ | rfl) (by omega) (by omega) (by omega)) rfl ?_
      refine Dx.one (i := 8) (by kernel_rfl) ?_
      refine Dstep.oT (i := 8) rfl rfl rfl rfl (Ox.cb rfl rfl rfl (RefCheck_ct _ _ (by simp; omega))) rfl (fun v B' H' hΦ hB => ?_)
      obtain ⟨rfl, rfl, rfl⟩ := hΦ; clear hB
      refine ⟨JOk.top, ?_⟩
      refine Dx.one (i := 9) (by kernel_rfl) ?_
      refine Dstep.oT (i := 9) rfl rfl rfl rfl (Ox.cb rfl rfl rfl (Four_ct _ _)) rfl (fun v B' H' hΦ hB => ?_)
      obtain ⟨rfl, rfl, rfl⟩ := hΦ; clear hB
      refine ⟨JOk.top, ?_⟩
      refine Dx.pT (i := 16) rfl rfl rfl rfl (by kernel_rfl) (neS rfl rfl) rfl ?_
      refine Dx.p (i := 17) rfl (by kernel_rfl) (pickF rfl rfl) rfl ?_
      refine Dx.p (i := 18) rfl (by kernel_rfl) (mv rfl) rfl ?_
      refine Xx.ifN (t := 38) rfl (fun h12 => ?_) (fun h12 => ?_)
      · skip
        have q2 : ¬ refFourL (refCrc ((l.take (a + 4)).drop a)) = (l.take (a + 8)).drop (a + 4) := h12
        have hnr : ¬ rIs l a := fun h => q2 h.2.2.1
        have hd1 : rscanL l = pre := by rw [hxs, rscanF, if_neg hnr]; simp
        have hd2 : rendL l = a := by rw [hes, rendF, if_neg hnr]
        refine Dx.pF (i := 19) rfl (fun _ h => by cases h) rfl rfl rfl (by kernel_rfl) rfl ?_
        refine Dx.pF (i := 20) rfl (fun _ h => by cases h) rfl rfl rfl (by kernel_rfl) rfl ?_
        refine Dx.pF (i := 21) rfl (fun _ h => by cases h) rfl rfl rfl (by kernel_rfl) rfl ?_
        refine Dx.pF (i := 22) rfl (fun _ h => by cases h) rfl rfl rfl (by kernel_rfl) rfl ?_
        refine Dx.pF (i := 23) rfl (fun _ h => by cases h) rfl rfl rfl (by kernel_rfl) rfl ?_
        refine Dx.pF (i := 24) rfl (fun _ h => by cases h) rfl rfl rfl (by kernel_rfl) rfl ?_
        refine Dx.pF (i := 25) rfl (fun _ h => by cases h) rfl rfl rfl (by kernel_rfl) rfl ?_
        refine Dx.p (i := 26) rfl (by kernel_rfl) (pickT rfl rfl) rfl ?_
        refine Dx.done (by kernel_rfl) ?_
        refine Xx.tn (k9 _ _ _ _ ?_)
        refine Cx.condT rfl ?_
        refine Cx.exit ?_
        refine Xx.te ?_
        refine Xx.bm rfl ?_
        refine Xx.te ?_
        refine Xx.bh ?_
        refine Xx.tn (k3 _ _ _ _ ?_)
        refine Cx.seq (fun K13 k13 => ?_)
        refine Cx.region ?_
        refine Lx.y (mv rfl) rfl ?_
        refine Lx.y (mv rfl) rfl ?_
        refine Lx.y (asg rfl) rfl ?_
        refine Lx.y (asg rfl) rfl ?_
        refine Lx.nil ?_
        refine Xx.tn (k13 _ _ _ _ ?_)
        refine Cx.ret ?_
        refine Xx.freezeT A fun B3 hB3 hRo hnc _ => ?_
        exact Xx.rB2 rfl rfl rfl ⟨A, c, by rw [hd1, hd2], hd1 ▸ hRo, hd1 ▸ hnc⟩ hB3 rfl
      · skip
        have q2 : refFourL (refCrc ((l.take (a + 4)).drop a)) = (l.take (a + 8)).drop (a + 4) := h12
        refine Dx.pT (i := 19) rfl rfl rfl rfl (by kernel_rfl) (mv rfl) rfl ?_
        refine Dx.pT (i := 20) rfl rfl rfl rfl (by kernel_rfl) (mv rfl) rfl ?_
        refine Dx.pT (i := 21) rfl rfl rfl rfl (by kernel_rfl) (lenS Try.underlying9 rfl) rfl ?_
        refine Dx.pT (i := 22) rfl rfl rfl rfl (by kernel_rfl) (mv rfl) rfl ?_
        refine Dx.pT (i := 23) rfl rfl rfl rfl (by kernel_rfl) (sub rfl rfl (by first | exact wrap64 (by omega) (by omega) | rfl)) rfl ?_
        refine Dx.pT (i := 24) rfl rfl rfl rfl (by kernel_rfl) (sub rfl rfl (by first | exact wrap64 (by omega) (by omega) | rfl)) rfl ?_
        refine Dx.pT (i := 25) rfl rfl rfl rfl (by kernel_rfl) (gtr rfl rfl) rfl ?_
        refine Dx.p (i := 26) rfl (by kernel_rfl) (pickF rfl rfl) rfl ?_
        refine Dx.done (by kernel_rfl) ?_
        refine Xx.tn (k9 _ _ _ _ ?_)
        refine Cx.condD rfl (fun h14 => ?_) (fun h14 => ?_)
        · skip
          have q3 : (l.length : Int) - a - 12 < ((refN ((l.take (a + 4)).drop a) : Nat) : Int) := h14
          have hnr : ¬ rIs l a := fun h => absurd h.2.2.2 (by omega)
          have hd1 : rscanL l = pre := by rw [hxs, rscanF, if_neg hnr]; simp
          have hd2 : rendL l = a := by rw [hes, rendF, if_neg hnr]
          refine Cx.exit ?_
          refine Xx.te ?_
          refine Xx.bm rfl ?_
          refine Xx.te ?_
          refine Xx.bh ?_
          refine Xx.tn (k3 _ _ _ _ ?_)
          refine Cx.seq (fun K15 k15 => ?_)
          refine Cx.region ?_
          refine Lx.y (mv rfl) rfl ?_
          refine Lx.y (mv rfl) rfl ?_
          refine Lx.y (asg rfl) rfl ?_
          refine Lx.y (asg rfl) rfl ?_
          refine Lx.nil ?_
          refine Xx.tn (k15 _ _ _ _ ?_)
          refine Cx.ret ?_
          refine Xx.freezeT A fun B3 hB3 hRo hnc _ => ?_
          exact Xx.rB2 rfl rfl rfl ⟨A, c, by rw [hd1, hd2], hd1 ▸ hRo, hd1 ▸ hnc⟩ hB3 rfl
        · skip
          have q3 : ¬ (l.length : Int) - a - 12 < ((refN ((l.take (a + 4)).drop a) : Nat) : Int) := h14
          have hyr : rIs l a := ⟨by omega, by omega, q2, by omega⟩
          have hxs2 : rscanL l = (pre ++ [rx l a]) ++ rscanF l n (a + (12 + refN ((l.take (a + 4)).drop a))) := by rw [hxs, rscanF, if_pos hyr]; simp
          have hes2 : rendL l = rendF l n (a + (12 + refN ((l.take (a + 4)).drop a))) := by rw [hes, rendF, if_pos hyr]
          have hlen := rscanF_len l (l.length + 1) 0 (by omega)
          have hxl : (rscanL l).length = pre.length + 1 + (rscanF l n (a + (12 + refN ((l.take (a + 4)).drop a)))).length := by rw [hxs2]; simp; omega
          unfold rscanL at hxl
          have hrb : (rB l a).length ≤ 4611686018427387904 := Nat.le_trans (rB_len l a) (Nat.le_trans hl (by decide))
          refine Cx.skip ?_
          refine Xx.tn (k8 _ _ _ _ ?_)
          refine Cx.seq (fun K16 k16 => ?_)
          refine Cx.region ?_
          refine Lx.y (mv rfl) rfl ?_
          refine Lx.y (mv rfl) rfl ?_
          refine Lx.y (add rfl rfl (by first | exact wrap64 (by omega) (by omega) | rfl)) rfl ?_
          refine Lx.y (mv rfl) rfl ?_
          refine Lx.y (add rfl rfl (by first | exact wrap64 (by omega) (by omega) | rfl)) rfl ?_
          refine Lx.y (mv rfl) rfl ?_
          refine Lx.y (add rfl rfl (by first | exact wrap64 (by omega) (by omega) | rfl)) rfl ?_
          refine Lx.y (sl3S Try.underlying9 rfl rfl rfl (by first | exact Int.toNat_natCast _ | rfl) (by first | exact Int.toNat_natCast _ | rfl) (by omega) (by omega) (by omega)) rfl ?_
          refine Lx.y (asg rfl) rfl ?_
          refine Lx.nil ?_
          refine Xx.tn (k16 _ _ _ _ ?_)
          refine Cx.seq (fun K17 k17 => ?_)
          refine Cx.drawn (by kernel_rfl) ?_
          refine Dx.p (i := 0) rfl (by kernel_rfl) (mv rfl) rfl ?_
          refine Dx.p (i := 1) rfl (by kernel_rfl) (mv rfl) rfl ?_
          refine Dx.p (i := 2) rfl (by kernel_rfl) (add rfl rfl (by first | exact wrap64 (by omega) (by omega) | rfl)) rfl ?_
          refine Dx.p (i := 3) rfl (by kernel_rfl) (mv rfl) rfl ?_
          refine Dx.p (i := 4) rfl (by kernel_rfl) (mv rfl) rfl ?_
          refine Dx.p (i := 7) rfl (by kernel_rfl) (mv rfl) rfl ?_
          refine Dx.p (i := 8) rfl (by kernel_rfl) (mv rfl) rfl ?_
          refine Dx.p (i := 9) rfl (by kernel_rfl) (add rfl rfl (by first | exact wrap64 (by omega) (by omega) | rfl)) rfl ?_
          refine Dx.p (i := 10) rfl (by kernel_rfl) (mv rfl) rfl ?_
          refine Dx.p (i := 11) rfl (by kernel_rfl) (add rfl rfl (by first | exact wrap64 (by omega) (by omega) | rfl)) rfl ?_
          refine Dx.p (i := 12) rfl (by kernel_rfl) (sl3S Try.underlying9 rfl rfl rfl (by first | exact Int.toNat_natCast _ | rfl) (by first | exact Int.toNat_natCast _ | rfl) (by omega) (by omega) (by omega)) rfl ?_
          refine Dx.one (i := 5) (by kernel_rfl) ?_
          refine Dstep.o (i := 5) rfl (Ox.cb rfl rfl rfl (RefCheck_ct (rB l a) _ hrb)) rfl (fun v B' H' hΦ hB => ?_)
          obtain ⟨rfl, rfl, rfl⟩ := hΦ; clear hB
          refine ⟨JOk.top, ?_⟩
          refine Dx.one (i := 6) (by kernel_rfl) ?_
          refine Dstep.o (i := 6) rfl (Ox.cb rfl rfl rfl (Four_ct _ _)) rfl (fun v B' H' hΦ hB => ?_)
          obtain ⟨rfl, rfl, rfl⟩ := hΦ; clear hB
          refine ⟨JOk.top, ?_⟩
          refine Dx.p (i := 13) rfl (by kernel_rfl) (eqS rfl rfl) rfl ?_
          refine Dx.p (i := 14) rfl (by kernel_rfl) (bld ti69 pl69 rfl rfl) rfl ?_
          refine Dx.one (i := 15) (by kernel_rfl) ?_
          refine Dstep.o (i := 15) rfl (bslA Try.underlying65 ti69 rfl rfl (by decide)) rfl (fun v B' H' hΦ hB => ?_)
          obtain ⟨b18, rfl, rfl, rfl⟩ := hΦ; clear hB
          refine ⟨JOk.top, ?_⟩
          refine Dx.one (i := 16) (by kernel_rfl) ?_
          refine Dstep.o (i := 16) rfl (appR Try.underlying65 Try.underlying65 ti69 rfl rfl rfl rfl rfl (by omega) (by omega)) rfl (fun v B' H' hΦ hB => ?_)
          obtain ⟨A2, c2, rfl, hA2, hl2, hc2, rfl, rfl⟩ := hΦ
          refine ⟨JOk.top, ?_⟩
          refine Dx.p (i := 17) rfl (by kernel_rfl) (asg rfl) rfl ?_
          refine Dx.done (by kernel_rfl) ?_
          refine Xx.tn (k17 _ _ _ _ ?_)
          refine Cx.region ?_
          refine Lx.y (mv rfl) rfl ?_
          refine Lx.y (mv rfl) rfl ?_
          refine Lx.y (add rfl rfl (by first | exact wrap64 (by omega) (by omega) | rfl)) rfl ?_
          refine Lx.y (add rfl rfl (by first | exact wrap64 (by omega) (by omega) | rfl)) rfl ?_
          refine Lx.y (asg rfl) rfl ?_
          refine Lx.nil ?_
          refine Xx.bn ?_
          refine Xx.dropB b18 ?_
          refine Xx.perm (H' := sbuf 69 3 A2 (pre ++ [rx l a]).length c2 (flatF (pre ++ [rx l a])) * R) ?_ (by rw [flatF_snoc, List.length_append]; rfl)
          exact Xx.againK ⟨n, a + (12 + refN ((l.take (a + 4)).drop a)), pre ++ [rx l a], A2, c2, _, ⟨hxs2, hes2, by omega, by omega, rfl⟩, rfl, rfl, rfl, rfl⟩ (by omega) (Sub.consE (s := 4) rfl (by rw [List.length_append]; rfl) (Sub.cons (s := 5) rfl (Sub.cons (s := 0) rfl (Sub.cons (s := 2) rfl (Sub.cons (s := 3) rfl (Sub.cons (s := 8) rfl (Sub.nil _)))))))
  · skip
    have q0 := h6
    have hnr : ¬ rIs l a := fun h => q0 (by have := h.1; omega)
    have hd1 : rscanL l = pre := by rw [hxs, rscanF, if_neg hnr]; simp
    have hd2 : rendL l = a := by rw [hes, rendF, if_neg hnr]
    refine Cx.exit ?_
    refine Xx.te ?_
    refine Xx.te ?_
    refine Xx.bh ?_
    refine Xx.tn (k3 _ _ _ _ ?_)
    refine Cx.seq (fun K18 k18 => ?_)
    refine Cx.region ?_
    refine Lx.y (mv rfl) rfl ?_
    refine Lx.y (mv rfl) rfl ?_
    refine Lx.y (asg rfl) rfl ?_
    refine Lx.y (asg rfl) rfl ?_
    refine Lx.nil ?_
    refine Xx.tn (k18 _ _ _ _ ?_)
    refine Cx.ret ?_
    refine Xx.freezeT A fun B3 hB3 hRo hnc _ => ?_
    exact Xx.rB2 rfl rfl rfl ⟨A, c, by rw [hd1, hd2], hd1 ▸ hRo, hd1 ▸ hnc⟩ hB3 rfl
end Fr4
end Go.Proofs.Ytgcebieihmlaoaa

/-
  The walks of awake and of the law of checks.
-/
namespace Go.Proofs.Ytgcebieihmlaoaa
open Go.SL Go.RowKit
set_option linter.unusedVariables false
set_option linter.unusedSimpArgs false
set_option maxRecDepth 100000
open Fr1 Fr2 Fr3 Fr4
namespace Fr5


def T4 : List UInt8 := [116, 101, 120, 116]
def AW : List UInt8 := headL T4 ++ T4
theorem aw_make : makeV T4 = .tuple #[str AW, i64 0] := rfl
theorem aw_scan : scanL AW = [⟨12, T4, true⟩] := by kernel_rfl
theorem aw_len : AW.length = 16 := rfl
theorem aw_crc : crc [49, 50, 51, 52, 53, 54, 55, 56, 57] = 3421780262#32 := by kernel_rfl
theorem AwMake_ct (B : Frag) : CtP Try.prog 59 [str T4] B (.tuple #[str AW, i64 0]) := Make_ct T4 B (by decide)
theorem AwScan_ct (B : Frag) : CtB Try.prog 58 [str AW] B (fun v B' => ∃ b cs et fz c o, v = .tuple #[.slice (some ⟨b, o, none⟩) 1 c, i64 16] ∧ B' b = some (.cells (List.toArray cs) et fz) ∧ cs[o + 1]? = some (str T4) ∧ cs[o + 2]? = some (.bool true) ∧ 1 ≤ c) :=
  (Scan_ct AW B (by decide)).mono fun v B' ⟨A, c, h1, ⟨h2, h3⟩, h4⟩ => by
    rw [aw_scan] at h1 h2 h3 h4
    rcases h3 with ⟨_, h3⟩ | ⟨b, o, cs, et, fz, rfl, h5, h6⟩
    · simp at h3
    · refine ⟨b, cs, et, fz, c, o, h1, h5, ?_, ?_, h4⟩
      · have := congrArg (·[1]?) h6
        simpa [flatF, List.getElem?_take, List.getElem?_drop] using this
      · have := congrArg (·[2]?) h6
        simpa [flatF, List.getElem?_take, List.getElem?_drop] using this
end Fr5
end Go.Proofs.Ytgcebieihmlaoaa

/-
  The law of checks: the walk, and that both checks are one function.
-/
namespace Go.Proofs.Ytgcebieihmlaoaa
open Go.SL Go.RowKit
set_option linter.unusedVariables false
set_option linter.unusedSimpArgs false
set_option maxRecDepth 100000
open Fr1 Fr2 Fr3 Fr4 Fr5
namespace Fr6


theorem crc_key (x : BitVec 32) : (3988292384#32 &&& -(x &&& 1#32)) = if x.getLsbD 0 then 3988292384#32 else 0#32 := by
  have h : x &&& 1#32 = if x.getLsbD 0 then 1#32 else 0#32 := by
    ext i hi
    simp only [BitVec.getElem_and, BitVec.getElem_one]
    cases i with
    | zero => cases hx : x.getLsbD 0 <;> simp_all [BitVec.getLsbD_eq_getElem]
    | succ i => cases hx : x.getLsbD 0 <;> simp
  rw [h]
  cases x.getLsbD 0 <;> decide
theorem crcBit_eq (x : BitVec 32) : crcBit x = (x >>> 1) ^^^ (if x.getLsbD 0 then 3988292384#32 else 0#32) := by unfold crcBit; rw [crc_key]
theorem xor_if (u v : Bool) (p q c : BitVec 32) : (p ^^^ q) ^^^ (if (u ^^ v) = true then c else 0#32) = (p ^^^ (if u = true then c else 0#32)) ^^^ (q ^^^ (if v = true then c else 0#32)) := by
  have e1 : (if (true : Bool) = true then c else 0#32) = c := rfl
  have e2 : (if (false : Bool) = true then c else 0#32) = 0#32 := rfl
  have h : ∀ b : Bool, (false ^^ b) = b ∧ (true ^^ false) = true ∧ (true ^^ true) = false := by decide
  cases u <;> cases v
  · rw [(h false).1, e2, BitVec.xor_zero, BitVec.xor_zero, BitVec.xor_zero]
  · rw [(h true).1, e1, e2, BitVec.xor_zero, BitVec.xor_assoc]
  · rw [(h true).2.1, e1, e2, BitVec.xor_zero, BitVec.xor_assoc, BitVec.xor_comm q c, ← BitVec.xor_assoc]
  · rw [(h true).2.2, e1, e2, BitVec.xor_zero, BitVec.xor_comm q c, BitVec.xor_assoc p c, ← BitVec.xor_assoc c c q, BitVec.xor_self, BitVec.zero_xor]
theorem crcBit_xor (a b : BitVec 32) : crcBit (a ^^^ b) = crcBit a ^^^ crcBit b := by
  rw [crcBit_eq, crcBit_eq, crcBit_eq, BitVec.getLsbD_xor, BitVec.ushiftRight_xor_distrib]
  exact xor_if _ _ _ _ _
theorem crcBits_xor (n : Nat) (a b : BitVec 32) : crcBits n (a ^^^ b) = crcBits n a ^^^ crcBits n b := by
  induction n with
  | zero => rfl
  | succ n ih => simp only [crcBits, ih, crcBit_xor]
theorem halfBit_eq (h : BitVec 32) : halfBit h = crcBit h := by
  rw [crcBit_eq]
  unfold halfBit
  have h2 : h / 2#32 = h >>> 1 := by
    apply BitVec.eq_of_toNat_eq
    simp [BitVec.toNat_udiv, Nat.shiftRight_eq_div_pow]
  have h3 : (h % 2#32 = 1#32) ↔ h.getLsbD 0 = true := by
    rw [← BitVec.toNat_inj]
    simp [BitVec.toNat_umod, BitVec.getLsbD, Nat.testBit_zero]
  by_cases hh : h % 2#32 = 1#32
  · rw [if_pos hh, if_pos (h3.1 hh), h2]
  · rw [if_neg hh, if_neg (fun x => hh (h3.2 x)), h2]; simp
theorem halfBits_eq (n : Nat) (h : BitVec 32) : halfBits n h = crcBits n h := by
  induction n with
  | zero => rfl
  | succ n ih => simp only [crcBits, halfBits, ih, halfBit_eq]
theorem crcBits_hi (x : BitVec 32) (k : Nat) (hk : k ≤ 4) : crcBits k ((x >>> 4) <<< 4) = ((x >>> 4) <<< 4) >>> k := by
  induction k with
  | zero => simp [crcBits]
  | succ k ih =>
    simp only [crcBits]
    rw [ih (by omega), crcBit_eq]
    have : (((x >>> 4) <<< 4) >>> k).getLsbD 0 = false := by
      simp [BitVec.getLsbD_ushiftRight, BitVec.getLsbD_shiftLeft]; omega
    rw [this]
    simp [BitVec.shiftRight_add]
theorem refMid_eq (x : BitVec 32) : refMid x = crcBits 4 x := by
  unfold refMid
  rw [halfBits_eq]
  have e : x = ((x >>> 4) <<< 4) ^^^ (x % 16#32) := by
    have hm : x % 16#32 = x &&& 15#32 := by
      apply BitVec.eq_of_toNat_eq
      simp only [BitVec.toNat_umod, BitVec.toNat_and]
      exact (Nat.and_two_pow_sub_one_eq_mod x.toNat 4).symm
    rw [hm]
    ext i hi
    have h15 : (15#32)[i] = decide (i < 4) := by
      have : ∀ j : Fin 32, (15#32).getLsbD j.val = decide (j.val < 4) := by decide
      rw [← BitVec.getLsbD_eq_getElem]
      exact this ⟨i, hi⟩
    simp only [BitVec.getElem_xor, BitVec.getElem_and, BitVec.getElem_shiftLeft, BitVec.getLsbD_ushiftRight, h15]
    by_cases h4 : i < 4
    · simp [h4]
    · have : 4 + (i - 4) = i := by omega
      simp [h4, this, BitVec.getLsbD_eq_getElem hi]
  have e2 : crcBits 4 ((x >>> 4) <<< 4) = x / 16#32 := by
    rw [crcBits_hi x 4 (by omega)]
    have : x / 16#32 = x >>> 4 := by
      apply BitVec.eq_of_toNat_eq
      simp [BitVec.toNat_udiv, Nat.shiftRight_eq_div_pow]
    rw [this]
    ext i hi
    simp only [BitVec.getElem_ushiftRight, BitVec.getLsbD_shiftLeft, BitVec.getLsbD_ushiftRight]
    by_cases h4 : 4 + i < 32
    · simp [h4]
    · rw [BitVec.getLsbD_of_ge _ _ (by omega : 32 ≤ 4 + i)]; simp; omega
  conv => rhs; rw [e]
  rw [crcBits_xor, e2]
theorem crcTo_eq (l : List UInt8) (z : BitVec 32) : l.foldl crcStep z = l.foldl refStep z := by
  have hs : ∀ h b, crcStep h b = refStep h b := fun h b => by
    unfold crcStep refStep
    rw [refMid_eq, refMid_eq]; rfl
  induction l generalizing z with
  | nil => rfl
  | cons x l ih => simp only [List.foldl_cons, hs, ih]
theorem crc_eq (l : List UInt8) : crc l = refCrc l := by
  have ht : crcTo l = refTo l := crcTo_eq l _
  unfold crc refCrc
  rw [ht]
  exact (BitVec.allOnes_sub_eq_not _).symm
end Fr6
end Go.Proofs.Ytgcebieihmlaoaa

/-
  A frame is found again; the law of the greatest bodies.
-/
namespace Go.Proofs.Ytgcebieihmlaoaa
open Go.SL Go.RowKit
set_option linter.unusedVariables false
set_option linter.unusedSimpArgs false
set_option maxRecDepth 100000
open Fr1 Fr2 Fr3 Fr4 Fr5 Fr6
namespace Fr7
theorem ti5 : TI Try.prog 5 [.int .u8 0] 1 1 := TI.of (by kernel_rfl) rfl rfl

theorem toB_nat (x : Nat) : (toB (x : Nat)).toNat = x % 256 := by
  have h : (toB ((x : Nat) : Int)).toNat = (((x : Nat) : Int) % 256).toNat % 256 := by simp [toB]
  rw [h]; omega
theorem bit_bW (b : UInt8) (i : Nat) : (bW b).getLsbD i = (decide (i < 32) && b.toNat.testBit i) := by
  unfold bW
  have : BitVec.ofInt 32 ((b.toNat : Nat) : Int) = BitVec.ofNat 32 b.toNat := by simp
  rw [this, BitVec.getLsbD_ofNat]
theorem numL_four (n : BitVec 32) (r : List UInt8) : numL (fourL n ++ r) = n := by
  have h0 : (fourL n ++ r).getD 0 0 = toB (n.toNat : Nat) := rfl
  have h1 : (fourL n ++ r).getD 1 0 = toB ((n >>> 8).toNat : Nat) := rfl
  have h2 : (fourL n ++ r).getD 2 0 = toB ((n >>> 16).toNat : Nat) := rfl
  have h3 : (fourL n ++ r).getD 3 0 = toB ((n >>> 24).toNat : Nat) := rfl
  unfold numL
  rw [h0, h1, h2, h3]
  apply BitVec.eq_of_getLsbD_eq
  intro i hi
  have hm : ∀ x j : Nat, (x % 256).testBit j = (decide (j < 8) && x.testBit j) := fun x j => Nat.testBit_mod_two_pow x 8 j
  simp only [BitVec.getLsbD_or, BitVec.getLsbD_shiftLeft, bit_bW, toB_nat, hm, BitVec.toNat_ushiftRight, Nat.testBit_shiftRight]
  have hn : n.getLsbD i = n.toNat.testBit i := rfl
  rw [hn]
  by_cases c8 : i < 8
  · simp [c8, hi, show i < 16 by omega, show i < 24 by omega]
  · by_cases c16 : i < 16
    · simp [c8, hi, c16, show i < 24 by omega, show i - 8 < 8 by omega, show i - 8 < 32 by omega, show 8 + (i - 8) = i by omega]
    · by_cases c24 : i < 24
      · simp [c8, hi, c16, c24, show ¬ i - 8 < 8 by omega, show i - 16 < 8 by omega, show i - 16 < 32 by omega, show 16 + (i - 16) = i by omega]
      · simp [c8, hi, c16, c24, show ¬ i - 8 < 8 by omega, show ¬ i - 16 < 8 by omega, show i - 24 < 8 by omega, show i - 24 < 32 by omega, show 24 + (i - 24) = i by omega]
/-- the frame at a place, by what stands from there on -/
def nextT (t : List UInt8) (a : Nat) : Option Fm :=
  if t.length < 12 then none
  else if 65536 < (numL t).toNat then none
  else if ¬ numL (t.drop 4) = crc (t.take 4) then none
  else if t.length < 12 + (numL t).toNat then none
  else some ⟨a + 12, (t.drop 12).take (numL t).toNat, decide (numL (t.drop 8) = crc ((t.drop 12).take (numL t).toNat))⟩
theorem nextF_eq (l : List UInt8) (a : Nat) (ha : a ≤ l.length) : nextF l a = nextT (l.drop a) a := by
  have e1 : (l.take (a + 4)).drop a = (l.drop a).take 4 := by rw [List.drop_take]; congr 1; omega
  have e2 : ∀ n, (l.take (a + 12 + n)).drop (a + 12) = ((l.drop a).drop 12).take n := fun n => by rw [List.drop_take, List.drop_drop]; congr 1; omega
  unfold nextF nextT
  rw [e1, e2, List.drop_drop, List.drop_drop, List.length_drop]
  have c1 : ((l.length : Int) - a < 12) ↔ (l.length - a < 12) := by omega
  have c2 : ((65536 : Int) < ((numL (l.drop a)).toNat : Nat)) ↔ (65536 < (numL (l.drop a)).toNat) := by omega
  by_cases d1 : l.length - a < 12
  · rw [if_pos (c1.2 d1), if_pos d1]
  · rw [if_neg (fun h => d1 (c1.1 h)), if_neg d1]
    by_cases d2 : 65536 < (numL (l.drop a)).toNat
    · rw [if_pos (c2.2 d2), if_pos d2]
    · rw [if_neg (fun h => d2 (c2.1 h)), if_neg d2]
      by_cases d3 : ¬ numL (l.drop (a + 4)) = crc ((l.drop a).take 4)
      · rw [if_pos d3, if_pos d3]
      · rw [if_neg d3, if_neg d3]
        by_cases d4 : l.length - a < 12 + (numL (l.drop a)).toNat
        · rw [if_pos (by omega), if_pos d4]
        · rw [if_neg (by omega), if_neg d4, List.drop_drop]
theorem nextT_frame (l q : List UInt8) (a : Nat) (hl : l.length ≤ 65536) : nextT (headL l ++ (l ++ q)) a = some ⟨a + 12, l, true⟩ := by
  generalize hn : BitVec.ofInt 32 ((l.length : Nat) : Int) = n
  have hnn : n.toNat = l.length := by rw [← hn]; simp; omega
  have hh : headL l ++ (l ++ q) = fourL n ++ (fourL (crc (fourL n)) ++ (fourL (crc l) ++ (l ++ q))) := by unfold headL; rw [hn]; simp
  have t4 : (headL l ++ (l ++ q)).take 4 = fourL n := by rw [hh]; rfl
  have d4 : (headL l ++ (l ++ q)).drop 4 = fourL (crc (fourL n)) ++ (fourL (crc l) ++ (l ++ q)) := by rw [hh]; rfl
  have d8 : (headL l ++ (l ++ q)).drop 8 = fourL (crc l) ++ (l ++ q) := by rw [hh]; rfl
  have d12 : (headL l ++ (l ++ q)).drop 12 = l ++ q := by rw [hh]; rfl
  have m0 : numL (headL l ++ (l ++ q)) = n := by rw [hh]; exact numL_four _ _
  unfold nextT
  rw [t4, d4, d8, d12, m0, numL_four, numL_four, hnn, if_neg (by simp), if_neg (by omega), if_neg (by simp), if_neg (by simp)]
  simp
theorem nextF_frame (p l q : List UInt8) (hl : l.length ≤ 65536) : nextF (p ++ (headL l ++ (l ++ q))) p.length = some ⟨p.length + 12, l, true⟩ := by
  rw [nextF_eq _ _ (by simp), List.drop_left]
  exact nextT_frame l q _ hl
theorem nextF_end (s : List UInt8) : nextF s s.length = none := by
  unfold nextF; rw [if_pos (by omega)]
theorem scan_one (l : List UInt8) (hl : l.length ≤ 65536) : scanL (headL l ++ l) = [⟨12, l, true⟩] := by
  have h1 : nextF (headL l ++ l) 0 = some ⟨12, l, true⟩ := by simpa using nextF_frame [] l [] hl
  have h2 : nextF (headL l ++ l) (12 + l.length) = none := by
    have := nextF_end (headL l ++ l)
    simpa using this
  unfold scanL
  have e1 : nx (headL l ++ l) 0 = ⟨12, l, true⟩ := by unfold nx; rw [h1]; rfl
  rw [scanF, if_pos (by rw [h1]; rfl), e1]
  obtain ⟨m, hm⟩ : ∃ m, (headL l ++ l).length = m + 1 := ⟨11 + l.length, by simp; omega⟩
  rw [hm, scanF, if_neg (by rw [h2]; simp)]
theorem and3 (n : Int) : ∃ r : Nat, r ≤ 3 ∧ bAnd .i64 n 3 = ((r : Nat) : Int) := by
  refine ⟨(BitVec.ofInt 64 n &&& BitVec.ofInt 64 3).toNat, ?_, ?_⟩
  · rw [BitVec.toNat_and]; exact Nat.and_le_right
  · have h : (BitVec.ofInt 64 n &&& BitVec.ofInt 64 3).toNat ≤ 3 := by rw [BitVec.toNat_and]; exact Nat.and_le_right
    show IntKind.i64.wrap (((BitVec.ofInt 64 n &&& BitVec.ofInt 64 3).toNat : Nat) : Int) = _
    exact wrap64 (by omega) (by omega)
theorem u8s_rep (k : Nat) : u8s (List.replicate k 0) = List.replicate k (.int .u8 0) := by simp [u8s]
theorem MakeY_ct (l : List UInt8) (B : Frag) (hl : l.length ≤ 65536) : CtP Try.prog 59 [str l] B (.tuple #[str (headL l ++ l), i64 0]) := by
  have := Make_ct l B (Nat.le_trans hl (by decide))
  unfold makeV at this
  rw [if_neg (by omega)] at this
  exact this
theorem MakeN_ct (l : List UInt8) (B : Frag) (hl : l.length ≤ 1048576) (h : 65536 < l.length) : CtP Try.prog 59 [str l] B (.tuple #[str [], i64 3]) := by
  have := Make_ct l B (Nat.le_trans hl (by decide))
  unfold makeV at this
  rw [if_pos (by omega)] at this
  exact this
theorem ScanOne_ct (l : List UInt8) (B : Frag) (hl : l.length ≤ 65536) : CtB Try.prog 58 [str (headL l ++ l)] B (fun v B' => ∃ b cs et fz c o, v = .tuple #[.slice (some ⟨b, o, none⟩) 1 c, i64 ((12 + l.length : Nat) : Int)] ∧ B' b = some (.cells (List.toArray cs) et fz) ∧ cs[o + 1]? = some (str l) ∧ cs[o + 2]? = some (.bool true) ∧ 1 ≤ c) :=
  (Scan_ct (headL l ++ l) B (by simp; omega)).mono fun v B' ⟨A, c, h1, ⟨h2, h3⟩, h4⟩ => by
    rw [scan_one l hl] at h1 h2 h3 h4
    rcases h3 with ⟨_, h3⟩ | ⟨b, o, cs, et, fz, rfl, h5, h6⟩
    · simp at h3
    · refine ⟨b, cs, et, fz, c, o, h1, h5, ?_, ?_, h4⟩
      · have := congrArg (·[1]?) h6
        simpa [flatF, List.getElem?_take, List.getElem?_drop] using this
      · have := congrArg (·[2]?) h6
        simpa [flatF, List.getElem?_take, List.getElem?_drop] using this
end Fr7
end Go.Proofs.Ytgcebieihmlaoaa

/-
  The scan is the reference: plain laws.
-/
namespace Go.Proofs.Ytgcebieihmlaoaa
open Go.SL Go.RowKit
set_option linter.unusedVariables false
set_option linter.unusedSimpArgs false
set_option maxRecDepth 100000
open Fr1 Fr2 Fr3 Fr4 Fr5 Fr6 Fr7
namespace Fr8


theorem toB_eq {x y : Nat} (h : x % 256 = y % 256) : toB (x : Nat) = toB (y : Nat) := by
  apply UInt8.toNat_inj.1
  rw [toB_nat, toB_nat, h]
theorem toB_of {x : Nat} {b : UInt8} (h : x % 256 = b.toNat) : toB (x : Nat) = b := by
  apply UInt8.toNat_inj.1
  rw [toB_nat, h]
theorem refFour_eq (n : BitVec 32) : refFourL n = fourL n := by
  have hn := n.isLt
  have c : ∀ k, (n >>> k).toNat = n.toNat / 2 ^ k := fun k => by rw [BitVec.toNat_ushiftRight, Nat.shiftRight_eq_div_pow]
  unfold refFourL fourL
  have e0 : (n % 256#32).toNat = n.toNat % 256 := by rw [BitVec.toNat_umod]; rfl
  have e1 : (n / 256#32 % 256#32).toNat = n.toNat / 256 % 256 := by rw [BitVec.toNat_umod, BitVec.toNat_udiv]; rfl
  have e2 : (n / 65536#32 % 256#32).toNat = n.toNat / 65536 % 256 := by rw [BitVec.toNat_umod, BitVec.toNat_udiv]; rfl
  have e3 : (n / 16777216#32).toNat = n.toNat / 16777216 := by rw [BitVec.toNat_udiv]; rfl
  rw [e0, e1, e2, e3, c, c, c]
  rw [toB_eq (show n.toNat % 256 % 256 = n.toNat % 256 by omega), toB_eq (show n.toNat / 256 % 256 % 256 = n.toNat / 2 ^ 8 % 256 by omega), toB_eq (show n.toNat / 65536 % 256 % 256 = n.toNat / 2 ^ 16 % 256 by omega), toB_eq (show n.toNat / 16777216 % 256 = n.toNat / 2 ^ 24 % 256 by omega)]
theorem take_four (t : List UInt8) (h : 4 ≤ t.length) : t.take 4 = fourL (BitVec.ofNat 32 (refN t)) := by
  match t, h with
  | b0 :: b1 :: b2 :: b3 :: r, _ =>
    have h0 := b0.toNat_lt
    have h1 := b1.toNat_lt
    have h2 := b2.toNat_lt
    have h3 := b3.toNat_lt
    have hr : refN (b0 :: b1 :: b2 :: b3 :: r) = b0.toNat + b1.toNat * 256 + b2.toNat * 65536 + b3.toNat * 16777216 := rfl
    rw [hr]
    generalize hz : b0.toNat + b1.toNat * 256 + b2.toNat * 65536 + b3.toNat * 16777216 = z
    have hn : (BitVec.ofNat 32 z).toNat = z := by rw [BitVec.toNat_ofNat, Nat.mod_eq_of_lt (by omega)]
    unfold fourL
    rw [BitVec.toNat_ushiftRight, BitVec.toNat_ushiftRight, BitVec.toNat_ushiftRight, hn, Nat.shiftRight_eq_div_pow, Nat.shiftRight_eq_div_pow, Nat.shiftRight_eq_div_pow]
    rw [toB_of (show z % 256 = b0.toNat by omega), toB_of (show z / 2 ^ 8 % 256 = b1.toNat by omega), toB_of (show z / 2 ^ 16 % 256 = b2.toNat by omega), toB_of (show z / 2 ^ 24 % 256 = b3.toNat by omega)]
    rfl
theorem numL_ref (t : List UInt8) (h : 4 ≤ t.length) : numL t = BitVec.ofNat 32 (refN t) := by
  have h1 : t = fourL (BitVec.ofNat 32 (refN t)) ++ t.drop 4 := by rw [← take_four t h, List.take_append_drop]
  conv => lhs; rw [h1]
  exact numL_four _ _
theorem numL_nat (t : List UInt8) (h : 4 ≤ t.length) : (numL t).toNat = refN t := by
  rw [numL_ref t h, BitVec.toNat_ofNat, Nat.mod_eq_of_lt (refN_lt t)]
theorem refN_take (t : List UInt8) : refN (t.take 4) = refN t := by
  unfold refN
  simp [List.getD, List.getElem?_take]
theorem four_num {t : List UInt8} {c : BitVec 32} (h : 4 ≤ t.length) : fourL c = t.take 4 ↔ numL t = c := by
  constructor
  · intro e
    have h1 : t = fourL c ++ t.drop 4 := by rw [e, List.take_append_drop]
    rw [h1]; exact numL_four _ _
  · intro e
    rw [← e, numL_ref t h, take_four t h]
theorem next_ref (l : List UInt8) (a : Nat) (ha : a ≤ l.length) : nextF l a = if rIs l a then some (rx l a) else none := by
  have e1 : (l.take (a + 4)).drop a = (l.drop a).take 4 := by rw [List.drop_take]; congr 1; omega
  have e3 : (l.take (a + 8)).drop (a + 4) = ((l.drop a).drop 4).take 4 := by rw [List.drop_take, List.drop_drop]; congr 1; omega
  have e4 : (l.take (a + 12)).drop (a + 8) = ((l.drop a).drop 8).take 4 := by rw [List.drop_take, List.drop_drop]; congr 1; omega
  have e2 : ∀ n, (l.take (a + 12 + n)).drop (a + 12) = ((l.drop a).drop 12).take n := fun n => by rw [List.drop_take, List.drop_drop]; congr 1; omega
  have hlen : (l.drop a).length = l.length - a := List.length_drop
  have hR : rIs l a ↔ (a + 12 ≤ l.length ∧ refN (l.drop a) ≤ 65536 ∧ fourL (crc ((l.drop a).take 4)) = ((l.drop a).drop 4).take 4 ∧ a + 12 + refN (l.drop a) ≤ l.length) := by
    unfold rIs
    rw [e1, e3, refN_take, refFour_eq, ← crc_eq]
  have hX : rx l a = ⟨a + 12, ((l.drop a).drop 12).take (refN (l.drop a)), decide (fourL (crc (((l.drop a).drop 12).take (refN (l.drop a)))) = ((l.drop a).drop 8).take 4)⟩ := by
    unfold rx rB
    rw [e1, e4, e2, refN_take, refFour_eq, ← crc_eq]
  rw [nextF_eq l a ha, hX]
  unfold nextT
  generalize l.drop a = t at *
  by_cases d1 : t.length < 12
  · rw [if_pos d1, if_neg (fun h => by have := (hR.1 h).1; omega)]
  · have h4 : 4 ≤ t.length := by omega
    have h8 : 4 ≤ (t.drop 4).length := by rw [List.length_drop]; omega
    have h12 : 4 ≤ (t.drop 8).length := by rw [List.length_drop]; omega
    rw [if_neg d1, numL_nat t h4]
    by_cases d2 : 65536 < refN t
    · rw [if_pos d2, if_neg (fun h => by have := (hR.1 h).2.1; omega)]
    · rw [if_neg d2]
      by_cases d3 : numL (t.drop 4) = crc (t.take 4)
      · rw [if_neg (by simpa using d3)]
        by_cases d4 : t.length < 12 + refN t
        · rw [if_pos d4, if_neg (fun h => by have := (hR.1 h).2.2.2; omega)]
        · rw [if_neg d4, if_pos (hR.2 ⟨by omega, by omega, (four_num h8).2 d3, by omega⟩)]
          congr 2
          exact decide_eq_decide.2 (four_num h12).symm
      · rw [if_pos d3, if_neg (fun h => d3 ((four_num h8).1 (hR.1 h).2.2.1))]
theorem scan_ref (l : List UInt8) : ∀ (n a : Nat), a ≤ l.length → scanF l n a = rscanF l n a := by
  intro n
  induction n with
  | zero => intro a _; rfl
  | succ n ih =>
    intro a ha
    have h1 := next_ref l a ha
    unfold scanF rscanF
    by_cases h : rIs l a
    · rw [if_pos h] at h1
      have hx : nx l a = rx l a := by unfold nx; rw [h1]; rfl
      have hb := nx_bound ha (by rw [h1]; rfl)
      rw [if_pos (by rw [h1]; rfl), if_pos h, hx, ih _ (by rw [hx] at hb; exact hb.2)]
      have : (rx l a).pos + (rx l a).body.length = a + (12 + refN ((l.take (a + 4)).drop a)) := by
        have h4 := h.2.2.2
        unfold rx rB
        simp only [List.length_drop, List.length_take]
        generalize refN _ = z at *
        omega
      rw [this]
    · rw [if_neg h] at h1
      rw [if_neg (by rw [h1]; simp), if_neg h]
theorem end_ref (l : List UInt8) : ∀ (n a : Nat), a ≤ l.length → rendF l n a = match (rscanF l n a).getLast? with | none => a | some f => f.pos + f.body.length := by
  intro n
  induction n with
  | zero => intro a _; rfl
  | succ n ih =>
    intro a ha
    unfold rendF rscanF
    by_cases h : rIs l a
    · rw [if_pos h, if_pos h]
      have h4 := h.2.2.2
      have : (rx l a).pos + (rx l a).body.length = a + (12 + refN ((l.take (a + 4)).drop a)) := by
        unfold rx rB
        simp only [List.length_drop, List.length_take]
        generalize refN _ = z at *
        omega
      rw [ih _ (by omega)]
      cases hc : rscanF l n (a + (12 + refN ((l.take (a + 4)).drop a))) with
      | nil => simp [this]
      | cons x xs =>
        rw [List.getLast?_cons_cons, List.getLast?_eq_some_getLast (List.cons_ne_nil x xs)]
    · rw [if_neg h, if_neg h]; rfl
theorem scan_same (l : List UInt8) : scanL l = rscanL l := scan_ref l _ 0 (by omega)
theorem end_same (l : List UInt8) : rendL l = endL (scanL l) := by
  rw [scan_same]
  unfold rendL rscanL endL
  rw [end_ref l _ 0 (by omega)]
  all_goals (cases (rscanF l (l.length + 1) 0).getLast? <;> rfl)
theorem refFrame_eq (l : List UInt8) : refFrameL l = headL l ++ l := by
  unfold refFrameL headL
  rw [refFour_eq, refFour_eq, refFour_eq, ← crc_eq, ← crc_eq]
end Fr8
end Go.Proofs.Ytgcebieihmlaoaa

/-
  Frames that are cut or turned: plain laws.
-/
namespace Go.Proofs.Ytgcebieihmlaoaa
open Go.SL Go.RowKit
set_option linter.unusedVariables false
set_option linter.unusedSimpArgs false
set_option maxRecDepth 100000
open Fr1 Fr2 Fr3 Fr4 Fr5 Fr6 Fr7 Fr8
namespace FrA


/-- a text with one byte put in another's place -/
def fl (l : List UInt8) (k : Nat) (b : UInt8) : List UInt8 := l.take k ++ b :: l.drop (k + 1)
theorem fl_left {u w : List UInt8} {k : Nat} {b : UInt8} (h : k < u.length) : fl (u ++ w) k b = fl u k b ++ w := by
  unfold fl
  rw [List.take_append_of_le_length (by omega), List.drop_append_of_le_length (by omega)]
  simp
theorem fl_right (u w : List UInt8) (k : Nat) (b : UInt8) : fl (u ++ w) (u.length + k) b = u ++ fl w k b := by
  unfold fl
  rw [List.take_length_add_append, Nat.add_assoc, List.drop_length_add_append]
  simp
theorem fl_len {l : List UInt8} {k : Nat} {b : UInt8} (h : k < l.length) : (fl l k b).length = l.length := by
  unfold fl; simp; omega
theorem fl_split {l : List UInt8} {k : Nat} (h : k < l.length) : l = l.take k ++ l.getD k 0 :: l.drop (k + 1) := by
  have : l.getD k 0 = l[k] := by simp [List.getD, h]
  rw [this, List.getElem_cons_drop, List.take_append_drop]
theorem bW_inj {a b : UInt8} (h : bW a = bW b) : a = b := by
  have e : ∀ c : UInt8, (bW c).toNat = c.toNat := fun c => by
    have := c.toNat_lt
    unfold bW; simp
  apply UInt8.toNat_inj.1
  rw [← e a, ← e b, h]
theorem crcBit_zero {x : BitVec 32} (h : crcBit x = 0#32) : x = 0#32 := by
  rw [crcBit_eq] at h
  cases h0 : x.getLsbD 0 with
  | true =>
    rw [h0] at h
    have := congrArg (fun z => z.getLsbD 31) h
    simp only [if_true, BitVec.getLsbD_xor, BitVec.getLsbD_ushiftRight] at this
    rw [BitVec.getLsbD_of_ge x (1 + 31) (by omega)] at this
    exact absurd this (by decide)
  | false =>
    rw [h0] at h
    simp at h
    apply BitVec.eq_of_getLsbD_eq
    intro i hi
    cases i with
    | zero => rw [h0]; rfl
    | succ i =>
      have := congrArg (fun z => z.getLsbD i) h
      simpa [BitVec.getLsbD_ushiftRight, Nat.add_comm] using this
theorem crcBit_inj {a b : BitVec 32} (h : crcBit a = crcBit b) : a = b := by
  have : crcBit (a ^^^ b) = 0#32 := by rw [crcBit_xor, h, BitVec.xor_self]
  exact BitVec.xor_eq_zero_iff.1 (crcBit_zero this)
theorem crcBits_inj {n : Nat} {a b : BitVec 32} (h : crcBits n a = crcBits n b) : a = b := by
  induction n with
  | zero => exact h
  | succ n ih => exact ih (crcBit_inj h)
theorem xor_cancel {a b c : BitVec 32} (h : a ^^^ c = b ^^^ c) : a = b := by
  have := congrArg (· ^^^ c) h
  simpa [BitVec.xor_assoc] using this
theorem step_inj {h g : BitVec 32} {b : UInt8} (e : crcStep h b = crcStep g b) : h = g := xor_cancel (crcBits_inj (n := 8) e)
theorem step_inj2 {h : BitVec 32} {b c : UInt8} (e : crcStep h b = crcStep h c) : b = c := by
  have := crcBits_inj (n := 8) e
  apply bW_inj
  rw [BitVec.xor_comm h, BitVec.xor_comm h] at this
  exact xor_cancel this
theorem fold_inj (l : List UInt8) {h g : BitVec 32} (e : l.foldl crcStep h = l.foldl crcStep g) : h = g := by
  induction l generalizing h g with
  | nil => exact e
  | cons x l ih => exact step_inj (ih e)
theorem crc_fl {l : List UInt8} {k : Nat} {b : UInt8} (h : k < l.length) (hb : b ≠ l.getD k 0) : crc (fl l k b) ≠ crc l := by
  intro e
  have e1 : crcTo (fl l k b) = crcTo l := by
    have := congrArg (fun z => ~~~z) e
    simpa [crc] using this
  rw [fl_split h] at e1
  unfold crcTo fl at e1
  rw [← fl_split h] at e1
  rw [List.foldl_append, List.foldl_cons] at e1
  have e2 : List.foldl crcStep 4294967295#32 l = List.foldl crcStep (crcStep (List.foldl crcStep 4294967295#32 (l.take k)) (l.getD k 0)) (l.drop (k + 1)) := by
    conv => lhs; rw [fl_split h]
    rw [List.foldl_append, List.foldl_cons]
  rw [e2] at e1
  exact hb (step_inj2 (fold_inj _ e1))
theorem fl_ne {l : List UInt8} {k : Nat} {b : UInt8} (h : k < l.length) (hb : b ≠ l.getD k 0) : fl l k b ≠ l := fun e => crc_fl h hb (by rw [e])

theorem numL_app {u : List UInt8} (r : List UInt8) (h : u.length = 4) : numL (u ++ r) = numL u := by
  match u, h with
  | [a, b, c, d], _ => rfl
theorem nextT_parts {u v g : List UInt8} (y : List UInt8) (a : Nat) (hu : u.length = 4) (hv : v.length = 4) (hg : g.length = 4) :
    nextT (u ++ (v ++ (g ++ y))) a = if 65536 < (numL u).toNat then none else if ¬ numL v = crc u then none else if y.length < (numL u).toNat then none
      else some ⟨a + 12, y.take (numL u).toNat, decide (numL g = crc (y.take (numL u).toNat))⟩ := by
  have t4 : (u ++ (v ++ (g ++ y))).take 4 = u := List.take_left' hu
  have d4 : (u ++ (v ++ (g ++ y))).drop 4 = v ++ (g ++ y) := List.drop_left' hu
  have d8 : (u ++ (v ++ (g ++ y))).drop 8 = g ++ y := by rw [← List.append_assoc]; exact List.drop_left' (by simp [hu, hv])
  have d12 : (u ++ (v ++ (g ++ y))).drop 12 = y := by rw [← List.append_assoc, ← List.append_assoc]; exact List.drop_left' (by simp [hu, hv, hg])
  have hl : (u ++ (v ++ (g ++ y))).length = 12 + y.length := by simp [hu, hv, hg]; omega
  unfold nextT
  rw [t4, d4, d8, d12, hl, numL_app _ hu, numL_app _ hv, numL_app _ hg, if_neg (by omega)]
  simp only [Nat.add_lt_add_iff_left]

structure Ck where
  tx : List UInt8
  bd : List UInt8
  gd : Bool
def Ck.ok (c : Ck) : Prop := c.tx.length = 12 + c.bd.length ∧ ∀ r a, nextT (c.tx ++ r) a = some ⟨a + 12, c.bd, c.gd⟩
def cat (cs : List Ck) : List UInt8 := (cs.map (·.tx)).flatten
@[simp] theorem cat_nil : cat [] = [] := rfl
@[simp] theorem cat_cons (c : Ck) (cs : List Ck) : cat (c :: cs) = c.tx ++ cat cs := rfl
@[simp] theorem cat_app (a b : List Ck) : cat (a ++ b) = cat a ++ cat b := by simp [cat]
def fms : List Ck → Nat → List Fm
  | [], _ => []
  | c :: cs, a => ⟨a + 12, c.bd, c.gd⟩ :: fms cs (a + c.tx.length)
theorem scan_cat : ∀ (cs : List Ck), (∀ c ∈ cs, c.ok) → ∀ (p q : List UInt8) (n : Nat), cs.length ≤ n →
    scanF (p ++ (cat cs ++ q)) n p.length = fms cs p.length ++ scanF (p ++ (cat cs ++ q)) (n - cs.length) (p.length + (cat cs).length) := by
  intro cs
  induction cs with
  | nil => intro _ p q n _; simp [fms]
  | cons c cs ih =>
    intro hok p q n hn
    obtain ⟨m, rfl⟩ : ∃ m, n = m + 1 := ⟨n - 1, by simp at hn; omega⟩
    have hc := hok c (by simp)
    have h1 : nextF (p ++ (cat (c :: cs) ++ q)) p.length = some ⟨p.length + 12, c.bd, c.gd⟩ := by
      rw [nextF_eq _ _ (by simp), List.drop_left, cat_cons, List.append_assoc]
      exact hc.2 _ _
    have h2 : nx (p ++ (cat (c :: cs) ++ q)) p.length = ⟨p.length + 12, c.bd, c.gd⟩ := by unfold nx; rw [h1]; rfl
    have h3 := ih (fun x hx => hok x (by simp [hx])) (p ++ c.tx) q m (by simpa using hn)
    have e : p ++ c.tx ++ (cat cs ++ q) = p ++ (cat (c :: cs) ++ q) := by simp
    rw [e] at h3
    rw [scanF, if_pos (by rw [h1]; rfl), h2]
    have l1 : (p ++ c.tx).length = p.length + c.tx.length := List.length_append
    have l2 : p.length + 12 + c.bd.length = (p ++ c.tx).length := by rw [l1, hc.1]; omega
    simp only [fms, List.cons_append]
    rw [l2, h3, l1]
    congr 2
    simp [Nat.add_assoc]
theorem cat_len {cs : List Ck} (h : ∀ c ∈ cs, c.ok) : cs.length ≤ (cat cs).length := by
  induction cs with
  | nil => simp
  | cons c cs ih =>
    have h1 := (h c (by simp)).1
    have h2 := ih (fun x hx => h x (by simp [hx]))
    simp; omega
theorem scan_all {cs : List Ck} (h : ∀ c ∈ cs, c.ok) {q : List UInt8} (hq : ∀ a, nextT q a = none) : scanL (cat cs ++ q) = fms cs 0 := by
  have h1 := scan_cat cs h [] q ((cat cs ++ q).length + 1) (by have := cat_len h; simp; omega)
  simp only [List.nil_append, List.length_nil, Nat.zero_add] at h1
  unfold scanL
  rw [h1]
  cases (cat cs ++ q).length + 1 - cs.length with
  | zero => simp [scanF]
  | succ n =>
    have : nextF (cat cs ++ q) (cat cs).length = none := by rw [nextF_eq _ _ (by simp), List.drop_left]; exact hq _
    rw [scanF, if_neg (by rw [this]; simp)]
    simp
theorem fms_len (cs : List Ck) (a : Nat) : (fms cs a).length = cs.length := by
  induction cs generalizing a with
  | nil => rfl
  | cons c cs ih => simp [fms, ih]
theorem fms_good (cs : List Ck) (a : Nat) : ((fms cs a).filter (·.good)).length = (cs.filter (·.gd)).length := by
  induction cs generalizing a with
  | nil => rfl
  | cons c cs ih => cases h : c.gd <;> simp [fms, h, ih]
theorem fms_end {cs : List Ck} (h : ∀ c ∈ cs, c.ok) (hn : cs ≠ []) (a : Nat) : endL (fms cs a) = a + (cat cs).length := by
  induction cs generalizing a with
  | nil => exact absurd rfl hn
  | cons c cs ih =>
    have h1 := (h c (by simp)).1
    cases cs with
    | nil => simp [fms, endL]; omega
    | cons d cs =>
      have h2 := ih (fun x hx => h x (by simp [hx])) (by simp) (a + c.tx.length)
      have : endL (fms (c :: d :: cs) a) = endL (fms (d :: cs) (a + c.tx.length)) := by
        unfold endL
        simp [fms, List.getLast?_cons_cons]
      rw [this, h2]
      simp; omega

def fr (l : List UInt8) : Ck := ⟨headL l ++ l, l, true⟩
theorem fr_ok {l : List UInt8} (h : l.length ≤ 65536) : (fr l).ok := ⟨by simp [fr], fun r a => by
  have := nextT_frame l r a h
  simpa [fr] using this⟩
theorem nil_none (a : Nat) : nextT [] a = none := by unfold nextT; rw [if_pos (by simp)]
theorem headL_parts (l : List UInt8) : headL l = fourL (BitVec.ofInt 32 (l.length : Nat)) ++ (fourL (crc (fourL (BitVec.ofInt 32 (l.length : Nat)))) ++ fourL (crc l)) := by unfold headL; simp
theorem four_nat {n : Nat} (h : n ≤ 65536) : (numL (fourL (BitVec.ofInt 32 (n : Nat)))).toNat = n := by
  have := numL_four (BitVec.ofInt 32 (n : Nat)) []
  rw [List.append_nil] at this
  rw [this]; simp; omega
theorem part_none {l : List UInt8} (h : l.length ≤ 65536) {j : Nat} (hj : j < (fr l).tx.length) (a : Nat) : nextT ((fr l).tx.take j) a = none := by
  by_cases h12 : j < 12
  · unfold nextT; rw [if_pos (by simp; omega)]
  · have hl : (fr l).tx.length = 12 + l.length := by simp [fr]
    have e : (fr l).tx.take j = headL l ++ l.take (j - 12) := by
      show (headL l ++ l).take j = _
      rw [List.take_append, List.take_of_length_le (by simp; omega)]
      simp
    rw [e, headL_parts, List.append_assoc, List.append_assoc, nextT_parts _ _ (fourL_len _) (fourL_len _) (fourL_len _), four_nat h]
    rw [if_neg (by omega), if_neg (by simpa using numL_four (crc (fourL (BitVec.ofInt 32 (l.length : Nat)))) []), if_pos (by simp; omega)]
theorem torn1 {fs : List (List UInt8)} (h : ∀ x ∈ fs, x.length ≤ 65536) {w N : Nat} (hw : w ≤ fs.length) (h1 : (cat ((fs.take w).map fr)).length ≤ N)
    (h2 : w < fs.length → N < (cat ((fs.take (w + 1)).map fr)).length) (hN : N ≤ (cat (fs.map fr)).length) : scanL ((cat (fs.map fr)).take N) = fms ((fs.take w).map fr) 0 := by
  have e : cat (fs.map fr) = cat ((fs.take w).map fr) ++ cat ((fs.drop w).map fr) := by rw [← cat_app, ← List.map_append, List.take_append_drop]
  have hok : ∀ c ∈ (fs.take w).map fr, c.ok := by
    intro c hc
    obtain ⟨x, hx, rfl⟩ := List.mem_map.1 hc
    exact fr_ok (h x (List.mem_of_mem_take hx))
  rw [e, List.take_append, List.take_of_length_le h1]
  refine scan_all hok fun a => ?_
  by_cases hlt : w < fs.length
  · have ed : fs.drop w = fs[w] :: fs.drop (w + 1) := List.drop_eq_getElem_cons hlt
    have et : fs.take (w + 1) = fs.take w ++ [fs[w]] := List.take_succ_eq_append_getElem hlt
    have h3 := h2 hlt
    rw [et] at h3
    simp only [List.map_append, cat_app, List.length_append, List.map_cons, List.map_nil, cat_cons, cat_nil, List.append_nil] at h3
    rw [ed, List.map_cons, cat_cons, List.take_append_of_le_length (by omega)]
    exact part_none (h _ (List.getElem_mem hlt)) (by omega) a
  · rw [List.drop_eq_nil_of_le (by omega)]
    simpa using nil_none a
theorem at_cat {fs : List (List UInt8)} {k : Nat} (hk : k < (cat (fs.map fr)).length) : ∃ us x vs j, fs = us ++ x :: vs ∧ k = (cat (us.map fr)).length + j ∧ j < (fr x).tx.length := by
  induction fs generalizing k with
  | nil => simp at hk
  | cons y fs ih =>
    by_cases h : k < (fr y).tx.length
    · exact ⟨[], y, fs, k, rfl, by simp, h⟩
    · simp at hk
      obtain ⟨us, x, vs, j, h1, h2, h3⟩ := ih (k := k - (fr y).tx.length) (by omega)
      exact ⟨y :: us, x, vs, j, by simp [h1], by simp; omega, h3⟩
theorem getD_left {u w : List UInt8} {j : Nat} (h : j < u.length) : (u ++ w).getD j 0 = u.getD j 0 := by
  simp only [List.getD]; rw [List.getElem?_append_left h]
theorem getD_right (u w : List UInt8) (k : Nat) : (u ++ w).getD (u.length + k) 0 = w.getD k 0 := by
  simp only [List.getD]; rw [List.getElem?_append_right (by omega)]; congr 2; omega
theorem fr_parts (x : List UInt8) (hx : x.length ≤ 65536) : ∃ u v g : List UInt8, (fr x).tx = u ++ (v ++ (g ++ x)) ∧ u.length = 4 ∧ v.length = 4 ∧ g.length = 4 ∧ (numL u).toNat = x.length ∧ v = fourL (crc u) ∧ g = fourL (crc x) := by
  refine ⟨_, _, _, ?_, fourL_len (BitVec.ofInt 32 (x.length : Nat)), fourL_len _, fourL_len _, four_nat hx, rfl, rfl⟩
  show headL x ++ x = _
  rw [headL_parts]; simp
theorem numL_four' (n : BitVec 32) : numL (fourL n) = n := by simpa using numL_four n []
theorem numL_ne {v : List UInt8} {c : BitVec 32} (hv : v.length = 4) (h : v ≠ fourL c) : ¬ numL v = c := fun e => h (by
  have := (four_num (t := v) (c := c) (by omega)).2 e
  rw [this, List.take_of_length_le (by omega)])
theorem flip_head {x : List UInt8} (hx : x.length ≤ 65536) {j : Nat} (hj : j < 8) {b : UInt8} (hb : b ≠ (fr x).tx.getD j 0) (r : List UInt8) (a : Nat) : nextT (fl (fr x).tx j b ++ r) a = none := by
  obtain ⟨u, v, g, e, hu, hv, hg, hN, e1, e2⟩ := fr_parts x hx
  rw [e] at hb ⊢
  by_cases h4 : j < 4
  · rw [getD_left (by omega)] at hb
    rw [fl_left (by omega)]
    simp only [List.append_assoc]
    rw [nextT_parts _ _ (by rw [fl_len (by omega)]; exact hu) hv hg]
    have : ¬ numL v = crc (fl u j b) := by
      rw [e1, numL_four']
      exact fun h => crc_fl (by omega) hb h.symm
    rw [if_pos this]
    split <;> rfl
  · obtain ⟨k, rfl⟩ : ∃ k, j = u.length + k := ⟨j - 4, by omega⟩
    rw [getD_right, getD_left (by omega)] at hb
    rw [fl_right, fl_left (by omega)]
    simp only [List.append_assoc]
    rw [nextT_parts _ _ hu (by rw [fl_len (by omega)]; exact hv) hg]
    have : ¬ numL (fl v k b) = crc u := numL_ne (by rw [fl_len (by omega)]; exact hv) (fun h => fl_ne (by omega) hb (by rw [h, e1]))
    rw [if_pos this]
    split <;> rfl
theorem flip_tail {x : List UInt8} (hx : x.length ≤ 65536) {j : Nat} (hj : 8 ≤ j) (hj2 : j < (fr x).tx.length) {b : UInt8} (hb : b ≠ (fr x).tx.getD j 0) : ∃ y, (Ck.mk (fl (fr x).tx j b) y false).ok := by
  obtain ⟨u, v, g, e, hu, hv, hg, hN, e1, e2⟩ := fr_parts x hx
  rw [e] at hb hj2 ⊢
  have hnv : numL v = crc u := by rw [e1, numL_four']
  have hlen : (u ++ (v ++ (g ++ x))).length = 12 + x.length := by simp only [List.length_append]; omega
  by_cases h12 : j < 12
  · refine ⟨x, by show (fl _ _ _).length = _; rw [fl_len hj2, hlen], fun r a => ?_⟩
    show nextT (fl _ _ _ ++ r) a = _
    obtain ⟨k, rfl⟩ : ∃ k, j = u.length + (v.length + k) := ⟨j - 8, by omega⟩
    rw [getD_right, getD_right, getD_left (by omega)] at hb
    rw [fl_right, fl_right, fl_left (by omega)]
    simp only [List.append_assoc]
    rw [nextT_parts _ _ hu hv (by rw [fl_len (by omega)]; exact hg), hN, if_neg (by omega), if_neg (by simpa using hnv), if_neg (by simp), List.take_left]
    have : ¬ numL (fl g k b) = crc x := numL_ne (by rw [fl_len (by omega)]; exact hg) (fun h => fl_ne (by omega) hb (by rw [h, e2]))
    rw [decide_eq_false this]
  · obtain ⟨k, rfl⟩ : ∃ k, j = u.length + (v.length + (g.length + k)) := ⟨j - 12, by omega⟩
    rw [getD_right, getD_right, getD_right] at hb
    have hk : k < x.length := by omega
    refine ⟨fl x k b, by show (fl _ _ _).length = _; rw [fl_len hj2, hlen, fl_len hk], fun r a => ?_⟩
    show nextT (fl _ _ _ ++ r) a = _
    rw [fl_right, fl_right, fl_right]
    simp only [List.append_assoc]
    have ht : (fl x k b ++ r).take x.length = fl x k b := List.take_left' (fl_len hk)
    rw [nextT_parts _ _ hu hv hg, hN, if_neg (by omega), if_neg (by simpa using hnv), if_neg (by simp [fl_len hk]), ht]
    have : ¬ numL g = crc (fl x k b) := by
      rw [e2, numL_four']
      exact fun h => crc_fl hk hb h.symm
    rw [decide_eq_false this]
theorem torn2 {fs : List (List UInt8)} (h : ∀ x ∈ fs, x.length ≤ 65536) {k : Nat} (hk : k < (cat (fs.map fr)).length) {b : UInt8} (hb : b ≠ (cat (fs.map fr)).getD k 0) :
    ((scanL (fl (cat (fs.map fr)) k b)).filter (·.good)).length < fs.length := by
  obtain ⟨us, x, vs, j, rfl, rfl, hj⟩ := at_cat hk
  have ho : ∀ (ys : List (List UInt8)), (∀ y ∈ ys, y ∈ us ++ x :: vs) → ∀ c ∈ ys.map fr, c.ok := by
    intro ys hys c hc
    obtain ⟨y, hy, rfl⟩ := List.mem_map.1 hc
    exact fr_ok (h y (hys y hy))
  have hx := h x (by simp)
  have e : cat ((us ++ x :: vs).map fr) = cat (us.map fr) ++ ((fr x).tx ++ cat (vs.map fr)) := by simp
  rw [e] at hb ⊢
  have hb' : b ≠ (fr x).tx.getD j 0 := by
    have : (cat (us.map fr) ++ ((fr x).tx ++ cat (vs.map fr))).getD ((cat (us.map fr)).length + j) 0 = (fr x).tx.getD j 0 := by
      simp only [List.getD]
      rw [List.getElem?_append_right (by omega), List.getElem?_append_left (by omega)]
      congr 2; omega
    rwa [this] at hb
  rw [fl_right, fl_left hj]
  by_cases h8 : j < 8
  · rw [scan_all (ho us (fun y hy => by simp [hy])) (fun a => flip_head hx h8 hb' _ a), fms_good]
    have := List.length_filter_le (fun c : Ck => c.gd) (us.map fr)
    simp at this ⊢
    omega
  · obtain ⟨y, hy⟩ := flip_tail hx (by omega) hj hb'
    have hall : ∀ c ∈ us.map fr ++ (Ck.mk (fl (fr x).tx j b) y false) :: vs.map fr, c.ok := by
      intro c hc
      rcases List.mem_append.1 hc with h1 | h1
      · exact ho us (fun y hy => by simp [hy]) c h1
      · rcases List.mem_cons.1 h1 with rfl | h2
        · exact hy
        · exact ho vs (fun y hy => by simp [hy]) c h2
    have := scan_all hall nil_none
    simp only [cat_app, cat_cons, List.append_nil] at this
    rw [this, fms_good]
    have h1 := List.length_filter_le (fun c : Ck => c.gd) (us.map fr)
    have h2 := List.length_filter_le (fun c : Ck => c.gd) (vs.map fr)
    simp at h1 h2 ⊢
    omega
end FrA
end Go.Proofs.Ytgcebieihmlaoaa

/-
  From a law function's contract over the small separation logic to its row: nothing that was there has turned, and it answers true.
-/
namespace Go.SL
open Go.ChangeShapes Go.WideShapes Go.ChangeAt Go.RowKit
set_option linter.unusedVariables false
set_option linter.unusedSimpArgs false

/-- All that is there when the call begins. -/
def base (W : World) : Frag := fun b => W.heap[b]?
theorem St.begin (W : World) : St W.heap.size (base W) 1 W :=
  ⟨fun _ _ h => h, Nat.le_refl _, Frag.none, fun b o h => by simp [Frag.none] at h, rfl⟩

/-- A law's call: whatever is there, it answers true and turns nothing that was there. -/
theorem law_calls {P : Program} {f : FuncId} {args : List Value} {W : World} (h : CtB P f args (base W) (fun v _ => v = .bool true)) :
    Calls P f args.toArray W fun e w' => e = .returned (.bool true) ∧ Below W.heap.size W w' :=
  (h.2 W.heap.size W 1 (St.begin W)).mono fun e w' ⟨v, B', h1, h2, _, h3, _⟩ => by subst h2; exact ⟨h1, h3⟩

section
variable {H : Type} {enc : TypeId × Value → H} {P : Program}
theorem trodAll_carry (hl : laidOutB P = true) {W W' : World} (hb : Below W.heap.size W W') : ∀ {ts : List TypeId} {vs : List Value} {ds : List (DataW H)} {ps : List MemPlace},
    ts.all (fun t => P.readableRec t && decide (t < P.types.size)) = true → DataW.TrodAll enc P W 0 (fun _ => true) true ts vs ds ps → (∀ x ∈ ps, x.block < W.heap.size) → ∀ sp : Nat → Bool, (∀ x ∈ ps, sp x.block = true) →
    DataW.TrodAll enc P W' 0 sp true ts vs ds ps := by
  intro ts
  induction ts with
  | nil =>
    intro vs ds ps _ h _ sp _
    obtain ⟨rfl, rfl, rfl⟩ := trodAll_nil h
    exact trodAll_mk0
  | cons t ts ih =>
    intro vs ds ps hr h hlt sp hsp
    obtain ⟨v0, vs0, d0, ds0, p0, q0, rfl, rfl, rfl, h0, r0⟩ := trodAll_cons h
    simp only [List.all_cons, Bool.and_eq_true, decide_eq_true_eq] at hr
    exact trodAll_cons_mk (WideElems.Trod_stays hl hr.1.1 hr.1.2 h0 (fun x hx => hb.same (hlt x (by simp [hx]))) (fun x hx => hsp x (by simp [hx]))) (ih hr.2 r0 (fun x hx => hlt x (by simp [hx])) sp (fun x hx => hsp x (by simp [hx])))

/-- What the row asks behind the call. -/
theorem law_post {f : Func} {s : ChangeSpec} {apart fresh handsOn again : Bool} {W W' : World} {args : Array Value} {ds gs : List (DataW H)} {before : List MemPlace} {tb : TypeId}
    (hl : laidOutB P = true) (hr : f.params.toList.all (fun t => P.readableRec t && decide (t < P.types.size)) = true) (hrt : f.resultTypes = #[tb]) (hub : P.underlying tb = some .bool) (hv : s.vars = [])
    (hW : DataW.Whole enc P f.params.toList s.vars apart W args.toList ds gs before) (hfn : s.fn H (ds ++ gs) = { results := [.lit (.bool true)], args := ds }) (hb : Below W.heap.size W W') :
    s.post enc P f apart fresh handsOn again W args (.bool true) W' := by
  have hold : ∀ p ∈ before, (fun b => decide (b < W.heap.size)) p.block = true := fun p hp => by simpa using hW.lt p hp
  have hW' := hW
  obtain ⟨pa, pv, hA, hV, rfl, hz, hn⟩ := hW
  have hV' := hV
  rw [hv] at hV'
  obtain ⟨rfl, rfl⟩ := trodVars_none hV'
  have hlt : ∀ x ∈ pa, x.block < W.heap.size := fun x hx => hW'.lt x (by simpa using hx)
  have hA' := trodAll_carry hl hb hr hA hlt (fun b => decide (b < W.heap.size)) (fun x hx => by simpa using hlt x hx)
  have hres : ∀ (b : Nat) (sp : Nat → Bool) (hd : Bool), DataW.TrodAll enc P W' b sp hd f.resultTypes.toList ((Value.bool true).resultList f.resultTypes.size) [.lit (.bool true)] [] := fun b sp hd => by
    rw [hrt]
    exact trodAll_cons_mk (shut_bool hub _) trodAll_mk0
  have hvars : ∀ sp : Nat → Bool, DataW.TrodVars enc P W' sp s.vars [] [] := fun sp => by rw [hv]; rfl
  refine ⟨ds, [], pa ++ [], [], pa, [], hW', ?_, ?_, ?_, hb.frame _, fun _ => ?_⟩
  · rw [hfn]; exact hres _ _ _
  · rw [hfn]; exact hA'
  · rw [hfn]; exact hvars _
  · have hA2 := trodAll_carry hl hb hr hA hlt (fun _ => true) (fun x hx => rfl)
    refine ⟨ok_one hrt rfl (okWide_bool_mk hub _), _, _, ([] ++ pa) ++ [], ⟨[] ++ pa, [], trodAll_append hA2 (hres _ _ _), hvars _, rfl, ?_, ?_⟩, ?_⟩
    · intro b off hp
      have hp' : MemPlace.cell b off ∈ pa := by simpa using hp
      rw [hb.frozen (hlt _ hp')]
      exact hz b off (by simpa using hp')
    · intro ha
      simpa using hn ha
    · intro p hp _
      simpa using hp
/-- The places of a slice that is only read, one cell each. -/
def RoE (B : Frag) (A : Option Addr) (n : Nat) (xs : List Value) : Prop :=
  xs.length = n ∧ ∀ k, k < n → ∃ b o cs et fz, A = some ⟨b, o, none⟩ ∧ B b = some (.cells (List.toArray cs) et fz) ∧ cs[o + k * 1]? = xs[k]?
theorem RoE.at1 {B : Frag} {A : Option Addr} {n k : Nat} {xs : List Value} (h : RoE B A n xs) (hk : k < n) : ∃ b o cs et fz, A = some ⟨b, o, none⟩ ∧ B b = some (.cells (List.toArray cs) et fz) ∧ cs[o + k * 1]? = xs[k]? := h.2 k hk
theorem RoE.mono {B B' : Frag} {A : Option Addr} {n : Nat} {xs : List Value} (h : RoE B A n xs) (hB : B.le B') : RoE B' A n xs :=
  ⟨h.1, fun k hk => let ⟨b, o, cs, et, fz, h1, h2, h3⟩ := h.2 k hk; ⟨b, o, cs, et, fz, h1, hB _ _ h2, h3⟩⟩
theorem cell_obj {W : World} {a : Addr} {v : Value} (h : W.cell? a = some v) : a.spot = none ∧ ∃ cs et fz, W.heap[a.block]? = some (.cells (List.toArray cs) et fz) ∧ cs[a.off]? = some v := by
  unfold World.cell? at h
  split at h
  · rename_i c et fz hh
    split at h
    · cases h
    · rename_i hs
      refine ⟨by simpa using hs, c.toList, et, fz, by simpa using hh, by simpa using h⟩
  · cases h
theorem RoE.of_cells {W : World} {a : Addr} {n : Nat} {xs : List Value} (hl : xs.length = n) (h : ∀ i v, xs[i]? = some v → W.cell? (a.add i) = some v) : RoE (base W) (some a) n xs := by
  refine ⟨hl, fun k hk => ?_⟩
  have hk' : k < xs.length := by omega
  have h0 := cell_obj (h 0 _ (List.getElem?_eq_getElem (by omega)))
  have h1 := cell_obj (h k _ (List.getElem?_eq_getElem hk'))
  obtain ⟨cs, et, fz, h2, h3⟩ := h1.2
  have hb : (a.add k).block = a.block := by unfold Addr.add; split <;> rfl
  have ho : (a.add k).off = a.off + k := by unfold Addr.add; split <;> simp_all
  have hs : a.spot = none := by have := h0.1; simpa [Addr.add] using this
  refine ⟨a.block, a.off, cs, et, fz, ?_, by rw [← hb]; exact h2, ?_⟩
  · rw [← hs]
  · rw [Nat.mul_one, ← ho, h3, List.getElem?_eq_getElem hk']
theorem open_strs {r : Reach} {b0 base' : Nat} {sp : Nat → Bool} {hd : Bool} {W : World} {t et : TypeId} {v : Value} {d : DataW H} {ps : List MemPlace} (ht : P.underlying t = some (.slice et)) (he : P.underlying et = some .string) (hc : P.cellsOf et = 1)
    (hval : Value.okWide P W r b0 t v) (h : DataW.Trod enc P W base' sp hd t v d ps) : ∃ A n c, ∃ xs : List (List UInt8), v = .slice A n c ∧ n ≤ c ∧ c ≤ maxLen ∧ RoE (base W) A n (xs.map str) ∧ ∀ x ∈ xs, x.length ≤ maxLen := by
  obtain ⟨a0, len, cap, rfl⟩ := okWide_slice ht hval
  obtain ⟨fuel, hf⟩ := h
  rcases open_strings ht he hc hf with ⟨hcs, hx⟩ | ⟨a, len', cap', ss, hcs, _, hl, hm, hz, hx, hcell, hsz⟩
  · simp [Value.cells] at hcs
    obtain ⟨rfl, rfl, rfl⟩ := hcs
    exact ⟨none, 0, 0, [], rfl, Nat.le_refl _, Nat.zero_le _, ⟨rfl, fun k hk => by omega⟩, fun x hx => by cases hx⟩
  · simp [Value.cells] at hcs
    obtain ⟨rfl, rfl, rfl⟩ := hcs
    have hle : len ≤ ss.length := by rw [hz]; split <;> omega
    refine ⟨some a, len, cap, (ss.take len).map (·.data.toList), rfl, hl, hm, RoE.of_cells (by simp; omega) ?_, ?_⟩
    · intro i v hv
      simp only [List.map_map, List.getElem?_map] at hv
      by_cases hi : i < len
      · rw [List.getElem?_take, if_pos hi, List.getElem?_eq_getElem (by omega)] at hv
        simp at hv
        rw [hcell i (by omega), ← hv]
        simp [List.getD, List.getElem?_eq_getElem (show i < ss.length by omega)]
      · rw [List.getElem?_take, if_neg hi] at hv; cases hv
    · intro x hx
      simp only [List.mem_map] at hx
      obtain ⟨y, hy, rfl⟩ := hx
      exact hsz y (List.mem_of_mem_take hy)
theorem open_int2 {r : Reach} {b0 base' : Nat} {sp : Nat → Bool} {hd : Bool} {W : World} {t et : TypeId} {k : IntKind} {v : Value} {d : DataW H} {ps : List MemPlace} (ht : P.underlying t = some (.array 2 et)) (he : P.underlying et = some (.int k)) (hc : P.cellsOf et = 1) (hct : P.cellsOf t = 2)
    (hval : Value.okWide P W r b0 t v) (h : DataW.Trod enc P W base' sp hd t v d ps) : ∃ m n, v = .agg [.int k m, .int k n].toArray ∧ (Lit.int k m).wf = true ∧ (Lit.int k n).wf = true := by
  unfold Value.okWide at hval
  rw [ht] at hval
  obtain ⟨cs, rfl, hsz, _⟩ := hval
  rw [hct] at hsz
  obtain ⟨fuel, hf⟩ := h
  obtain ⟨l⟩ := cs
  match l, hsz with
  | [c0, c1], _ =>
    obtain ⟨xs, m, _, _, _, hlen, hel⟩ := DataW.trod_array ht hf
    match xs, hlen with
    | [y0, y1], _ =>
      have e0 := hel 0 (by omega)
      have e1 := hel 1 (by omega)
      simp [hc, Value.cells] at e0 e1
      obtain ⟨n0, h0, _, w0⟩ := DataW.trod_int he e0
      obtain ⟨n1, h1, _, w1⟩ := DataW.trod_int he e1
      simp at h0 h1
      subst h0 h1
      exact ⟨n0, n1, rfl, w0, w1⟩
end
end Go.SL

/-
  More rules: a text's bytes as a slice of one's own; stores into it; a text's end.
-/
namespace Go.SL
open Go.RowKit
set_option linter.unusedVariables false
set_option linter.unusedSimpArgs false
section
variable {e : Env} {ds : List Deferred} {Q : Exit → Act → World → Prop} {ρ : Sl} {B : Frag} {H R : HP} {t ty et : TypeId} {x y : Operand} {b o n c : Nat} {v : Value}

/-- '[]byte(s)'. -/
theorem s2bO {src dst : TypeId} {l : List UInt8} (hs : e.P.underlying src = some .string) (hd : e.P.underlying dst = some (.slice et)) (he' : e.P.underlying et = some (.int .u8)) (hx : ev ρ x = some (str l)) :
    Ox e ds (.convert src dst x) ty ρ B H (fun v B' H' => ∃ b c, v = .slice (some ⟨b, 0, none⟩) l.length c ∧ l.length ≤ c ∧ B' = B ∧ H' = blk b (.cells (u8s l ++ List.replicate (c - l.length) (Value.int .u8 0)).toArray et (c, c + 1)) * H) :=
  .of_run (fun _ h => by cases h) fun f w dst' pos after guard he s => by
    have h := run_bytes_of_string w src dst et ⟨l.toArray⟩ hs hd he'
    have hsz : (⟨l.toArray⟩ : ByteArray).size = l.length := rfl
    rw [hsz] at h
    have hle : l.length ≤ grownCap w l.length 0 et := grownCap_ge w _ _ et
    have hrow : bytesRow ⟨l.toArray⟩ (grownCap w l.length 0 et) = (u8s l ++ List.replicate (grownCap w l.length 0 et - l.length) (Value.int .u8 0)).toArray := by
      unfold bytesRow u8s
      simp [hsz]
    have hsize : (u8s l ++ List.replicate (grownCap w l.length 0 et - l.length) (Value.int .u8 0)).toArray.size = grownCap w l.length 0 et := by
      simp [u8s_len]; omega
    rw [hrow, hsize] at h
    refine ⟨_, _, B, _, ?_, ⟨_, _, rfl, hle, rfl, rfl⟩, Frag.le_refl _, ((Below.refl _ _).drew).alloc s.sz _, s.drew.alloc _⟩
    simp only [execOp, he _ _ hx]
    simp [Sem.run_bind, h, Result.andThen, Sem.run_pure]
/-- A store of one cell, the block's mark lying behind it. -/
theorem stF {d : TypeDesc} {cs cs' : List Value} {lo hi : Nat} (ht : e.P.underlying t = some d) (hi' : (e.P.info? t).map (·.size) = some 1) (hx : ev ρ x = some (.pointer (some ⟨b, o, none⟩))) (hy : ev ρ y = some v) (h1 : v.oneCell' = true)
    [hp : PickB H b (.cells cs.toArray et (lo, hi)) R] (ho : o < cs.length) (hlo : o < lo) (hn : cs.set o v = cs') : Ox e ds (.store t x y) ty ρ B H (fun _ B' H' => B' = B ∧ H' = blk b (.cells cs'.toArray et (lo, hi)) * R) :=
  .of_skip (fun _ h => by cases h) fun f w _ _ _ _ he s => by
    subst hn
    have s' : St e.N0 B (blk b (.cells cs.toArray et (lo, hi)) * R) w := hp.eq ▸ s
    have hh := s'.blk.1
    have hv1 : v.cells = #[v] := by cases v <;> simp_all [Value.cells, Value.oneCell']
    have hcell : w.cell? ⟨b, o, none⟩ = some cs[o] := by simp [World.cell?, hh, ho]
    have hfro : w.frozen? ⟨b, o, none⟩ = false := by
      simp only [World.frozen?, hh, Bool.and_eq_false_iff, decide_eq_false_iff_not]
      left; omega
    have hst : (store ⟨b, o, none⟩ v).run e.P w = .ok () (w.setRow b (cs.toArray.setIfInBounds o v)) := by
      rw [run_store e.P w _ v _ h1, hcell]
      simp [hfro, setCell_eq_setRow w b o cs.toArray et (lo, hi) v hh]
    have e2 : cs.toArray.setIfInBounds o v = (cs.set o v).toArray := by
      apply Array.toList_inj.1
      simp
    rw [e2] at hst
    have hadd : (⟨b, o, none⟩ : Addr).add 0 = ⟨b, o, none⟩ := rfl
    cases hq : e.P.info? t with
    | none => simp [hq] at hi'
    | some i =>
      have hi2 : i.size = 1 := by simpa [hq] using hi'
      refine ⟨_, B, _, ?_, ⟨rfl, rfl⟩, Frag.le_refl _, (s'.setRow (cs.set o v).toArray).2, (s'.setRow (cs.set o v).toArray).1⟩
      simp [execOp, he _ _ hx, he _ _ hy, Instr.storeAt, Instr.sureAddr, storeVar, sizeOf, typeInfo, hq, hi2, hv1, storeCells, hadd, hst]
/-- At a function's end: one result of many cells, in cells of its own. -/
theorem Xx.rBa {P : Program} {fn : Func} {N0 nt size : Nat} {w0 : World} {r : Option Nat} {B0 : Frag} {Φ : Value → Frag → Prop} {t : Tmp} {ty : TypeId} {d : TypeDesc} {vs : List Value} {b : Nat} {et : TypeId} {fz : Nat × Nat}
    (hr : fn.results = #[.cell t ty]) (ht : P.underlying ty = some d) (hd : aggB d = true) (hi : (P.info? ty).map (·.size) = some size) (hv : lk ρ t = some (.pointer (some ⟨b, 0, none⟩))) [hp : PickB H b (.cells vs.toArray et fz) R] (hl : vs.length = size)
    (hΦ : Φ (.agg vs.toArray) B) (hB : B0.le B) : Xx ⟨P, r, N0, w0, nt⟩ [] (bodyPost P fn (FinB N0 w0 R B0 Φ) .ret) ρ B H := fun a w f bl s => by
  have s' : St N0 B (blk b (.cells vs.toArray et fz) * R) w := hp.eq ▸ s
  have hl := run_loadVar_row (P := P) w b et ty vs.toArray fz d s'.blk.1 ht (by cases d <;> simp_all [aggB]) (by rw [hi]; simp [hl])
  have h1 := f.get t _ hv
  refine ⟨f.defers, .agg vs.toArray, ?_, _, B, rfl, hΦ, hB, bl, s'.drop⟩
  simp [results, hr, h1, Sem.run_bind, asAddr, hl]
/-- A contract of the library's, for whatever world: what is below the heap's end stands. -/
theorem CtP.of_calls {P : Program} {f : FuncId} {args : List Value} {B : Frag} {v : Value} (he : ∀ args w, (callFunc f args).run P w = .ok (.enter f args) w)
    (h : ∀ w : World, (∀ b o, B b = some o → w.heap[b]? = some o) → Calls P f args.toArray w fun x w' => x = .returned v ∧ Below w.heap.size w w') : CtP P f args B v :=
  ⟨he, fun N0 w R s => (h w s.ro).mono fun x w' ⟨e, b⟩ => ⟨v, B, e, ⟨rfl, rfl⟩, Frag.le_refl _, b.mono s.sz, by
    have hlt : ∀ {k : Nat} {o : Obj}, w.heap[k]? = some o → w'.heap[k]? = some o := fun {k o} hk => by
      rw [b.block k (Array.getElem?_eq_some_iff.1 hk).1]; exact hk
    obtain ⟨k, hk, hR⟩ := s.own
    exact ⟨fun i o hi => hlt (s.ro i o hi), Nat.le_trans s.sz b.size, k, fun i o hi => ⟨hlt (hk i o hi).1, (hk i o hi).2⟩, hR⟩⟩⟩
/-- A guard that was not asked itself. -/
theorem yielded_undef {ops : Array Oper} {o : Oper} {a : Act} {j t : Nat} (f : Fr ρ e.nt ds a) (hj : ops[j]? = some o) (ho : o.dst = some t) (hv : lk ρ t = some undef) : yielded ops a.tmps j = none := by
  have := f.get t _ hv
  simp [yielded, hj, ho, this, undef]
theorem Lx.gU {ops : Array Oper} {rest : List Oper} {o : Oper} {op : Op} {ty : TypeId} {pos : String} {af : Array Edge} {d : Nat} {j t : Nat} {u : Bool} (hj : ops[j]? = some o) (ho : o.dst = some t) (hv : lk ρ t = some undef) (hd : Nat.blt d e.nt = true)
    (k : Lx e ds ops Q rest ((d, undef) :: ρ) B H) : Lx e ds ops Q (⟨some d, op, ty, pos, af, some (j, u)⟩ :: rest) ρ B H := by
  intro a w f b s
  have hy := yielded_undef (e := e) f hj ho hv
  simp only [wpListIn]
  rw [if_neg (by simp [Region.wanted, hy])]
  exact ⟨fun _ _ => trivial, k _ w (f.put hd undef) b s⟩
theorem Lx.gU0 {ops : Array Oper} {rest : List Oper} {o : Oper} {op : Op} {ty : TypeId} {pos : String} {af : Array Edge} {j t : Nat} {u : Bool} (hj : ops[j]? = some o) (ho : o.dst = some t) (hv : lk ρ t = some undef)
    (k : Lx e ds ops Q rest ρ B H) : Lx e ds ops Q (⟨none, op, ty, pos, af, some (j, u)⟩ :: rest) ρ B H := by
  intro a w f b s
  have hy := yielded_undef (e := e) f hj ho hv
  simp only [wpListIn]
  rw [if_neg (by simp [Region.wanted, hy])]
  exact ⟨fun _ _ => trivial, k _ w f b s⟩
theorem Dx.pU {ops : Array Oper} {J : Nat → World → Prop} {fuel : Nat} {listed : Array Bool} {i d j t : Nat} {u : Bool} {o : Oper} {op : Op} {ty : TypeId} {pos : String} {af : Array Edge} (hi : ops[i]? = some ⟨some d, op, ty, pos, af, some (j, u)⟩) (hop : ∀ c, op ≠ .defer c) (hj : ops[j]? = some o) (ho : o.dst = some t) (hv : lk ρ t = some undef) (ht : tk ops listed i = true)
    (hd : Nat.blt d e.nt = true) (k : Dx e ds ops (NoPanic Q) J fuel (listed.setIfInBounds i true) ((d, undef) :: ρ) B H) : Dx e ds ops (NoPanic Q) J (fuel + 1) listed ρ B H :=
  fun a w f b s => anyJ_take (T := fun _ => True) hi ht (fun _ _ _ h => h) ⟨hop, .inr ⟨by simp [Region.wanted, yielded_undef (e := e) f hj ho hv], rfl⟩⟩ trivial
    (anyJ_mono (fun j w h => ⟨h, fun _ => trivial⟩) _ _ _ _ (k _ w (f.put hd undef) b s))
end
section
open Go.ChangeShapes Go.WideShapes Go.ChangeAt
/-- A struct of two texts among the arguments. -/
theorem open_sp {H : Type} {enc : TypeId × Value → H} {P : Program} {r : Reach} {b0 base' : Nat} {sp : Nat → Bool} {hd : Bool} {W : World} {t : TypeId} {f0 f1 : Field} {v : Value} {d : DataW H} {ps : List MemPlace} (ht : P.underlying t = some (.struct #[f0, f1]))
    (h0 : P.underlying f0.type = some .string) (h1 : P.underlying f1.type = some .string) (c0 : P.cellsOf f0.type = 1) (c1 : P.cellsOf f1.type = 1) (o0 : f0.offset = 0) (o1 : f1.offset = 1) (hct : P.cellsOf t = 2)
    (hval : Value.okWide P W r b0 t v) (h : DataW.Trod enc P W base' sp hd t v d ps) : ∃ a b : List UInt8, v = .agg [str a, str b].toArray ∧ a.length ≤ maxLen ∧ b.length ≤ maxLen := by
  obtain ⟨cs, rfl, hsz⟩ := okWide_struct ht hval
  rw [hct] at hsz
  obtain ⟨fuel, hf⟩ := h
  obtain ⟨l⟩ := cs
  match l, hsz with
  | [x0, x1], _ =>
    obtain ⟨y0, y1, n, _, _, e0, e1⟩ := trod_struct2 ht hf
    rw [c0, o0] at e0
    rw [c1, o1] at e1
    simp [Value.cells] at e0 e1
    obtain ⟨s0, g0, _, w0⟩ := DataW.trod_string h0 e0
    obtain ⟨s1, g1, _, w1⟩ := DataW.trod_string h1 e1
    simp at g0 g1
    subst g0 g1
    exact ⟨s0.data.toList, s1.data.toList, rfl, w0, w1⟩
end
end Go.SL

/-
  More rules: a value in another spelling.
-/
namespace Go.SL
open Go.RowKit
set_option linter.unusedVariables false
section
variable {P : Program} {ρ : Sl} {S : World → Prop} {ty : TypeId} {v v' : Value} {op : Op}
theorem Yx.val (h : Yx P op ty ρ S v) (e : v = v') : Yx P op ty ρ S v' := e ▸ h
theorem Yx.tt {b : Bool} (h : Yx P op ty ρ S (.bool b)) (e : b = true) : Yx P op ty ρ S (.bool true) := e ▸ h
theorem Yx.ff {b : Bool} (h : Yx P op ty ρ S (.bool b)) (e : b = false) : Yx P op ty ρ S (.bool false) := e ▸ h
end
end Go.SL

/-
  More rules: copy, append of a count of zeros, the library's entries (cmpstring, overlaps), min of two numbers, loops that are unrolled.
-/
namespace Go.SL
open Go.RowKit
set_option linter.unusedVariables false
set_option linter.unusedSimpArgs false

/-! ### A loop, unrolled -/
section
variable {e : Env} {ds : List Deferred} {Q : Exit → Act → World → Prop} {ρ : Sl} {B : Frag} {H : HP}
def Rn (e : Env) (c : Code) (Q : Exit → Act → World → Prop) (m : Nat) (a : Act) (w : World) : Prop := Code.roundsIn (FW e.r) 0 e.P c Q m a w
theorem Cx.unroll {c : Code} (m : Nat) (h : Xx e ds (Rn e c Q m) ρ B H) : Cx e ds (.loop c) Q ρ B H := fun a w f b s => wpIn_loop_rounds m (h a w f b s)
theorem Xx.rn {c : Code} {m : Nat} (h : Cx e ds c (Exit.then (Rn e c Q m) Q) ρ B H) : Xx e ds (Rn e c Q (m + 1)) ρ B H := fun a w f b s => h a w f b s
end
section
variable {P : Program} {ρ : Sl} {S : World → Prop} {ty t t2 : TypeId} {x y : Operand} {v : Value}
/-- A call of an entry of the library's, that only reckons. -/
theorem extc {xs : Array Operand} {ts : Array TypeId} {fi : FuncId} {vs : List Value} (hf : ev ρ x = some (.func (.func fi) #[] #[])) (hx : evl ρ xs.toList = some vs) (h : ∀ w, S w → (callFunc fi vs.toArray).run P w = .ok (.value v) w) :
    Yx P (.call { callee := .value x, args := xs, argTypes := ts }) ty ρ S v := .of (fun _ h => by cases h) fun f w _ _ _ _ he s => by
  have hfv := he _ _ hf
  have hxv : xs.map f = vs.toArray := by
    have := he.map hx
    apply Array.toList_inj.1
    simp [this]
  have h1 := h w s
  simp only [execOp, resolve, hfv, Deferred.ofValue, hxv, Sem.run_bind, Sem.run_pure, Result.andThen, invoke]
  simpa using h1
theorem minI {k : IntKind} {m n : Int} (hx : ev ρ x = some (.int k m)) (hy : ev ρ y = some (.int k n)) : Yx P (.call { callee := .builtin .min, args := #[x, y], argTypes := #[t, t2] }) ty ρ S (.int k (if n < m then n else m)) := .of (fun _ h => by cases h) fun f w _ _ _ _ he _ => by
  simp [execOp, resolve, invoke, builtin, Builtin.min_, Builtin.min2, he _ _ hx, he _ _ hy]
theorem minN {m n : Nat} (hx : ev ρ x = some (i64 m)) (hy : ev ρ y = some (i64 n)) : Yx P (.call { callee := .builtin .min, args := #[x, y], argTypes := #[t, t2] }) ty ρ S (i64 (min m n : Nat)) := by
  have h := minI (P := P) (S := S) (t := t) (t2 := t2) (ty := ty) hx hy
  have e : (if (n : Int) < (m : Int) then (n : Int) else (m : Int)) = ((min m n : Nat) : Int) := by split <;> omega
  rw [e] at h; exact h
theorem run_cmp {f : FuncId} {fn : Func} (hf : P.funcs[f]? = some fn) (hname : (fn.name == "runtime.NumGoroutine") = false) (hb : fn.body.isNone = true) (hn : Extern.findNext fn = none) (he : Extern.find fn = some Extern.BytealgCompare.compare) (a b : List UInt8) (w : World) :
    (callFunc f #[str a, str b]).run P w = .ok (.value (i64 (Lib.compareBytes a b))) w := by
  rw [run_callFunc_extern hf hname hb hn he]
  have := Lib.run_compareString (P := P) ⟨a.toArray⟩ ⟨b.toArray⟩ w
  rw [this]; rfl
end
section
variable {e : Env} {ds : List Deferred} {ρ : Sl} {B : Frag} {H R : HP} {t tx et et' ty tyx : TypeId} {x y : Operand} {size bytes nl nd c nx cx b o ox bx : Nat} {zs xs news cs cs' ncs olds : List Value} {A Ax : Option Addr} {fz : Nat × Nat}

/-- The cells of a source: in whatever state. -/
def SrcH (N0 : Nat) (B : Frag) (H : HP) (Ax : Option Addr) (news : List Value) : Prop :=
  news = [] ∨ ∃ b o, Ax = some ⟨b, o, none⟩ ∧ ∀ w, St N0 B H w → ∀ j v, news[j]? = some v → w.cell? ⟨b, o + j, none⟩ = some v
theorem SrcH.own {N0 : Nat} [hp : PickB H b (.cells cs.toArray et fz) R] (n : Nat) (hx : (cs.drop o).take n = news) : SrcH N0 B H (some ⟨b, o, none⟩) news :=
  .inr ⟨b, o, rfl, fun w s j v hj => by
    have s' : St N0 B (blk b (.cells cs.toArray et fz) * R) w := hp.eq ▸ s
    refine cell_of_heap s'.blk.1 ?_
    rw [← hx] at hj
    simp only [List.getElem?_take, List.getElem?_drop] at hj
    split at hj
    · exact hj
    · cases hj⟩
theorem SrcH.base {N0 : Nat} (n : Nat) (hB : B b = some (.cells cs.toArray et fz)) (hx : (cs.drop o).take n = news) : SrcH N0 B H (some ⟨b, o, none⟩) news :=
  .inr ⟨b, o, rfl, fun w s j v hj => by
    refine cell_of_heap (s.ro b _ hB) ?_
    rw [← hx] at hj
    simp only [List.getElem?_take, List.getElem?_drop] at hj
    split at hj
    · exact hj
    · cases hj⟩
theorem St.src {N0 : Nat} {P : Program} {w : World} (h : SrcH N0 B H Ax news) (hn : news.length = nx * size) (s : St N0 B H w) (len cap : Nat) : (Builtin.firstCells size nx (.slice Ax len cap)).run P w = .ok news.toArray w := by
  rcases h with rfl | ⟨b, o, rfl, h⟩
  · have h0 : nx * size = 0 := by simpa using hn.symm
    cases Ax with
    | none => simp [Builtin.firstCells]
    | some a => exact run_firstCells_some w size nx a len cap [] (by simpa using hn) (fun j v hj => by simp at hj)
  · exact run_firstCells_some w size nx _ len cap news hn fun j v hj => by rw [add_mk]; exact h w s j v hj

/-- copy into a row of one's own. -/
theorem cpO (k : Nat) (ht : e.P.underlying t = some (.slice et')) (hs : (e.P.info? et').map (·.size) = some size) (hx : ev ρ x = some (.slice (some ⟨b, o, none⟩) nd c)) (hy : ev ρ y = some (.slice Ax nx cx))
    [hp : PickB H b (.cells cs.toArray et (0, 0)) R] (hk : Nat.min nx nd = k) (hS : SrcH e.N0 B H Ax news) (hn : news.length = k * size) (h1 : news.all (·.oneCell') = true) (hfit : o + news.length ≤ cs.length) (hr : cs.take o ++ news ++ cs.drop (o + news.length) = cs') :
    Ox e ds (.call { callee := .builtin .copy, args := #[x, y], argTypes := #[t, tx] }) ty ρ B H (fun v B' H' => v = i64 k ∧ B' = B ∧ H' = row b et cs' * R) :=
  .of_run (fun _ h => by cases h) fun f w dst pos after guard he s => by
    subst hr hk
    have s' : St e.N0 B (blk b (.cells cs.toArray et (0, 0)) * R) w := hp.eq ▸ s
    have hfc := St.src (P := e.P) (nx := Nat.min nx nd) hS hn s nx cx
    have hst := run_storeCells_at (P := e.P) b o et news 0 cs.toArray w s'.blk.1 (by simpa using hfit) (by simpa using h1)
    simp only [List.toList_toArray, Nat.add_zero] at hst
    cases hq : e.P.info? et' with
    | none => simp [hq] at hs
    | some i =>
      have hi : i.size = size := by simpa [hq] using hs
      have hcp : (Builtin.copy_ #[t, tx] ty #[.slice (some ⟨b, o, none⟩) nd c, .slice Ax nx cx]).run e.P w = .ok (i64 (Nat.min nx nd : Nat)) (w.setRow b (cs.take o ++ news ++ cs.drop (o + news.length)).toArray) := by
        rw [← hi] at hfc
        simp only [Builtin.copy_, Sem.run_bind, run_underlying ht, Result.andThen, Builtin.lenOf, Sem.run_pure, sizeOf, typeInfo, run_program, hq, hfc, hst, List.getElem?_toArray, List.getElem?_cons_zero, List.getElem?_cons_succ]
        simp [hfc, hst, goInt]
      refine ⟨_, _, B, _, ?_, ⟨rfl, rfl, rfl⟩, Frag.le_refl _, (s'.setRow _).2, (s'.setRow _).1⟩
      simp [execOp, resolve, he _ _ hx, he _ _ hy, invoke, builtin, hcp]

/-- append of so many zeros, where there is no room. -/
theorem amO {k : IntKind} {m : Nat} (ht : e.P.underlying t = some (.slice et)) (htx : e.P.underlying tx = some (.int k)) (hz : TI e.P et zs size bytes) (hx : ev ρ x = some (.slice Ax nl c)) (hy : ev ρ y = some (i64 m))
    (hS : SrcH e.N0 B H Ax olds) (hl : olds.length = nl * size) (hg : c < nl + m) (hb : nl + m ≤ 9223372036854775807) (hbb : (nl + m) * bytes ≤ 140737488355328) :
    Ox e ds (.call { callee := .builtin .append, args := #[x, y], argTypes := #[t, tx] }) ty ρ B H
      (fun v B' H' => ∃ b' c' rest, v = .slice (some ⟨b', 0, none⟩) (nl + m) c' ∧ nl + m ≤ c' ∧ rest.length + nl * size = c' * size ∧ B' = B ∧ H' = row b' et (olds ++ rest) * H) :=
  .of_run (fun _ h => by cases h) fun f w dst pos after guard he s => by
    obtain ⟨i, zv, z1, z2, z3, z4, z5, z6, z7⟩ := hz
    have hfc := St.src (P := e.P) (nx := nl) hS hl s.drew nl c
    rw [← z4] at hfc
    have hcap := nextslicecap_le (need := nl + m) (old := c) hg
    have hge : nl + m ≤ grownCap w (nl + m) c et := by unfold grownCap Question.cut; simp
    have hw : IntKind.i64.wrap (m : Int) = m := by rw [IntKind.wrap_i64]; omega
    have hfit : Builtin.nextslicecap (nl + m) c * i.bytes ≤ 281474976710656 := by
      rw [z5]
      calc Builtin.nextslicecap (nl + m) c * bytes ≤ (2 * (nl + m)) * bytes := Nat.mul_le_mul_right _ hcap
        _ = 2 * ((nl + m) * bytes) := by rw [Nat.mul_assoc]
        _ ≤ 281474976710656 := by omega
    have h63' : ¬ (9223372036854775807 < ((nl : Int) + (m : Int))) := by omega
    have h48' : ¬ (281474976710656 < Builtin.nextslicecap (nl + m) c * i.bytes) := by omega
    have h48i : ¬ (281474976710656 < (m : Int) * (i.bytes : Int)) := by
      rw [← Int.natCast_mul, z5]
      have : m * bytes ≤ (nl + m) * bytes := Nat.mul_le_mul_right _ (by omega)
      omega
    have hneg : ¬ ((m : Int) < 0) := by omega
    have hn : ¬ (nl + m ≤ c) := by omega
    obtain ⟨zm, hzm, hzl⟩ : ∃ zm : List Value, (if m * i.size = 0 then #[] else Builtin.zeroCells zv.cells m) = zm.toArray ∧ zm.length = m * size := by
      by_cases h0 : m * i.size = 0
      · exact ⟨[], by rw [if_pos h0], by rw [z4] at h0; simpa using h0.symm⟩
      · exact ⟨(Builtin.zeroCells zv.cells m).toList, by rw [if_neg h0], by simp [Builtin.zeroCells, z3, z6]⟩
    obtain ⟨sp, hsp, hspl⟩ : ∃ sp : List Value, Builtin.zeroCells zv.cells (grownCap w (nl + m) c et - (nl + m)) = sp.toArray ∧ sp.length = (grownCap w (nl + m) c et - (nl + m)) * size :=
      ⟨(Builtin.zeroCells zv.cells (grownCap w (nl + m) c et - (nl + m))).toList, by simp, by simp [Builtin.zeroCells, z3, z6]⟩
    have hr : (Builtin.append_ #[t, tx] ty #[.slice Ax nl c, i64 m]).run e.P w = .ok (.slice (some ⟨w.heap.size, 0, none⟩) (nl + m) (grownCap w (nl + m) c et)) (w.drew.alloc (.cells (olds ++ (zm ++ sp)).toArray et (0, 0))) := by
      by_cases h0 : m * i.size = 0
      · rw [if_pos h0] at hzm
        have hzm' : zm = [] := by simpa using hzm.symm
        subst hzm'
        simp [Builtin.append_, run_underlying ht, run_underlying htx, sizeOf, typeInfo, zeroValue, z1, z2, asInt, asIntOf, hw, hneg, hn, h0, h63', h48', h48i, Question.forced, hfc, newRow, grownCap]
        have h9 := hsp
        simp [grownCap] at h9
        simp [h9]
      · rw [if_neg h0] at hzm
        simp [Builtin.append_, run_underlying ht, run_underlying htx, sizeOf, typeInfo, zeroValue, z1, z2, asInt, asIntOf, hw, hneg, hn, h0, h63', h48', h48i, Question.forced, hfc, newRow, grownCap]
        have h9 := hsp
        simp [grownCap] at h9
        simp [h9, hzm]
    refine ⟨_, _, B, _, ?_, ⟨_, _, zm ++ sp, rfl, hge, ?_, rfl, rfl⟩, Frag.le_refl _, ((Below.refl _ _).drew).alloc s.sz _, s.drew.alloc _⟩
    · simp [execOp, resolve, he _ _ hx, he _ _ hy, invoke, builtin, hr]
    · have h2 : (grownCap w (nl + m) c et) * size = (grownCap w (nl + m) c et - (nl + m)) * size + (nl + m) * size := by rw [← Nat.add_mul]; congr 1; omega
      simp [hzl, hspl, h2, Nat.add_mul]; omega

/-- slices.overlaps, of a row of one's own and another one. -/
theorem ovP {f : FuncId} {fn : Func} {P : Program} {N0 : Nat} {tS tR eS : TypeId} {na ca nb cb oa ob : Nat} {csa csb : List Value} {ea eb : TypeId} {Ra : HP} (hf : P.funcs[f]? = some fn) (hname : (fn.name == "runtime.NumGoroutine") = false) (hb' : fn.body.isNone = true) (hn : Extern.findNext fn = none) (hfe : Extern.find fn = some (Extern.SlicesOverlaps.overlaps #[tS, tS] #[tR]))
    (ht : P.underlying tS = some (.slice eS)) (hz : (P.info? eS).map (·.size) = some size) (hne : bx ≠ b) (hH : H = row bx ea csa * (row b eb csb * Ra)) (hlb : csb ≠ []) (hoa : oa < csa.length ∨ oa = 0) :
    ∀ w, St N0 B H w → (callFunc f [.slice (some ⟨bx, oa, none⟩) na ca, .slice (some ⟨b, ob, none⟩) nb cb].toArray).run P w = .ok (.value (.bool false)) w := fun w s => by
  have s' : St N0 B (row bx ea csa * (row b eb csb * Ra)) w := hH ▸ s
  have ha := s'.blk.1
  have hbk := s'.drop.blk.1
  rw [run_callFunc_extern hf hname hb' hn hfe]
  have hsz : ∀ w, (Go.sizeOf eS).run P w = .ok size w := fun w => by
    cases hq : P.info? eS with
    | none => simp [hq] at hz
    | some i => have hi : i.size = size := by simpa [hq] using hz
                simp [sizeOf, typeInfo, hq, hi]
  have := Lib.run_overlaps_apart (P := P) w tS tR eS ht size hsz ⟨bx, oa, none⟩ ⟨b, ob, none⟩ na ca nb cb hne ea eb csa.length csb.length (by simp [World.shape?, ha]) (by simp [World.shape?, hbk]) (by simpa using hlb)
    (by simp [World.frozen?, ha]) (by simp [World.frozen?, ha])
  have e9 : (Extern.SlicesOverlaps.overlaps #[tS, tS] #[tR] [.slice (some ⟨bx, oa, none⟩) na ca, .slice (some ⟨b, ob, none⟩) nb cb].toArray).run P w = .ok (.bool false) w := this
  rw [e9]; rfl
end
end Go.SL

/-
  Calls that turn what they own, told outright.
-/
namespace Go.SL
open Go.RowKit
set_option linter.unusedVariables false
/-- Called with these, owning pre: it returns v, owning post. -/
abbrev CtC (P : Program) (f : FuncId) (args : List Value) (B : Frag) (pre : HP) (v : Value) (post : HP) : Prop := Ct P f args B pre fun v' B' H' => v' = v ∧ B' = B ∧ H' = post
section
variable {e : Env} {ds : List Deferred} {Q : Exit → Act → World → Prop} {ρ : Sl} {B : Frag} {H pre post R : HP} {ops : Array Oper} {rest : List Oper}
theorem Ox.co {x : Operand} {xs : Array Operand} {ts : Array TypeId} {ty : TypeId} {fi : FuncId} {first caps : Array Value} {args vs : List Value} {v : Value}
    (hf : ev ρ x = some (.func (.func fi) first caps)) (hx : evl ρ xs.toList = some vs) (ha : first.toList ++ vs ++ caps.toList = args) (hc : CtC e.P fi args B pre v post) (hH : H = pre * R) :
    Ox e ds (.call { callee := .value x, args := xs, argTypes := ts }) ty ρ B H (fun v' B' H' => v' = v ∧ B' = B ∧ H' = post * R) :=
  ⟨fun _ h => (by cases h), fun a w dst pos after guard K Q f b s k => (Ox.call (ds := ds) hf hx ha hc hH).2 a w dst pos after guard K Q f b s
    fun v' B' H' w' ⟨H1, h1, h2, h3, h4⟩ hB hb hs => k v' B' H' w' ⟨h2, h3, by rw [h1, h4]⟩ hB hb hs⟩
theorem Lx.co {x : Operand} {xs : Array Operand} {ts : Array TypeId} {ty : TypeId} {pos : String} {af : Array Edge} {d : Nat} {fi : FuncId} {first caps : Array Value} {args vs : List Value} {v : Value}
    (hf : ev ρ x = some (.func (.func fi) first caps)) (hx : evl ρ xs.toList = some vs) (ha : first.toList ++ vs ++ caps.toList = args) (hc : CtC e.P fi args B pre v post) (hH : H = pre * R) (hd : Nat.blt d e.nt = true)
    (k : Lx e ds ops Q rest ((d, v) :: ρ) B (post * R)) : Lx e ds ops Q (⟨some d, .call { callee := .value x, args := xs, argTypes := ts }, ty, pos, af, none⟩ :: rest) ρ B H :=
  Lx.o (Ox.co hf hx ha hc hH) hd fun v' B' H' ⟨e1, e2, e3⟩ hB => by subst e1; subst e2; subst e3; exact k
/-- A contract on whatever the state of one block is. -/
theorem CtC.of {P : Program} {f : FuncId} {args : List Value} {v v' : Value} {post' : HP} (h : CtC P f args B pre v post) (hv : v = v') (hp : post = post') : CtC P f args B pre v' post' := by subst hv; subst hp; exact h
/-- At a function's end: a result of many cells, in cells of its own; something else is owned behind it. -/
theorem Xx.retA {P : Program} {fn : Func} {N0 nt size : Nat} {w0 : World} {r : Option Nat} {B0 : Frag} {H' R1 : HP} {Φ : Value → Frag → HP → Prop} {t : Tmp} {ty : TypeId} {d : TypeDesc} {vs : List Value} {b : Nat} {et : TypeId} {fz : Nat × Nat}
    (hr : fn.results = #[.cell t ty]) (ht : P.underlying ty = some d) (hd : aggB d = true) (hi : (P.info? ty).map (·.size) = some size) (hv : lk ρ t = some (.pointer (some ⟨b, 0, none⟩))) [hp : PickB H b (.cells vs.toArray et fz) R1] (hl : vs.length = size)
    (hΦ : Φ (.agg vs.toArray) B H') (hB : B0.le B) (hH : R1 = H' * R) : Xx ⟨P, r, N0, w0, nt⟩ [] (bodyPost P fn (Fin N0 w0 R B0 Φ) .ret) ρ B H := fun a w f bl s => by
  have s' : St N0 B (blk b (.cells vs.toArray et fz) * R1) w := hp.eq ▸ s
  have hl := run_loadVar_row (P := P) w b et ty vs.toArray fz d s'.blk.1 ht (by cases d <;> simp_all [aggB]) (by rw [hi]; simp [hl])
  have h1 := f.get t _ hv
  refine ⟨f.defers, .agg vs.toArray, ?_, _, B, H', rfl, hΦ, hB, bl, hH ▸ s'.drop⟩
  simp [results, hr, h1, Sem.run_bind, asAddr, hl]
/-- append of what a row of one's own holds, told in one's own words. -/
theorem appN {R1 : HP} {t tx et ty : TypeId} {x y : Operand} {size bytes nl c nx cx b : Nat} {zs xs cs : List Value} {A : Option Addr} {tyx et' : TypeId} {fz : Nat × Nat} (n' : Nat) (news xs' : List Value)
    (ht : e.P.underlying t = some (.slice et)) (htx : e.P.underlying tx = some (.slice tyx)) (hz : TI e.P et zs size bytes)
    (hx : ev ρ x = some (.slice A nl c)) (hy : ev ρ y = some (.slice (some ⟨b, 0, none⟩) nx cx)) [h1 : PickS H A et size nl c xs R1] [h2 : PickB R1 b (.cells cs.toArray et' fz) R] (hl : news.length = nx * size) (hn : (cs.drop 0).take (nx * size) = news) (h1 : news.all (·.oneCell') = true)
    (hb : nl + nx ≤ 9223372036854775807) (hbb : (nl + nx) * bytes ≤ 140737488355328) (hn' : nl + nx = n') (hx' : xs ++ news = xs') :
    Ox e ds (.call { callee := .builtin .append, args := #[x, y], argTypes := #[t, tx] }) ty ρ B H
      (fun v B' H' => ∃ A' c', v = .slice A' n' c' ∧ (0 < n' → ∃ b, A' = some ⟨b, 0, none⟩) ∧ xs.length = nl * size ∧ n' ≤ c' ∧ B' = B ∧ H' = sbuf et size A' n' c' xs' * (blk b (.cells cs.toArray et' fz) * R)) := by
  subst hn' hx'
  exact appR ht htx hz hx hy hl hn h1 hb hbb
/-- At a function's end: two results of many cells, each in cells of its own. -/
theorem Xx.rBcc {P : Program} {fn : Func} {N0 nt size size2 : Nat} {w0 : World} {r : Option Nat} {B0 : Frag} {R1 : HP} {Φ : Value → Frag → Prop} {t u : Tmp} {ty uy : TypeId} {d d2 : TypeDesc} {vs us : List Value} {b b2 : Nat} {et et2 : TypeId} {fz fz2 : Nat × Nat}
    (hr : fn.results = #[.cell t ty, .cell u uy]) (ht : P.underlying ty = some d) (hd : aggB d = true) (hi : (P.info? ty).map (·.size) = some size) (hv : lk ρ t = some (.pointer (some ⟨b, 0, none⟩)))
    (ht2 : P.underlying uy = some d2) (hd2 : aggB d2 = true) (hi2 : (P.info? uy).map (·.size) = some size2) (hv2 : lk ρ u = some (.pointer (some ⟨b2, 0, none⟩)))
    [hp : PickB H b (.cells vs.toArray et fz) R1] [hp2 : PickB R1 b2 (.cells us.toArray et2 fz2) R] (hl : vs.length = size) (hl2 : us.length = size2)
    (hΦ : Φ (.tuple #[.agg vs.toArray, .agg us.toArray]) B) (hB : B0.le B) : Xx ⟨P, r, N0, w0, nt⟩ [] (bodyPost P fn (FinB N0 w0 R B0 Φ) .ret) ρ B H := fun a w f bl s => by
  have s' : St N0 B (blk b (.cells vs.toArray et fz) * R1) w := hp.eq ▸ s
  have s2 : St N0 B (blk b2 (.cells us.toArray et2 fz2) * R) w := hp2.eq ▸ s'.drop
  have hl := run_loadVar_row (P := P) w b et ty vs.toArray fz d s'.blk.1 ht (by cases d <;> simp_all [aggB]) (by rw [hi]; simp [hl])
  have hl2 := run_loadVar_row (P := P) w b2 et2 uy us.toArray fz2 d2 s2.blk.1 ht2 (by cases d2 <;> simp_all [aggB]) (by rw [hi2]; simp [hl2])
  have h1 := f.get t _ hv
  have h2 := f.get u _ hv2
  refine ⟨f.defers, .tuple #[.agg vs.toArray, .agg us.toArray], ?_, _, B, rfl, hΦ, hB, bl, s2.drop⟩
  simp [results, hr, h1, h2, Sem.run_bind, asAddr, hl, hl2]
end
end Go.SL

/-
  For slices.Insert and its like: lists, slicing of what has an address, overlaps without a premise on blocks.
-/
namespace Go.SL
open Go.RowKit
set_option linter.unusedVariables false
set_option linter.unusedSimpArgs false
theorem St.ne {N0 : Nat} {B : Frag} {a b : Nat} {o u : Obj} {R : HP} {w : World} (h : St N0 B (SL.blk a o * (SL.blk b u * R)) w) : a ≠ b := by
  rintro rfl
  obtain ⟨_, _, k, _, x, y, dj, _, hx, y1, y2, _, hy, h1, _⟩ := h
  have e1 : x = Frag.one a o := hx
  have e2 : y1 = Frag.one a u := h1
  subst e1 e2
  have := dj a
  rw [hy] at this
  simp [Frag.one, Frag.un] at this
section
variable {e : Env} {ds : List Deferred} {ρ : Sl} {B : Frag} {H R : HP} {t tx et et' ty tyx : TypeId} {x y : Operand} {size bytes nl nd n c b o bx : Nat} {m : Int} {k : IntKind} {P : Program} {S : World → Prop}
/-- What is cut off ahead, where the slice has an address. -/
theorem sl1A {lo : Operand} (j : Nat) (ht : P.underlying t = some (.slice et)) (hs : (P.info? et).map (·.size) = some size) (hx : ev ρ x = some (.slice (some ⟨b, o, none⟩) n c)) (hi : ev ρ lo = some (.int k m)) (hj : m = (j : Nat)) (h1 : j ≤ n) (h2 : j < c) :
    Yx P (.slice t x (some lo) none none) ty ρ S (.slice (some ⟨b, o + j * size, none⟩) (n - j) (c - j)) := by
  subst hj
  have h := sl1V (P := P) (S := S) (ty := ty) ht hs hx hi (j := j) (Int.toNat_natCast j) (by omega) (by omega)
  have e9 : subA (some ⟨b, o, none⟩) c j size = some ⟨b, o + j * size, none⟩ := by
    unfold subA; rw [if_neg (by omega)]; simp [add_mk]
  rw [e9] at h; exact h
theorem ovQ {f : FuncId} {fn : Func} {N0 : Nat} {tS tR eS : TypeId} {na ca nb cb ob : Nat} {csa csb : List Value} {ea eb : TypeId} {Ra : HP} (hf : P.funcs[f]? = some fn) (hname : (fn.name == "runtime.NumGoroutine") = false) (hb' : fn.body.isNone = true) (hn : Extern.findNext fn = none) (hfe : Extern.find fn = some (Extern.SlicesOverlaps.overlaps #[tS, tS] #[tR]))
    (ht : P.underlying tS = some (.slice eS)) (hz : (P.info? eS).map (·.size) = some size) (hH : H = row bx ea csa * (row b eb csb * Ra)) (hlb : csb ≠ []) :
    ∀ w, St N0 B H w → (callFunc f [.slice (some ⟨bx, 0, none⟩) na ca, .slice (some ⟨b, ob, none⟩) nb cb].toArray).run P w = .ok (.value (.bool false)) w := fun w s => by
  have s' : St N0 B (row bx ea csa * (row b eb csb * Ra)) w := hH ▸ s
  exact ovP hf hname hb' hn hfe ht hz s'.ne hH hlb (.inr rfl) w s
end
/-! ### What insertion does to a list -/
theorem ins_room {α : Type} {L xs news D : List α} {p s q : Nat} (hp : p ≤ xs.length) (hs : news.length = s) (hL : p + s ≤ L.length) (hx : L.take p = xs.take p) (hD : D = xs.drop p) (hq : q = p + s + D.length) :
    ((L.take (p + s) ++ D ++ L.drop q).take p ++ news ++ (L.take (p + s) ++ D ++ L.drop q).drop (p + news.length)) = xs.take p ++ news ++ xs.drop p ++ L.drop q := by
  have h1 : (L.take (p + s)).length = p + s := by simp; omega
  rw [List.append_assoc (L.take (p + s)), List.take_append_of_le_length (by omega), List.take_take, Nat.min_eq_left (by omega), hx, hs, List.drop_append, h1, Nat.sub_self, List.drop_of_length_le (by omega), hD]
  simp
theorem ins_grow1 {α : Type} {olds rest news : List α} {p s : Nat} (hp : olds.length = p) (hs : news.length = s) (hr : s ≤ rest.length) :
    (olds ++ rest).take p ++ news ++ (olds ++ rest).drop (p + news.length) = olds ++ news ++ rest.drop s := by
  rw [← hp, List.take_left, List.drop_append, hs]
  simp
theorem ins_grow2 {α : Type} {olds news rest D : List α} {p s : Nat} (hp : olds.length = p) (hs : news.length = s) :
    (olds ++ news ++ rest).take (p + s) ++ D ++ (olds ++ news ++ rest).drop (p + s + D.length) = olds ++ news ++ D ++ rest.drop D.length := by
  have h1 : (olds ++ news).length = p + s := by simp [hp, hs]
  rw [← h1, List.take_left, List.drop_append]
  simp
/-- A contract on a buffer out of one on its row. -/
theorem Ct.of_sbuf {P : Program} {f : FuncId} {args : List Value} {B : Frag} {et : TypeId} {size n c : Nat} {A : Option Addr} {xs : List Value} {q : HP} {Φ : Value → Frag → HP → Prop} (hn : 0 < n)
    (h : ∀ b sp, A = some ⟨b, 0, none⟩ → xs.length = n * size → n ≤ c → (xs ++ sp).length = c * size → Ct P f args B (q * row b et (xs ++ sp)) Φ) (he : ∀ args w, (callFunc f args).run P w = .ok (.enter f args) w) : Ct P f args B (sbuf et size A n c xs * q) Φ :=
  ⟨he, fun N0 w R s => by
    rcases (s.of_eq (star_assoc _ _ _)).cases_sbuf with ⟨_, h2, _⟩ | ⟨b, sp, h1, h2, h3, h4, s'⟩
    · omega
    · exact (h b sp h1 h2 h3 h4).2 N0 w R (s'.of_eq (by rw [← star_assoc, star_comm (row b et (xs ++ sp)) q]))⟩
theorem row_sbuf {et : TypeId} {size b n c : Nat} {xs sp : List Value} (h1 : xs.length = n * size) (h2 : n ≤ c) (h3 : (xs ++ sp).length = c * size) {N0 : Nat} {B : Frag} {R : HP} {w : World} (s : St N0 B (row b et (xs ++ sp) * R) w) : St N0 B (sbuf et size (some ⟨b, 0, none⟩) n c xs * R) w := St.of_sbuf h1 h2 h3 s
section
variable {e : Env} {ds : List Deferred} {K : Act → World → Prop} {ρ : Sl} {B : Frag} {H R : HP}
/-- A buffer opened: its row. -/
theorem Xx.openT (A : Option Addr) {et : TypeId} {size n c : Nat} {xs : List Value} [hp : PickS H A et size n c xs R] (hn : 0 < n)
    (h : ∀ b sp, A = some ⟨b, 0, none⟩ → xs.length = n * size → n ≤ c → (xs ++ sp).length = c * size → Xx e ds K ρ B (row b et (xs ++ sp) * R)) : Xx e ds K ρ B H :=
  Xx.perm (fun a w f b s => by
    rcases s.cases_sbuf with ⟨_, h2, _⟩ | ⟨bb, sp, h1, h2, h3, h4, s'⟩
    · omega
    · exact h bb sp h1 h2 h3 h4 a w f b s') hp.eq
/-- A row becomes a buffer. -/
theorem Xx.closeT (b : Nat) {et : TypeId} {cs : List Value} (xs sp : List Value) (size n c : Nat) [hp : PickB H b (.cells cs.toArray et (0, 0)) R] (hcs : cs = xs ++ sp) (h1 : xs.length = n * size) (h2 : n ≤ c) (h3 : (xs ++ sp).length = c * size)
    (h : Xx e ds K ρ B (sbuf et size (some ⟨b, 0, none⟩) n c xs * R)) : Xx e ds K ρ B H := by
  subst hcs
  exact Xx.perm (fun a w f b s => h a w f b (St.of_sbuf h1 h2 h3 s)) hp.eq
end
end Go.SL

/-
  For a region that draws: four that are ready.
-/
namespace Go.SL
open Go.RowKit
set_option linter.unusedVariables false
section
variable {e : Env} {ds : List Deferred} {Q : Exit → Act → World → Prop} {ρ : Sl} {B : Frag} {H : HP} {ops : Array Oper} {J : Nat → World → Prop} {fuel : Nat} {listed : Array Bool}
theorem Dx.four {i j l m : Nat} (hr : Region.ready .any ops listed = [i, j, l, m]) (h : Dstep e ds ops Q J fuel listed ρ B H i) (h2 : Dstep e ds ops Q J fuel listed ρ B H j) (h3 : Dstep e ds ops Q J fuel listed ρ B H l) (h4 : Dstep e ds ops Q J fuel listed ρ B H m) : Dx e ds ops Q J (fuel + 1) listed ρ B H :=
  Dx.all hr (by simp) fun k hk => by
    simp at hk
    rcases hk with rfl | rfl | rfl | rfl
    · exact h
    · exact h2
    · exact h3
    · exact h4
end
end Go.SL

/-
  What is owned is lent to one who only reads.
-/
namespace Go.SL
open Go.RowKit
set_option linter.unusedVariables false
/-- Apart from each other. -/
def Frag.apart (k B : Frag) : Prop := ∀ b o, k b = some o → B b = Option.none
theorem Frag.un_right {B k : Frag} (h : k.apart B) {b : Nat} {o : Obj} (hb : k b = some o) : Frag.un B k b = some o := by
  simp [Frag.un, h b o hb, hb]
theorem Frag.le_un (B k : Frag) : B.le (Frag.un B k) := fun b o h => by simp [Frag.un, h]
theorem St.lend {N0 : Nat} {B : Frag} {p R : HP} {w : World} (h : St N0 B (p * R) w) :
    ∃ k : Frag, p k ∧ k.apart B ∧ St N0 (Frag.un B k) R w ∧ ∀ R' w', St N0 (Frag.un B k) R' w' → St N0 B (p * R') w' := by
  obtain ⟨hr, hz, f, hf, k, c, d, e, x, y⟩ := h
  have hk : ∀ b o, k b = some o → w.heap[b]? = some o ∧ B b = Option.none ∧ N0 ≤ b := fun b o hb => hf b o (by rw [e]; simp [Frag.un, hb])
  have hc : ∀ b o, c b = some o → k b = Option.none := fun b o hb => by
    rcases d b with z | z
    · exact z
    · rw [z] at hb; cases hb
  have hap : k.apart B := fun b o hb => (hk b o hb).2.1
  refine ⟨k, x, hap, ⟨fun b o hb => ?_, hz, c, fun b o hb => ?_, y⟩, fun R' w' s => ?_⟩
  · simp only [Frag.un] at hb
    cases hB : B b with
    | some u => rw [hB] at hb; simp at hb; subst hb; exact hr b u hB
    | none => rw [hB] at hb; simp at hb; exact (hk b o hb).1
  · have h1 := hf b o (by rw [e]; simp [Frag.un, hc b o hb, hb])
    exact ⟨h1.1, by simp [Frag.un, h1.2.1, hc b o hb], h1.2.2⟩
  · obtain ⟨hr', hz', f', hf', y'⟩ := s
    have hd : ∀ b o, f' b = some o → k b = Option.none := fun b o hb => by
      have := (hf' b o hb).2.1
      simp only [Frag.un, Option.or_eq_none_iff] at this
      exact this.2
    refine ⟨fun b o hb => hr' b o (Frag.le_un B k b o hb), hz', Frag.un k f', fun b o hb => ?_, k, f', fun b => ?_, rfl, x, y'⟩
    · simp only [Frag.un] at hb
      cases hkb : k b with
      | some u =>
        rw [hkb] at hb; simp at hb; subst hb
        exact ⟨hr' b u (Frag.un_right hap hkb), (hk b u hkb).2⟩
      | none =>
        rw [hkb] at hb; simp at hb
        obtain ⟨g1, g2, g3⟩ := hf' b o hb
        simp only [Frag.un, Option.or_eq_none_iff] at g2
        exact ⟨g1, g2.1, g3⟩
    · cases hfb : f' b with
      | none => exact .inr rfl
      | some u => exact .inl (hd b u hfb)
/-- A reader's contract, for what is owned. -/
theorem CtC.lend {P : Program} {f : FuncId} {args : List Value} {B : Frag} {p : HP} {v : Value} (he : ∀ args w, (callFunc f args).run P w = .ok (.enter f args) w)
    (h : ∀ k : Frag, p k → k.apart B → CtP P f args (Frag.un B k) v) : CtC P f args B p v p :=
  ⟨he, fun N0 w R s => by
    obtain ⟨k, hk, hap, s', back⟩ := s.lend
    refine ((h k hk hap).2 N0 w R s').mono ?_
    rintro x w' ⟨v', B', hx, ⟨rfl, rfl⟩, _, hb, s2⟩
    exact ⟨v', B, p, hx, ⟨rfl, rfl, rfl⟩, Frag.le_refl _, hb, back R w' s2⟩⟩
theorem Ct.lend {P : Program} {f : FuncId} {args : List Value} {B : Frag} {p q : HP} {Φ : Value → HP → Prop} (he : ∀ args w, (callFunc f args).run P w = .ok (.enter f args) w)
    (h : ∀ k : Frag, p k → k.apart B → Ct P f args (Frag.un B k) q (fun v B' H' => B' = Frag.un B k ∧ Φ v H')) : Ct P f args B (p * q) (fun v B' H' => B' = B ∧ ∃ H0, Φ v H0 ∧ H' = p * H0) :=
  ⟨he, fun N0 w R s => by
    obtain ⟨k, hk, hap, s', back⟩ := (s.of_eq (star_assoc _ _ _)).lend
    refine ((h k hk hap).2 N0 w R s').mono ?_
    rintro x w' ⟨v', B', H', hx, ⟨rfl, hΦ⟩, _, hb, s2⟩
    exact ⟨v', B, _, hx, ⟨rfl, H', hΦ, rfl⟩, Frag.le_refl _, hb, (back _ w' s2).of_eq (star_assoc _ _ _).symm⟩⟩
/-- A buffer, as what is only read. -/
theorem sbuf_ro {B k : Frag} {et : TypeId} {size n c : Nat} {A : Option Addr} {xs : List Value} (h : sbuf et size A n c xs k) (ha : k.apart B) : RoS (Frag.un B k) size A n xs ∧ n ≤ c := by
  rcases h with ⟨e1, e2, e3, e4, e5⟩ | ⟨b, sp, e1, e2, e3, e4, e5⟩
  · subst e1 e2 e3 e4; exact ⟨RoS.nil _ _, Nat.le_refl _⟩
  · subst e5
    refine ⟨⟨e2, .inr ⟨b, 0, xs ++ sp, et, (0, 0), e1, ?_, ?_⟩⟩, e3⟩
    · exact Frag.un_right ha (by simp [Frag.one])
    · rw [List.drop_zero, ← e2, List.take_left]
theorem RoS.cut {B : Frag} {size n b c j : Nat} {xs : List Value} (h : RoS B size (some ⟨b, 0, none⟩) n xs) (hj : j ≤ n) : RoS B size (some ⟨b, 0 + j * size, none⟩) (n - j) (xs.drop (j * size)) := by
  obtain ⟨h1, ⟨h2, _⟩ | ⟨b2, o, cs, et, fz, h3, h4, h5⟩⟩ := h
  · cases h2
  · injection h3 with h3
    injection h3 with g1 g2
    subst g1 g2
    have e : (n - j) * size = n * size - j * size := Nat.sub_mul _ _ _
    refine ⟨by rw [List.length_drop, h1, e], .inr ⟨b, 0 + j * size, cs, et, fz, rfl, h4, ?_⟩⟩
    rw [← h5, e, ← List.drop_drop, List.drop_take]
section
variable {e : Env} {ds : List Deferred} {K : Act → World → Prop} {ρ : Sl} {B : Frag} {H R : HP}
/-- Where a buffer that is not empty lies. -/
theorem Xx.addrT (A : Option Addr) {et : TypeId} {size n c : Nat} {xs : List Value} [hp : PickS H A et size n c xs R] (hn : 0 < n)
    (h : ∀ b, A = some ⟨b, 0, none⟩ → xs.length = n * size → n ≤ c → Xx e ds K ρ B H) : Xx e ds K ρ B H := fun a w f b s => by
  have s' := s.of_eq hp.eq
  rcases s'.cases_sbuf with ⟨_, h2, _⟩ | ⟨bb, sp, h1, h2, h3, _, _⟩
  · omega
  · exact h bb h1 h2 h3 a w f b s
/-- The length's fact of a buffer. -/
theorem Xx.factT (A : Option Addr) {et : TypeId} {size n c : Nat} {xs : List Value} [hp : PickS H A et size n c xs R]
    (h : xs.length = n * size → n ≤ c → Xx e ds K ρ B H) : Xx e ds K ρ B H := fun a w f b s => by
  have s' := s.of_eq hp.eq
  rcases s'.cases_sbuf with ⟨_, h2, h3, h4, _⟩ | ⟨bb, sp, h1, h2, h3, _, _⟩
  · exact h (by simp [h2, h4]) (by omega) a w f b s
  · exact h h2 h3 a w f b s
theorem Cells.buf {N0 b n c size m o : Nat} {xs vs : List Value} {et : TypeId} [hp : PickS H (some ⟨b, 0, none⟩) et size n c xs R] (hv : (xs.drop o).take m = vs) (hm : o + m ≤ xs.length) : Cells N0 B H b o vs := by
  intro w s j v hj
  have s' := s.of_eq hp.eq
  rcases s'.cases_sbuf with ⟨h1, _⟩ | ⟨bb, sp, h1, h2, h3, h4, s2⟩
  · cases h1
  · injection h1 with h1
    injection h1 with h1
    subst h1
    have hv2 : ((xs ++ sp).drop o).take m = vs := by rw [List.drop_append_of_le_length (by omega), List.take_append_of_le_length (by rw [List.length_drop]; omega)]; exact hv
    exact Cells.own (H := blk b (.cells (xs ++ sp).toArray et (0, 0)) * R) rfl hv2 w s2 j v hj
theorem pickSB (A : Option Addr) (b : Nat) {et : TypeId} {size n c : Nat} {xs : List Value} {R1 : HP} {o : Obj} [h1 : PickS H A et size n c xs R1] [h2 : PickB R1 b o R] : H = (sbuf et size A n c xs * blk b o) * R := by
  rw [PickS.eq (H := H) (A := A), h2.eq, star_assoc]
theorem pickS (A : Option Addr) {et : TypeId} {size n c : Nat} {xs : List Value} [h1 : PickS H A et size n c xs R] : H = sbuf et size A n c xs * R := h1.eq
/-- Fewer of a buffer. -/
theorem Xx.lessT (b m : Nat) {et : TypeId} {size n c : Nat} {xs : List Value} [hp : PickS H (some ⟨b, 0, none⟩) et size n c xs R] (hm : m ≤ n)
    (h : Xx e ds K ρ B (sbuf et size (some ⟨b, 0, none⟩) m c (xs.take (m * size)) * R)) : Xx e ds K ρ B H :=
  Xx.perm (fun a w f b' s => by
    rcases s.cases_sbuf with ⟨h1, _⟩ | ⟨bb, sp, h1, h2, h3, h4, s2⟩
    · cases h1
    · injection h1 with h1
      injection h1 with h1
      subst h1
      have hle : m * size ≤ n * size := Nat.mul_le_mul_right _ hm
      refine h a w f b' (St.of_sbuf (sp := xs.drop (m * size) ++ sp) (by rw [List.length_take]; omega) (by omega) (by rw [← List.append_assoc, List.take_append_drop]; exact h4) ?_)
      rw [← List.append_assoc, List.take_append_drop]; exact s2) hp.eq
end
end Go.SL

/-
  Loops whose marks grow (a range over a function in a loop); append within a row; clear of a row's part.
-/
namespace Go.SL
open Go.RowKit
set_option linter.unusedVariables false
set_option linter.unusedSimpArgs false
/-- A round has gone by; the marks may be others. -/
def LKd (e : Env) (I : Nat → List Deferred → Sl → Frag → HP → Prop) (m : Nat) (a : Act) (w : World) : Prop :=
  ∃ m' ds ρ B H, m' < m ∧ I m' ds ρ B H ∧ Fr ρ e.nt ds a ∧ Below e.N0 e.w0 w ∧ St e.N0 B H w
section
variable {e : Env} {ds : List Deferred} {Q : Exit → Act → World → Prop} {ρ ρ' : Sl} {B : Frag} {H : HP}
theorem Xx.againD {I : Nat → List Deferred → Sl → Frag → HP → Prop} {m m' : Nat} (hi : I m' ds ρ' B H) (hm : m' < m) (hs : Sub ρ ρ') : Xx e ds (LKd e I m) ρ B H := fun _ _ f b s => ⟨m', ds, ρ', B, H, hm, hi, f.sub hs, b, s⟩
open Classical in
theorem Cx.loopD {c : Code} (I : Nat → List Deferred → Sl → Frag → HP → Prop) {m : Nat} (h0 : I m ds ρ' B H) (hs : Sub ρ ρ')
    (round : ∀ m ds ρ B H, I m ds ρ B H → Cx e ds c (Exit.then (LKd e I m) Q) ρ B H) : Cx e ds (.loop c) Q ρ B H := by
  intro a w f b s
  let J : Nat → Act → World → Prop := fun m a w => ∃ ds ρ B H, I m ds ρ B H ∧ Fr ρ e.nt ds a ∧ Below e.N0 e.w0 w ∧ St e.N0 B H w
  let μ : Act → World → Nat := fun a w => if h : ∃ m, J m a w then Classical.choose (least h) else 0
  have hμ : ∀ m a w, J m a w → μ a w ≤ m ∧ J (μ a w) a w := by
    intro m a w h
    have hex : ∃ m, J m a w := ⟨m, h⟩
    simp only [μ, dif_pos hex]
    have := Classical.choose_spec (least hex)
    exact ⟨this.2 m h, this.1⟩
  refine wpIn_loop (fun a w => ∃ m, J m a w) μ ⟨m, ds, ρ', B, H, h0, f.sub hs, b, s⟩ ?_
  rintro a w ⟨m, hm⟩
  obtain ⟨_, ds1, ρ1, B1, H1, hi, f1, b1, s1⟩ := hμ m a w hm
  refine wpIn_mono (round _ ds1 ρ1 B1 H1 hi a w f1 b1 s1) fun ex a' w' q => ?_
  cases ex with
  | normal =>
    obtain ⟨m', ds2, ρ2, B2, H2, hlt, hi2, f2, b2, s2⟩ := q
    have hj : J m' a' w' := ⟨ds2, ρ2, B2, H2, hi2, f2, b2, s2⟩
    exact ⟨⟨m', hj⟩, Nat.lt_of_le_of_lt (hμ m' a' w' hj).1 hlt⟩
  | exit id => exact q
  | goto l => exact q
  | ret => exact q
  | panic c => exact q
  | outgrown => exact q
/-- A loop in which functions are ranged over: Ds the marks; σ: the slots that it leaves alone. -/
abbrev KD (σ : Sl) (I : Nat → List Nat → Sl → Frag → HP → Prop) : Nat → List Deferred → Sl → Frag → HP → Prop :=
  fun m ds ρ B H => ∃ Ds ρ', ds = List.map mark Ds ∧ ρ = ρ' ++ σ ∧ I m Ds ρ' B H
theorem Cx.loopKD {c : Code} {σ : Sl} (hσ : Sub ρ σ) (I : Nat → List Nat → Sl → Frag → HP → Prop) {m : Nat} (Ds : List Nat) (hds : ds = List.map mark Ds) (h0 : I m Ds ρ' B H) (hs : Sub ρ (ρ' ++ σ))
    (round : ∀ m Ds ρ' B H, I m Ds ρ' B H → Cx e (List.map mark Ds) c (Exit.then (LKd e (KD σ I) m) Q) (ρ' ++ σ) B H) : Cx e ds (.loop c) Q ρ B H :=
  Cx.loopD (KD σ I) ⟨Ds, ρ', hds, rfl, h0⟩ hs fun m ds ρ B H ⟨Ds, ρ', h1, h2, h3⟩ => by subst h1; subst h2; exact round m Ds ρ' B H h3
theorem Xx.againKD {σ : Sl} {I : Nat → List Nat → Sl → Frag → HP → Prop} {m m' : Nat} (Ds : List Nat) (hds : ds = List.map mark Ds) (hi : I m' Ds ρ' B H) (hm : m' < m) (hs : Sub ρ (ρ' ++ σ)) : Xx e ds (LKd e (KD σ I) m) ρ B H :=
  Xx.againD ⟨Ds, ρ', hds, rfl, hi⟩ hm hs
/-- At a function's end, without a return. -/
theorem Xx.eM {P : Program} {r : Option Nat} {N0 nt : Nat} {w0 : World} {B0 : Frag} {H' R : HP} {fn : Func} {Φ : Value → Frag → HP → Prop} {v : Value} (Ds : List Nat) (hds : ds = List.map mark Ds) (hr : ∀ a w, Fr ρ nt ds a → St N0 B (H' * R) w → (results fn a.tmps).run P w = .ok v w)
    (hΦ : Φ v B H') (hB : B0.le B) (hH : H = marks Ds * (H' * R)) : Xx ⟨P, r, N0, w0, nt⟩ ds (bodyPostM (FW none) 0 P fn (Fin N0 w0 R B0 Φ) .normal) ρ B H := by
  subst hds
  exact Xx.rM hr hΦ hB hH
/-- The marks' blocks. -/
theorem marks_cons (D : Nat) (l : List Nat) : marks (D :: l) = blk D dfr * marks l := rfl
theorem marks_nil : marks [] = 1 := rfl
end
section
variable {e : Env} {ds : List Deferred} {ρ : Sl} {B : Frag} {H R : HP} {t tx et et' ty tyx : TypeId} {x y : Operand} {size bytes nl nx c cx b o : Nat} {zs news cs cs' : List Value} {Ax : Option Addr}
/-- append in the row itself, where there is room, out of whatever source. -/
theorem apR (ht : e.P.underlying t = some (.slice et)) (htx : e.P.underlying tx = some (.slice tyx)) (hz : TI e.P et zs size bytes)
    (hx : ev ρ x = some (.slice (some ⟨b, o, none⟩) nl c)) (hy : ev ρ y = some (.slice Ax nx cx)) [hp : PickB H b (.cells cs.toArray et (0, 0)) R]
    (hS : SrcH e.N0 B H Ax news) (hl : news.length = nx * size) (h1 : news.all (·.oneCell') = true) (hroom : nl + nx ≤ c) (hfit : o + nl * size + news.length ≤ cs.length) (hr : cs.take (o + nl * size) ++ news ++ cs.drop (o + nl * size + news.length) = cs') :
    Ox e ds (.call { callee := .builtin .append, args := #[x, y], argTypes := #[t, tx] }) ty ρ B H (fun v B' H' => v = .slice (some ⟨b, o, none⟩) (nl + nx) c ∧ B' = B ∧ H' = row b et cs' * R) :=
  .of_run (fun _ h => by cases h) fun f w dst pos after guard he s => by
    subst hr
    obtain ⟨i, zv, z1, z2, z3, z4, z5, z6, z7⟩ := hz
    have s' : St e.N0 B (blk b (.cells cs.toArray et (0, 0)) * R) w := hp.eq ▸ s
    have hfc := St.src (P := e.P) (nx := nx) hS hl s nx cx
    have hst := run_storeCells_at (P := e.P) b (o + nl * size) et news 0 cs.toArray w s'.blk.1 (by simpa using hfit) (by simpa using h1)
    simp only [List.toList_toArray, Nat.add_zero] at hst
    have hap : (Builtin.append_ #[t, tx] ty #[.slice (some ⟨b, o, none⟩) nl c, .slice Ax nx cx]).run e.P w = .ok (.slice (some ⟨b, o, none⟩) (nl + nx) c) (w.setRow b (cs.take (o + nl * size) ++ news ++ cs.drop (o + nl * size + news.length)).toArray) := by
      simp only [Builtin.append_, Sem.run_bind, Sem.run_pure, Result.andThen, run_underlying ht, run_underlying htx, sizeOf, typeInfo, run_program, z1, z4, Builtin.lenOf, hroom, if_true, hfc, add_mk, hst, List.getElem?_toArray, List.getElem?_cons_zero, List.getElem?_cons_succ]
      simp [hroom, hfc, hst]
    refine ⟨_, _, B, _, ?_, ⟨rfl, rfl, rfl⟩, Frag.le_refl _, (s'.setRow _).2, (s'.setRow _).1⟩
    simp [execOp, resolve, he _ _ hx, he _ _ hy, invoke, builtin, hap]
/-- A slice cut at both ends and in its room. -/
theorem sl4V {P : Program} {S : World → Prop} {A : Option Addr} {n : Nat} {lo hi mx : Operand} {k1 k2 k3 : IntKind} {m z q : Int} (ht : P.underlying t = some (.slice et)) (hs : (P.info? et).map (·.size) = some size) (hx : ev ρ x = some (.slice A n c))
    (hl : ev ρ lo = some (.int k1 m)) (hh : ev ρ hi = some (.int k2 z)) (hm : ev ρ mx = some (.int k3 q)) (h0 : 0 ≤ m) (h1 : m ≤ z) (h2 : z ≤ q) (h3 : q ≤ c) :
    Yx P (.slice t x (some lo) (some hi) (some mx)) ty ρ S (.slice (subA A q.toNat m.toNat size) (z.toNat - m.toNat) (q.toNat - m.toNat)) := .of (fun _ h => by cases h) fun f w _ _ _ _ he _ => by
  have g1 : m ≤ (z.toNat : Int) := by omega
  have g2 : z ≤ (q.toNat : Int) := by omega
  have g3 : 0 ≤ z := by omega
  have g4 : 0 ≤ q := by omega
  have hb : (Instr.sliceBounds true n c (some (.int k1 m)) (some (.int k2 z)) (some (.int k3 q))).run P w = .ok (m.toNat, z.toNat, q.toNat) w := by
    simp [Instr.sliceBounds, Instr.sliceBound, asIntOf, h0, h1, h2, h3, g1, g2, g3, g4]
    rw [show max q 0 = q by omega, show max z 0 = z by omega, if_pos h2, if_pos h1]
  cases hq : P.info? et with
  | none => simp [hq] at hs
  | some i =>
    have hi' : i.size = size := by simpa [hq] using hs
    have : (Instr.sliceAt t (.slice A n c) (some (.int k1 m)) (some (.int k2 z)) (some (.int k3 q))).run P w = .ok (.slice (subA A q.toNat m.toNat size) (z.toNat - m.toNat) (q.toNat - m.toNat)) w := by
      simp only [Instr.sliceAt, Sem.run_bind, run_underlying ht, Result.andThen, Instr.slice, hb, sizeOf, typeInfo, run_program, hq, hi', Sem.run_pure, subA]
    simp only [execOp, Option.map_some, he _ _ hx, he _ _ hl, he _ _ hh, he _ _ hm, Sem.run_bind, this, Result.andThen, Sem.run_pure]
/-- The part of a row behind a place, as a source. -/
theorem SrcH.sub {N0 j n : Nat} {xs sp : List Value} {fz : Nat × Nat} [hp : PickB H b (.cells (xs ++ sp).toArray et fz) R] (hx : xs.length = n * size) (hj : j ≤ n) (hn : n ≤ c) : SrcH N0 B H (subA (some ⟨b, 0, none⟩) c j size) (xs.drop (j * size)) := by
  by_cases e : c = j
  · exact .inl (List.drop_of_length_le (by rw [hx]; exact Nat.mul_le_mul_right _ (by omega)))
  · have e9 : subA (some ⟨b, 0, none⟩) c j size = some ⟨b, 0 + j * size, none⟩ := by
      unfold subA; rw [if_neg e]; simp [add_mk]
    rw [e9]
    have hle : j * size ≤ n * size := Nat.mul_le_mul_right _ hj
    refine SrcH.own (n * size - j * size) ?_
    rw [Nat.zero_add, List.drop_append_of_le_length (by omega), List.take_append_of_le_length (by rw [List.length_drop]; omega), List.take_of_length_le (by rw [List.length_drop]; omega)]
/-- What is cut off ahead and behind, where the slice has an address. -/
theorem sl3A {P : Program} {S : World → Prop} {n : Nat} {lo hi : Operand} {k1 k2 : IntKind} {m z : Int} (i j : Nat) (ht : P.underlying t = some (.slice et)) (hs : (P.info? et).map (·.size) = some size) (hx : ev ρ x = some (.slice (some ⟨b, o, none⟩) n c)) (hl : ev ρ lo = some (.int k1 m)) (hh : ev ρ hi = some (.int k2 z)) (hi' : m = (i : Nat)) (hj : z = (j : Nat)) (h1 : i ≤ j) (h2 : j ≤ c) (h3 : i < c) :
    Yx P (.slice t x (some lo) (some hi) none) ty ρ S (.slice (some ⟨b, o + i * size, none⟩) (j - i) (c - i)) := by
  subst hi' hj
  have h := sl3V (P := P) (S := S) (ty := ty) ht hs hx hl hh (i := i) (j := j) (Int.toNat_natCast i) (Int.toNat_natCast j) (by omega) (by omega) (by omega)
  have e9 : subA (some ⟨b, o, none⟩) c i size = some ⟨b, o + i * size, none⟩ := by
    unfold subA; rw [if_neg (by omega)]; simp [add_mk]
  rw [e9] at h; exact h
/-- clear of a slice in a row of one's own. -/
theorem clO {k : Nat} (ht : e.P.underlying t = some (.slice et)) (hz : TI e.P et zs size bytes) (hx : ev ρ x = some (.slice (some ⟨b, o, none⟩) k c)) [hp : PickB H b (.cells cs.toArray et (0, 0)) R]
    (hk : 0 < k) (h1 : zs.all (·.oneCell') = true) (hfit : o + k * size ≤ cs.length) :
    Ox e ds (.call { callee := .builtin .clear, args := #[x], argTypes := #[t] }) ty ρ B H (fun v B' H' => v = .tuple #[] ∧ B' = B ∧ ∃ zz : List Value, zz.length = k * size ∧ H' = row b et (cs.take o ++ zz ++ cs.drop (o + k * size)) * R) :=
  .of_run (fun _ h => by cases h) fun f w dst pos after guard he s => by
    obtain ⟨i, zv, z1, z2, z3, z4, z5, z6, z7⟩ := hz
    have s' : St e.N0 B (blk b (.cells cs.toArray et (0, 0)) * R) w := hp.eq ▸ s
    obtain ⟨zz, hzz, hzl, hz1⟩ : ∃ zz : List Value, (Builtin.zeroCells zv.cells k).toList = zz ∧ zz.length = k * size ∧ zz.all (·.oneCell') = true := by
      refine ⟨_, rfl, by simp [Builtin.zeroCells, z3, z6], ?_⟩
      rw [List.all_eq_true] at h1 ⊢
      intro v hv
      simp only [Builtin.zeroCells, z3] at hv
      simp at hv
      obtain ⟨q, _, rfl⟩ := hv
      have hq : q % zs.length < zs.length := Nat.mod_lt _ (by omega)
      rw [List.getElem?_eq_getElem hq]
      exact h1 _ (List.getElem_mem hq)
    have hst := run_storeCells_at (P := e.P) b o et zz 0 cs.toArray w s'.blk.1 (by rw [hzl]; simpa using hfit) (by simpa using hz1)
    simp only [List.toList_toArray, Nat.add_zero, hzl] at hst
    obtain ⟨k, rfl⟩ : ∃ k', k = k' + 1 := ⟨k - 1, by omega⟩
    have hcl : (Builtin.clear_ #[t] ty #[.slice (some ⟨b, o, none⟩) (k + 1) c]).run e.P w = .ok (.tuple #[]) (w.setRow b (cs.take o ++ zz ++ cs.drop (o + (k + 1) * size)).toArray) := by
      simp [Builtin.clear_, run_underlying ht, zeroValue, typeInfo, z1, z2, hzz, hst]
    refine ⟨_, _, B, _, ?_, ⟨rfl, rfl, zz, hzl, rfl⟩, Frag.le_refl _, (s'.setRow _).2, (s'.setRow _).1⟩
    simp [execOp, resolve, he _ _ hx, invoke, builtin, hcl]
/-- A literal slice of nothing, as a buffer. -/
theorem bslZ (ht : e.P.underlying t = some (.slice et)) (hz : TI e.P et zs size bytes) :
    Ox e ds (.buildSlice t 0 #[]) ty ρ B H (fun v B' H' => ∃ b, v = .slice (some ⟨b, 0, none⟩) 0 0 ∧ B' = B ∧ H' = sbuf et size (some ⟨b, 0, none⟩) 0 0 [] * H) :=
  have h := bslO (e := e) (ds := ds) (ρ := ρ) (B := B) (H := H) (ty := ty) (parts := #[]) (vs := []) (len := 0) ht hz rfl rfl (fun v hv => by cases hv) (by omega)
  ⟨h.1, fun a w dst pos after guard K Q f b s k => h.2 a w dst pos after guard K Q f b s fun v B' H' w' ⟨b1, e1, e2, e3⟩ hB hb hs => k v B' _ w' ⟨b1, e1, e2, rfl⟩ hB hb (by
    subst e3
    exact St.of_sbuf (xs := []) (sp := []) (by simp) (Nat.le_refl _) (by simp) hs)⟩
/-- append to a buffer out of what is only read. -/
theorem appB {A : Option Addr} {xs : List Value} (n' : Nat) (xs' : List Value) (ht : e.P.underlying t = some (.slice et)) (htx : e.P.underlying tx = some (.slice tyx)) (hz : TI e.P et zs size bytes)
    (hx : ev ρ x = some (.slice A nl c)) (hy : ev ρ y = some (.slice Ax nx cx)) [hp : PickS H A et size nl c xs R] (hs : RoS B size Ax nx news) (h1 : news.all (·.oneCell') = true)
    (hb : nl + nx ≤ 9223372036854775807) (hbb : (nl + nx) * bytes ≤ 140737488355328) (hn : nl + nx = n') (hxs : xs ++ news = xs') :
    Ox e ds (.call { callee := .builtin .append, args := #[x, y], argTypes := #[t, tx] }) ty ρ B H
      (fun v B' H' => ∃ A' c', v = .slice A' n' c' ∧ (0 < n' → ∃ b, A' = some ⟨b, 0, none⟩) ∧ n' ≤ c' ∧ B' = B ∧ H' = sbuf et size A' n' c' xs' * R) := by
  subst hn hxs
  have h := appO (e := e) (ds := ds) (ρ := ρ) (B := B) (H := H) (ty := ty) (R := R) (p := 1) ht htx hz hx hy (hs.src 1) h1 (by rw [one_star]; exact hp.eq) hb hbb
  exact ⟨h.1, fun a w dst pos after guard K Q f b s k => h.2 a w dst pos after guard K Q f b s fun v B' H' w' ⟨A', c', e1, e2, e3, e4, e5, e6⟩ hB hb hs => k v B' _ w' ⟨A', c', e1, e2, e4, e5, rfl⟩ hB hb (by rw [e6, one_star] at hs; exact hs)⟩
theorem RoS.take {B : Frag} {n j : Nat} {A : Option Addr} {xs : List Value} (h : RoS B size A n xs) (hj : j ≤ n) : RoS B size A j (xs.take (j * size)) := by
  have hle : j * size ≤ n * size := Nat.mul_le_mul_right _ hj
  obtain ⟨h1, ⟨h2, h3⟩ | ⟨b2, o, cs, et, fz, h3, h4, h5⟩⟩ := h
  · exact ⟨by rw [List.length_take]; omega, .inl ⟨h2, by omega⟩⟩
  · exact ⟨by rw [List.length_take]; omega, .inr ⟨b2, o, cs, et, fz, h3, h4, by rw [← h5, List.take_take, Nat.min_eq_left hle]⟩⟩
theorem RoS.sub {B : Frag} {n j c : Nat} {A : Option Addr} {xs : List Value} (h : RoS B size A n xs) (hj : j ≤ n) (hn : n ≤ c) : RoS B size (subA A c j size) (n - j) (xs.drop (j * size)) := by
  have hle : j * size ≤ n * size := Nat.mul_le_mul_right _ hj
  have e : (n - j) * size = n * size - j * size := Nat.sub_mul _ _ _
  obtain ⟨h1, ⟨h2, h3⟩ | ⟨b2, o, cs, et, fz, h3, h4, h5⟩⟩ := h
  · subst h2
    exact ⟨by rw [List.length_drop]; omega, .inl ⟨subA_none _ _ _, by omega⟩⟩
  · subst h3
    refine ⟨by rw [List.length_drop]; omega, .inr ?_⟩
    by_cases hc : c = j
    · have hnj : n = j := by omega
      refine ⟨b2, o, cs, et, fz, by unfold subA; rw [if_pos hc], h4, ?_⟩
      subst hnj
      rw [Nat.sub_self, Nat.zero_mul, List.take_zero, List.drop_of_length_le (by omega)]
    · refine ⟨b2, o + j * size, cs, et, fz, by unfold subA; rw [if_neg hc]; simp [add_mk], h4, ?_⟩
      rw [← h5, e, ← List.drop_drop, List.drop_take]
end
end Go.SL

/-
  Maps from numbers: made, asked, written, ranged over.
-/
namespace Go.SL
open Go.RowKit
open Go.ChangeMaps (setBlock)
set_option linter.unusedVariables false
set_option linter.unusedSimpArgs false
/-- An entry: its key, its value, its stamp. -/
abbrev Me := Int × Value × Nat
def me (t : Me) : MapEntry := ⟨.int .i64 t.1, t.2.1, t.2.2⟩
def Stp (T : List Me) (c : Nat) : Prop := (T.map fun t => t.2.2).Nodup ∧ ∀ t ∈ T, t.2.2 < c
def kvs (T : List Me) : List (Int × Value) := T.map fun t => (t.1, t.2.1)
abbrev mapObj (T : List Me) (c : Nat) : Obj := .map (T.map me).toArray c
/-- A map of one's own, with these pairs, as they came. -/
def imap (b : Nat) (l : List (Int × Value)) : HP := fun h => ∃ T c, Stp T c ∧ kvs T = l ∧ blk b (mapObj T c) h
def mget (k : Int) : List (Int × Value) → Option Value
  | [] => none
  | (j, v) :: l => if k = j then some v else mget k l
def mset (k : Int) (v : Value) : List (Int × Value) → List (Int × Value)
  | [] => [(k, v)]
  | (j, u) :: l => if k = j then (k, v) :: l else (j, u) :: mset k v l
def mdel (k : Int) : List (Int × Value) → List (Int × Value)
  | [] => []
  | (j, u) :: l => if k = j then l else (j, u) :: mdel k l
def mix (k : Int) : List Me → Option (Nat × Value)
  | [] => none
  | t :: T => if k = t.1 then some (0, t.2.1) else (mix k T).map fun p => (p.1 + 1, p.2)
theorem mix_get (k : Int) (T : List Me) : (mix k T).map (·.2) = mget k (kvs T) := by
  induction T with
  | nil => rfl
  | cons t T ih =>
    show _ = mget k ((t.1, t.2.1) :: kvs T)
    simp only [mix, mget]
    split
    · rfl
    · rw [← ih, Option.map_map]; rfl
theorem find_me (k : Int) : ∀ (T : List Me) (i : Nat), Instr.findNow (.int .i64) (.int .i64 k) (T.map me) i = some ((mix k T).map fun p => (i + p.1, p.2)) := by
  intro T
  induction T with
  | nil => intro i; rfl
  | cons t T ih =>
    intro i
    show (match Instr.sameNow (.int .i64) (.int .i64 k) (.int .i64 t.1) with | some true => some (some (i, t.2.1)) | some false => Instr.findNow (.int .i64) (.int .i64 k) (T.map me) (i + 1) | none => none) = _
    have e : Instr.sameNow (.int .i64) (.int .i64 k) (.int .i64 t.1) = some (k == t.1) := by simp [Instr.sameNow]
    rw [e]
    by_cases h : k = t.1
    · rw [beq_iff_eq.2 h]
      simp [mix, h]
    · rw [beq_eq_false_iff_ne.2 h]
      simp only [mix, if_neg h, ih, Option.map_map]
      congr 2
      funext p
      simp only [Function.comp_apply, Prod.mk.injEq, and_true]
      omega
section
variable {P : Program} {w : World} {t kt et : TypeId} {b c : Nat} {T : List Me} {k : Int}
theorem run_find (hk : P.underlying kt = some (.int .i64)) : (Instr.findKey kt (.int .i64 k) (T.map me)).run P w = .ok (mix k T) w := by
  simp only [Instr.findKey, Sem.run_bind, run_underlying hk, Result.andThen, find_me, Sem.run_pure]
  simp
theorem run_check (hk : P.underlying kt = some (.int .i64)) (e : Bool) : (Instr.checkKey e 10000 kt (.int .i64 k)).run P w = .ok () w := by
  have h : ∀ n, (Instr.checkKey e (n + 1) kt (.int .i64 k)).run P w = .ok () w := fun n => by simp [Instr.checkKey, run_underlying hk, Result.andThen]
  exact h 9999
theorem run_look (ht : P.underlying t = some (.map kt et)) (hk : P.underlying kt = some (.int .i64)) (hb : w.heap[b]? = some (mapObj T c)) {z : Value} (hz : (zeroValue et).run P w = .ok z w) (ok : Bool) :
    (Instr.lookup t (.map (some b)) (.int .i64 k) ok).run P w = .ok (if ok then .tuple #[(mget k (kvs T)).getD z, .bool (mget k (kvs T)).isSome] else (mget k (kvs T)).getD z) w := by
  rw [← mix_get]
  cases h : mix k T with
  | none => simp [Instr.lookup, run_underlying ht, MapKept.run_getObj_map hb, run_check hk, run_find hk, h, hz, Result.andThen]
  | some p => simp [Instr.lookup, run_underlying ht, MapKept.run_getObj_map hb, run_check hk, run_find hk, h, Result.andThen]
theorem mix_at : ∀ {T : List Me} {p : Nat × Value}, mix k T = some p → ∃ t, T[p.1]? = some t ∧ t.1 = k ∧ t.2.1 = p.2 := by
  intro T
  induction T with
  | nil => intro p h; cases h
  | cons t T ih =>
    intro p h
    simp only [mix] at h
    split at h
    · rename_i e
      cases h
      exact ⟨t, rfl, e.symm, rfl⟩
    · obtain ⟨q, hq, rfl⟩ := Option.map_eq_some_iff.1 h
      obtain ⟨u, h1, h2, h3⟩ := ih hq
      exact ⟨u, by simpa using h1, h2, h3⟩
def newV (k : Int) (v : Value) (t : Me) : Me := (k, v, t.2.2)
theorem kvs_mod {v : Value} : ∀ {T : List Me} {p : Nat × Value}, mix k T = some p → kvs (T.modify p.1 (newV k v)) = mset k v (kvs T) := by
  intro T
  induction T with
  | nil => intro p h; cases h
  | cons t T ih =>
    intro p h
    show _ = mset k v ((t.1, t.2.1) :: kvs T)
    simp only [mix] at h
    split at h
    · rename_i e
      cases h
      simp only [mset, if_pos e]
      rfl
    · rename_i e
      obtain ⟨q, hq, rfl⟩ := Option.map_eq_some_iff.1 h
      simp only [mset, if_neg e, ← ih hq]
      rfl
theorem kvs_push {v : Value} : ∀ {T : List Me}, mix k T = none → kvs (T ++ [(k, v, c)]) = mset k v (kvs T) := by
  intro T
  induction T with
  | nil => intro h; rfl
  | cons t T ih =>
    intro h
    show (t.1, t.2.1) :: kvs (T ++ [(k, v, c)]) = mset k v ((t.1, t.2.1) :: kvs T)
    simp only [mix] at h
    split at h
    · cases h
    · rename_i e
      simp only [mset, if_neg e]
      rw [ih (by simpa using h)]
theorem kvs_del : ∀ {T : List Me} {p : Nat × Value}, mix k T = some p → kvs (T.eraseIdx p.1) = mdel k (kvs T) := by
  intro T
  induction T with
  | nil => intro p h; cases h
  | cons t T ih =>
    intro p h
    show _ = mdel k ((t.1, t.2.1) :: kvs T)
    simp only [mix] at h
    split at h
    · rename_i e
      cases h
      simp only [mdel, if_pos e]
      rfl
    · rename_i e
      obtain ⟨q, hq, rfl⟩ := Option.map_eq_some_iff.1 h
      simp only [mdel, if_neg e, ← ih hq]
      rfl
theorem kvs_none : ∀ {T : List Me}, mix k T = none → mdel k (kvs T) = kvs T := by
  intro T
  induction T with
  | nil => intro h; rfl
  | cons t T ih =>
    intro h
    show mdel k ((t.1, t.2.1) :: kvs T) = (t.1, t.2.1) :: kvs T
    simp only [mix] at h
    split at h
    · cases h
    · rename_i e
      simp only [mdel, if_neg e]
      rw [ih (by simpa using h)]
theorem map_modify {α β : Type} (f : α → β) (g : α → α) (g' : β → β) (h : ∀ x, f (g x) = g' (f x)) : ∀ (l : List α) (j : Nat), (l.modify j g).map f = (l.map f).modify j g' := by
  intro l
  induction l with
  | nil => intro j; simp
  | cons x l ih =>
    intro j
    cases j with
    | zero => simp [h]
    | succ j => simp [ih]
theorem Stp.push {v : Value} (h : Stp T c) : Stp (T ++ [(k, v, c)]) (c + 1) := by
  obtain ⟨h1, h2⟩ := h
  refine ⟨?_, fun t ht => ?_⟩
  · rw [List.map_append, List.nodup_append]
    refine ⟨h1, by simp, fun a ha b hb => ?_⟩
    obtain ⟨t, ht, rfl⟩ := List.mem_map.1 ha
    have := h2 t ht
    simp at hb
    omega
  · rcases List.mem_append.1 ht with ht | ht
    · have := h2 t ht; omega
    · simp at ht; subst ht; exact Nat.lt_succ_self _
theorem Stp.stamps {T' : List Me} (h : Stp T c) (e : T'.map (fun t => t.2.2) = T.map fun t => t.2.2) : Stp T' c := by
  refine ⟨by rw [e]; exact h.1, fun t ht => ?_⟩
  have : t.2.2 ∈ T'.map (fun t => t.2.2) := List.mem_map.2 ⟨t, ht, rfl⟩
  rw [e] at this
  obtain ⟨u, hu, e2⟩ := List.mem_map.1 this
  rw [← e2]; exact h.2 u hu
theorem Stp.mod {v : Value} {j : Nat} (h : Stp T c) : Stp (T.modify j (newV k v)) c := h.stamps (by
  rw [map_modify (fun t : Me => t.2.2) (newV k v) id (fun x => rfl)]
  induction T.map (fun t : Me => t.2.2) generalizing j with
  | nil => simp
  | cons x l ih => cases j with
    | zero => simp
    | succ j => simp [ih])
theorem Stp.del {j : Nat} (h : Stp T c) : Stp (T.eraseIdx j) c :=
  ⟨(h.1).sublist ((List.eraseIdx_sublist T j).map _), fun t ht => h.2 t ((List.eraseIdx_sublist T j).subset ht)⟩
theorem run_mset (ht : P.underlying t = some (.map kt et)) (hk : P.underlying kt = some (.int .i64)) (hb : w.heap[b]? = some (mapObj T c)) (hs : Stp T c) (v : Value) :
    ∃ T' c', (Instr.mapUpdate t (.map (some b)) (.int .i64 k) v).run P w = .ok () (setBlock w b (mapObj T' c')) ∧ Stp T' c' ∧ kvs T' = mset k v (kvs T) := by
  cases h : mix k T with
  | none =>
    refine ⟨T ++ [(k, v, c)], c + 1, ?_, hs.push, kvs_push h⟩
    have e : ((T ++ [(k, v, c)]).map me).toArray = (T.map me).toArray.push ⟨.int .i64 k, v, c⟩ := by
      apply Array.toList_inj.1; simp [me]
    unfold mapObj
    rw [e]
    simp [Instr.mapUpdate, run_underlying ht, MapKept.run_getObj_map hb, run_check hk, run_find hk, h, MapKept.run_setObj_map _ hb, Result.andThen, setBlock]
  | some p =>
    refine ⟨T.modify p.1 (newV k v), c, ?_, hs.mod, kvs_mod h⟩
    obtain ⟨u, hu, hk1, hk2⟩ := mix_at h
    have e : ((T.modify p.1 (newV k v)).map me).toArray = (T.map me).toArray.modify p.1 (fun e => { e with key := .int .i64 k, val := v }) := by
      apply Array.toList_inj.1
      rw [map_modify me (newV k v) (fun e => { e with key := .int .i64 k, val := v }) (fun x => rfl)]
      simp
    have hst : (Instr.keyThatStays (.int .i64 k) (.int .i64 k)).run P w = .ok (.int .i64 k) w := by
      simp [Instr.keyThatStays, Instr.sameBits]
    have hkey : (((T.map me)[p.1]?).map (·.key)).getD (.int .i64 k) = .int .i64 k := by
      rw [List.getElem?_map, hu]; simp [me, hk1]
    unfold mapObj
    rw [e]
    simp only [Instr.mapUpdate, Sem.run_bind, run_underlying ht, MapKept.run_getObj_map hb, run_check hk, run_find hk, h, Result.andThen, List.getElem?_toArray, hkey, hst, MapKept.run_setObj_map _ hb]
    rfl
theorem run_mdel {ty : TypeId} (ht : P.underlying t = some (.map kt et)) (hk : P.underlying kt = some (.int .i64)) (hb : w.heap[b]? = some (mapObj T c)) (hs : Stp T c) (kt' : TypeId) :
    ∃ T', (Builtin.delete_ #[t, kt'] ty #[.map (some b), .int .i64 k]).run P w = .ok (.tuple #[]) (setBlock w b (mapObj T' c)) ∧ Stp T' c ∧ kvs T' = mdel k (kvs T) := by
  cases h : mix k T with
  | none =>
    refine ⟨T, ?_, hs, (kvs_none h).symm⟩
    simp [Builtin.delete_, run_underlying ht, MapKept.run_getObj_map hb, run_check hk, run_find hk, h, MapKept.run_setObj_map _ hb, Result.andThen, setBlock]
  | some p =>
    refine ⟨T.eraseIdx p.1, ?_, hs.del, kvs_del h⟩
    obtain ⟨u, hu, _⟩ := mix_at h
    have hj : p.1 < T.length := (List.getElem?_eq_some_iff.1 hu).1
    have e : ((T.eraseIdx p.1).map me).toArray = (T.map me).toArray.eraseIdxIfInBounds p.1 := by
      apply Array.toList_inj.1
      unfold Array.eraseIdxIfInBounds
      rw [dif_pos (by simpa using hj), ChangeMaps.map_eraseIdx]
      simp
    unfold mapObj
    rw [e]
    simp [Builtin.delete_, run_underlying ht, MapKept.run_getObj_map hb, run_check hk, run_find hk, h, MapKept.run_setObj_map _ hb, Result.andThen, setBlock]
end
class PickM (H : HP) (b : Nat) (l : outParam (List (Int × Value))) (R : outParam HP) : Prop where
  eq : H = imap b l * R
instance (b : Nat) (l : List (Int × Value)) (R : HP) : PickM (imap b l * R) b l R := ⟨rfl⟩
instance (y H : HP) (b : Nat) (l : List (Int × Value)) (R : HP) [h : PickM H b l R] : PickM (y * H) b l (y * R) := ⟨by rw [h.eq, star_left]⟩
theorem St.imap {N0 b : Nat} {B : Frag} {R : HP} {w : World} {l : List (Int × Value)} (s : St N0 B (SL.imap b l * R) w) : ∃ T c, Stp T c ∧ kvs T = l ∧ St N0 B (SL.blk b (mapObj T c) * R) w := by
  obtain ⟨ro, sz, k, hk, h1, h2, d, e, ⟨T, c, hs, hl, hb⟩, y⟩ := s
  exact ⟨T, c, hs, hl, ro, sz, k, hk, h1, h2, d, e, hb, y⟩
theorem St.of_imap {N0 b c : Nat} {B : Frag} {R : HP} {w : World} {T : List Me} (hs : Stp T c) (s : St N0 B (SL.blk b (mapObj T c) * R) w) : St N0 B (SL.imap b (kvs T) * R) w := by
  obtain ⟨ro, sz, k, hk, h1, h2, d, e, hb, y⟩ := s
  exact ⟨ro, sz, k, hk, h1, h2, d, e, ⟨T, c, hs, rfl, hb⟩, y⟩
theorem heap_setBlock_ne (w : World) (b : Nat) (o : Obj) (j : Nat) (h : j ≠ b) : (setBlock w b o).heap[j]? = w.heap[j]? := by
  simp only [setBlock, Array.getElem?_setIfInBounds]
  rw [if_neg (by omega)]
theorem St.setBlk {N0 b : Nat} {B : Frag} {R : HP} {w : World} {o : Obj} (h : St N0 B (SL.blk b o * R) w) (o' : Obj) : St N0 B (SL.blk b o' * R) (setBlock w b o') ∧ Below N0 w (setBlock w b o') := by
  obtain ⟨h1, h2, h3⟩ := h.blk
  have hlt : b < w.heap.size := (Array.getElem?_eq_some_iff.1 h1).1
  refine ⟨h.put (by simp [setBlock, hlt]) (fun j hj => heap_setBlock_ne _ _ _ _ hj) (by simp [setBlock]), ⟨rfl, rfl, rfl, by simp [setBlock], fun j hj => heap_setBlock_ne _ _ _ _ (by omega)⟩⟩
section
variable {e : Env} {ds : List Deferred} {ρ : Sl} {B : Frag} {H R : HP} {t kt et ty tk : TypeId} {x y z : Operand} {b : Nat} {l : List (Int × Value)} {k : Int} {v zv : Value}
/-- A map is made. -/
theorem mkM : Ox e ds (.makeMap t none) ty ρ B H (fun v B' H' => ∃ b, v = .map (some b) ∧ B' = B ∧ H' = imap b [] * H) :=
  .of_run (fun _ h => by cases h) fun f w dst pos after guard he s => by
    refine ⟨.map (some w.heap.size), w.alloc (mapObj [] 0), B, _, ?_, ⟨w.heap.size, rfl, rfl, rfl⟩, Frag.le_refl _, Below.alloc (Below.refl _ w) s.sz _, St.of_imap (T := []) ⟨by simp, fun t h => by cases h⟩ (s.alloc _)⟩
    simp [execOp, Instr.makeMap, Result.andThen]
    rfl
/-- What stands at a key; a map of one's own. -/
theorem lkM {P : Program} {N0 : Nat} (ht : P.underlying t = some (.map kt et)) (hk : P.underlying kt = some (.int .i64)) (hz : ∀ w, (zeroValue et).run P w = .ok zv w) (hx : ev ρ x = some (.map (some b))) (hy : ev ρ y = some (.int .i64 k)) [hp : PickM H b l R] (hv : (mget k l).getD zv = v) :
    Yx P (.lookup t x y false) ty ρ (St N0 B H) v := .of (fun _ h => by cases h) fun f w _ _ _ _ he s => by
  subst hv
  have s' : St N0 B (imap b l * R) w := hp.eq ▸ s
  obtain ⟨T, c, hs, rfl, s2⟩ := s'.imap
  simp [execOp, he _ _ hx, he _ _ hy, run_look ht hk s2.blk.1 (hz w), Result.andThen]
theorem lkM2 {P : Program} {N0 : Nat} (ht : P.underlying t = some (.map kt et)) (hk : P.underlying kt = some (.int .i64)) (hz : ∀ w, (zeroValue et).run P w = .ok zv w) (hx : ev ρ x = some (.map (some b))) (hy : ev ρ y = some (.int .i64 k)) [hp : PickM H b l R] :
    Yx P (.lookup t x y true) ty ρ (St N0 B H) (.tuple #[(mget k l).getD zv, .bool (mget k l).isSome]) := .of (fun _ h => by cases h) fun f w _ _ _ _ he s => by
  have s' : St N0 B (imap b l * R) w := hp.eq ▸ s
  obtain ⟨T, c, hs, rfl, s2⟩ := s'.imap
  simp [execOp, he _ _ hx, he _ _ hy, run_look ht hk s2.blk.1 (hz w), Result.andThen]
/-- A pair is laid. -/
theorem stM (ht : e.P.underlying t = some (.map kt et)) (hk : e.P.underlying kt = some (.int .i64)) (hx : ev ρ x = some (.map (some b))) (hy : ev ρ y = some (.int .i64 k)) (hz : ev ρ z = some v) [hp : PickM H b l R] :
    Ox e ds (.mapUpdate t x y z) ty ρ B H (fun _ B' H' => B' = B ∧ H' = imap b (mset k v l) * R) :=
  .of_skip (fun _ h => by cases h) fun f w _ _ _ _ he s => by
    have s' : St e.N0 B (imap b l * R) w := hp.eq ▸ s
    obtain ⟨T, c, hs, rfl, s2⟩ := s'.imap
    obtain ⟨T', c', hr, hs', hl'⟩ := run_mset ht hk s2.blk.1 hs v
    refine ⟨setBlock w b (mapObj T' c'), B, _, ?_, ⟨rfl, rfl⟩, Frag.le_refl _, (s2.setBlk _).2, by rw [← hl']; exact St.of_imap hs' (s2.setBlk _).1⟩
    simp [execOp, he _ _ hx, he _ _ hy, he _ _ hz, hr, Result.andThen]
/-- A pair goes. -/
theorem delM (ht : e.P.underlying t = some (.map kt et)) (hk : e.P.underlying kt = some (.int .i64)) (hx : ev ρ x = some (.map (some b))) (hy : ev ρ y = some (.int .i64 k)) [hp : PickM H b l R] :
    Ox e ds (.call { callee := .builtin .delete, args := #[x, y], argTypes := #[t, tk] }) ty ρ B H (fun v B' H' => v = .tuple #[] ∧ B' = B ∧ H' = imap b (mdel k l) * R) :=
  .of_run (fun _ h => by cases h) fun f w dst pos after guard he s => by
    have s' : St e.N0 B (imap b l * R) w := hp.eq ▸ s
    obtain ⟨T, c, hs, rfl, s2⟩ := s'.imap
    obtain ⟨T', hr, hs', hl'⟩ := run_mdel (ty := ty) ht hk s2.blk.1 hs tk
    refine ⟨_, setBlock w b (mapObj T' c), B, _, ?_, ⟨rfl, rfl, rfl⟩, Frag.le_refl _, (s2.setBlk _).2, by rw [← hl']; exact St.of_imap hs' (s2.setBlk _).1⟩
    simp [execOp, resolve, he _ _ hx, he _ _ hy, invoke, builtin, hr]
/-- A map is opened as its block, to be ranged over. -/
theorem Xx.openM {K : Act → World → Prop} (b : Nat) [hp : PickM H b l R] (h : ∀ T c, Stp T c → kvs T = l → Xx e ds K ρ B (blk b (mapObj T c) * R)) : Xx e ds K ρ B H := fun a w f bl s => by
  have s' : St e.N0 B (imap b l * R) w := hp.eq ▸ s
  obtain ⟨T, c, hs, hl, s2⟩ := s'.imap
  exact h T c hs hl a w f bl s2
theorem Xx.closeM {K : Act → World → Prop} (b : Nat) {T : List Me} {c : Nat} [hp : PickB H b (mapObj T c) R] (hs : Stp T c) (h : Xx e ds K ρ B (imap b (kvs T) * R)) : Xx e ds K ρ B H := fun a w f bl s => by
  have s' : St e.N0 B (blk b (mapObj T c) * R) w := hp.eq ▸ s
  exact h a w f bl (St.of_imap hs s')
/-- The going over a map's pairs, of which some were handed out. -/
abbrev itObj (b c : Nat) (done : List Me) : Obj := .mapIter (some b) c (done.map fun t => t.2.2).toArray c
/-- What was handed out is the map's, each once. -/
def Vis (T done : List Me) : Prop := (∀ t ∈ done, t ∈ T) ∧ (done.map fun t => t.2.2).Nodup
theorem Vis.nil (T : List Me) : Vis T [] := ⟨fun t h => absurd h List.not_mem_nil, List.nodup_nil⟩
theorem Vis.step {T done : List Me} {t : Me} (h : Vis T done) (ht : t ∈ T) (hn : t.2.2 ∉ done.map fun t => t.2.2) : Vis T (done ++ [t]) := by
  refine ⟨fun u hu => ?_, ?_⟩
  · rcases List.mem_append.1 hu with hu | hu
    · exact h.1 u hu
    · rw [List.mem_singleton.1 hu]; exact ht
  · rw [List.map_append, List.nodup_append]
    refine ⟨h.2, by simp, fun a ha b hb => ?_⟩
    simp at hb
    subst hb
    exact fun e => hn (e ▸ ha)
theorem stamp_inj : ∀ {T : List Me}, (T.map fun t => t.2.2).Nodup → ∀ {a b : Me}, a ∈ T → b ∈ T → a.2.2 = b.2.2 → a = b := by
  intro T
  induction T with
  | nil => intro _ a b ha; cases ha
  | cons t T ih =>
    intro hn a b ha hb e
    rw [List.map_cons, List.nodup_cons] at hn
    rcases List.mem_cons.1 ha with h1 | ha
    · rcases List.mem_cons.1 hb with h2 | hb
      · rw [h1, h2]
      · exact absurd (List.mem_map.2 ⟨b, hb, by rw [← e, h1]⟩) hn.1
    · rcases List.mem_cons.1 hb with h2 | hb
      · exact absurd (List.mem_map.2 ⟨a, ha, by rw [e, h2]⟩) hn.1
      · exact ih hn.2 ha hb e
theorem nodup_of_map {α β : Type} (f : α → β) : ∀ {l : List α}, (l.map f).Nodup → l.Nodup := by
  intro l
  induction l with
  | nil => intro _; exact List.nodup_nil
  | cons x l ih =>
    intro h
    rw [List.map_cons, List.nodup_cons] at h
    exact List.nodup_cons.2 ⟨fun hx => h.1 (List.mem_map.2 ⟨x, hx, rfl⟩), ih h.2⟩
theorem Vis.all {T done : List Me} {c : Nat} (h : Vis T done) (hs : Stp T c) (hall : ∀ t ∈ T, t.2.2 ∈ done.map fun t => t.2.2) : done.Perm T := by
  refine (List.perm_ext_iff_of_nodup (nodup_of_map _ h.2) (nodup_of_map _ hs.1)).2 fun t => ⟨fun ht => h.1 t ht, fun ht => ?_⟩
  obtain ⟨u, hu, e⟩ := List.mem_map.1 (hall t ht)
  rw [← stamp_inj hs.1 (h.1 u hu) ht e]; exact hu
theorem nodup_len {α : Type} : ∀ (l m : List α), l.Nodup → (∀ x ∈ l, x ∈ m) → l.length ≤ m.length := by
  classical
  intro l
  induction l with
  | nil => intro m _ _; simp
  | cons x l ih =>
    intro m hn hm
    rw [List.nodup_cons] at hn
    have hx := hm x (by simp)
    have := ih (m.erase x) hn.2 fun y hy => (List.mem_erase_of_ne (fun e => hn.1 (by rw [← e]; exact hy))).2 (hm y (by simp [hy]))
    rw [List.length_erase_of_mem hx] at this
    have := List.length_pos_of_mem hx
    simp; omega
theorem Vis.len {T done : List Me} (h : Vis T done) : done.length ≤ T.length := nodup_len _ _ (nodup_of_map _ h.2) h.1
/-- A going over a map begins. -/
theorem rgM {T : List Me} {c : Nat} (ht : e.P.underlying t = some (.map kt et)) (hx : ev ρ x = some (.map (some b))) [hp : PickB H b (mapObj T c) R] :
    Ox e ds (.range t x) ty ρ B H (fun v B' H' => ∃ i, v = .pointer (some ⟨i, 0, none⟩) ∧ B' = B ∧ H' = blk i (itObj b c []) * H) :=
  .of_run (fun _ h => by cases h) fun f w dst pos after guard he s => by
    have s' : St e.N0 B (blk b (mapObj T c) * R) w := hp.eq ▸ s
    have hr := run_range_map (P := e.P) w t kt et b _ _ ht s'.blk.1
    refine ⟨_, w.alloc (itObj b c []), B, _, ?_, ⟨w.heap.size, rfl, rfl, rfl⟩, Frag.le_refl _, Below.alloc (Below.refl _ w) s.sz _, s.alloc _⟩
    simp [execOp, he _ _ hx, hr, Result.andThen]
    rfl
/-- What is told of one step. -/
def nx : Option Me → Array Value
  | none => #[.bool false]
  | some t => #[.bool true, .int .i64 t.1, t.2.1]
theorem nx0 (o : Option Me) : (nx o)[0]? = some (.bool o.isSome) := by cases o <;> rfl
/-- What is left. -/
def After (T done : List Me) (done' : List Me) : Option Me → Prop
  | none => done' = done ∧ ∀ t ∈ T, t.2.2 ∈ done.map fun t => t.2.2
  | some t => done' = done ++ [t] ∧ t ∈ T ∧ t.2.2 ∉ done.map fun t => t.2.2
end
theorem run_nextM {P : Program} {w : World} {ty : TypeId} {b c i : Nat} {T done : List Me} (hs : Stp T c) (hb : w.heap[b]? = some (mapObj T c)) (hi : w.heap[i]? = some (itObj b c done)) (hT : ∀ t ∈ done, t ∈ T) :
    ∃ o done' w', (Instr.next (.pointer (some ⟨i, 0, none⟩)) false ty).run P w = .ok (.tuple (nx o)) w' ∧ After T done done' o ∧ ((w' = w ∧ done' = done) ∨ ∃ w1 : World, (w1 = w ∨ w1 = w.drew) ∧ w' = setBlock w1 i (itObj b c done')) := by
  have hold : ∀ x ∈ (T.map me).toArray.toList, x.born < c := fun x hx => by
    simp at hx
    obtain ⟨a, b', c', hm, rfl⟩ := hx
    exact hs.2 _ hm
  simp only [Instr.next, getObj, Sem.run_bind, Sem.run, hi, hb, Result.andThen, next_test_false _ _ c c hold (Nat.le_refl _), Bool.false_eq_true, if_false]
  have hmem : ∀ x ∈ ((T.map me).toArray.filter (fun e => !((done.map fun t => t.2.2).toArray).contains e.born)).toList, ∃ t ∈ T, t.2.2 ∉ (done.map fun t => t.2.2) ∧ x = me t := fun x hx => by
    simp at hx
    obtain ⟨⟨a, b', c', hm, rfl⟩, hn⟩ := hx
    exact ⟨(a, b', c'), hm, by simpa [me] using hn, rfl⟩
  have hnone : ((T.map me).toArray.filter (fun e => !((done.map fun t => t.2.2).toArray).contains e.born)) = #[] → ∀ t ∈ T, t.2.2 ∈ done.map fun t => t.2.2 := fun h t ht => by
    rw [Array.filter_eq_empty_iff] at h
    have := h (me t) (by simp; exact ⟨_, _, _, ht, rfl⟩)
    simpa [me] using this
  generalize ((T.map me).toArray.filter (fun e => !((done.map fun t => t.2.2).toArray).contains e.born)) = L at hmem hnone ⊢
  have e1 : L.filter (fun x => decide (x.born < c)) = L := Array.filter_eq_self.2 (fun x hx => by
    obtain ⟨t, ht, _, rfl⟩ := hmem x (by simpa using hx)
    have := hs.2 t ht
    exact decide_eq_true this)
  have e2 : L.filter (fun x => decide (x.born ≥ c)) = #[] := by
    rw [Array.filter_eq_empty_iff]
    intro x hx
    obtain ⟨t, ht, _, rfl⟩ := hmem x (by simpa using hx)
    have := hs.2 t ht
    simp [me]
    omega
  simp only [e1, e2, Array.append_empty]
  by_cases h0 : L.size = 0
  · have hL : L = #[] := Array.eq_empty_of_size_eq_zero h0
    refine ⟨none, done, w, ?_, ⟨rfl, hnone hL⟩, .inl ⟨rfl, rfl⟩⟩
    subst hL
    simp [choose, Sem.run, Question.forced, nx]
  · have hne : L.isEmpty = false := by simp [Array.isEmpty, h0]
    simp only [hne, Bool.false_eq_true, if_false, Array.empty_append, Array.size_map]
    have hch : ∃ (j : Nat) (w1 : World), j < L.size ∧ (w1 = w ∨ w1 = w.drew) ∧ (choose (Question.mapNext L.size)).run P w = .ok j w1 := by
      by_cases hf : L.size ≤ 1
      · exact ⟨0, w, by omega, .inl rfl, by simp [choose, Sem.run, Question.forced, hf]⟩
      · exact ⟨_, w.drew, Nat.mod_lt _ (by omega), .inr rfl, by
          simp only [choose, Sem.run, Question.forced, decide_eq_true_eq, hf, if_false, Question.cut]
          rfl⟩
    obtain ⟨j, w1, hj, hal, hrun⟩ := hch
    obtain ⟨t, ht, hn, hx⟩ := hmem L[j] (by simp)
    refine ⟨some t, done ++ [t], setBlock w1 i (itObj b c (done ++ [t])), ?_, ⟨rfl, ht, hn⟩, .inr ⟨w1, hal, rfl⟩⟩
    have hi1 : w1.heap[i]? = some (itObj b c done) := by rcases hal with rfl | rfl <;> exact hi
    have hset : (setObj i (.mapIter (some b) c ((done.map fun t => t.2.2).toArray.push (L[j]).born) c)).run P w1 = .ok () (setBlock w1 i (itObj b c (done ++ [t]))) := by
      have e9 : itObj b c (done ++ [t]) = .mapIter (some b) c ((done.map fun t => t.2.2).toArray.push (L[j]).born) c := by
        unfold itObj
        rw [hx]
        congr 1
        apply Array.toList_inj.1
        simp [me]
      rw [e9]
      simp only [setObj, Sem.run, hi1]
      rfl
    simp only [hrun, Array.getElem?_map, Array.getElem?_eq_getElem hj, Option.map_some, Sem.run_bind, hset, Result.andThen]
    rw [hx]
    rfl
section
variable {e : Env} {ds : List Deferred} {ρ : Sl} {B : Frag} {H R R2 : HP} {ty : TypeId} {x : Operand} {b i c : Nat} {T done : List Me}
/-- One step of it. -/
theorem nxM (hs : Stp T c) (hv : Vis T done) (hx : ev ρ x = some (.pointer (some ⟨i, 0, none⟩))) [h1 : PickB H i (itObj b c done) R] [h2 : PickB R b (mapObj T c) R2] :
    Ox e ds (.next x false) ty ρ B H (fun v B' H' => ∃ o done', v = .tuple (nx o) ∧ After T done done' o ∧ B' = B ∧ H' = blk i (itObj b c done') * R) :=
  .of_run (fun _ h => by cases h) fun f w dst pos after guard he s => by
    have s1 : St e.N0 B (blk i (itObj b c done) * R) w := h1.eq ▸ s
    have s2 : St e.N0 B (blk b (mapObj T c) * R2) w := h2.eq ▸ s1.drop
    obtain ⟨o, done', w', hr, ha, hw⟩ := run_nextM (P := e.P) (ty := ty) hs s2.blk.1 s1.blk.1 hv.1
    refine ⟨_, w', B, _, ?_, ⟨o, done', rfl, ha, rfl, rfl⟩, Frag.le_refl _, ?_⟩
    · simp [execOp, he _ _ hx, hr, Result.andThen]
    · rcases hw with ⟨rfl, rfl⟩ | ⟨w1, hal, rfl⟩
      · exact ⟨Below.refl _ _, s1⟩
      · have s3 : St e.N0 B (blk i (itObj b c done) * R) w1 := by
          rcases hal with rfl | rfl
          · exact s1
          · exact s1.drew
        have hb1 : Below e.N0 w w1 := by
          rcases hal with rfl | rfl
          · exact Below.refl _ _
          · exact ⟨rfl, rfl, rfl, Nat.le_refl _, fun _ _ => rfl⟩
        exact ⟨hb1.trans (s3.setBlk _).2, (s3.setBlk _).1⟩
end
end Go.SL

/-
  Ranges over functions whose list is not known ahead; the going over a map of things; the library's sort of numbers.
-/
namespace Go.SL
open Go.RowKit
open Go.ChangeMaps (setBlock)
open Go.Sort Go.Proofs
set_option linter.unusedVariables false
set_option linter.unusedSimpArgs false
/-- An iterator's contract: what it hands to yield is told as it comes: Adm: what may have come so far; Fn: all that came. -/
def ItA (P : Program) (gf : FuncId) (caps : List Value) {α : Type} (enc : α → List Value) (Adm Fn : List α → Prop) (B : Frag) (own : HP) : Prop :=
  (∀ args w, (callFunc gf args).run P w = .ok (.enter gf args) w) ∧
  ∀ (l : Nat) (J Jx : List α → Frag → HP → Prop),
    (∀ pre x B1 H1, Adm (pre ++ [x]) → B.le B1 → J pre B1 H1 → Yd P l (enc x) B1 H1 fun t B' H' => (t = true ∧ J (pre ++ [x]) B' H') ∨ (t = false ∧ Jx (pre ++ [x]) B' H')) →
    ∀ B1 H1, B.le B1 → J [] B1 H1 → Ct P gf (.func (.yield l) #[] #[] :: caps) B1 (own * H1) fun v B' H' => ∃ H2, H' = own * H2 ∧ ((∃ xs, Fn xs ∧ J xs B' H2) ∨ ∃ pre, Jx pre B' H2)

section
variable {e : Env} {ds : List Deferred} {Q : Exit → Act → World → Prop} {ρ ρ' : Sl} {B B' B0 B1 : Frag} {H H' R : HP} {K : Act → World → Prop} {P : Program} {α : Type}
/-- A range over a function, outside of every other one. -/
theorem Cx.rangeAF {g : Operand} {ps : Array Tmp} {assign body : Code} {gf : FuncId} {caps : List Value} {enc : α → List Value} {Adm Fn : List α → Prop} {own H1 R : HP}
    (hr : e.r = none) (hg : ev ρ g = some (.func (.func gf) #[] caps.toArray)) (hIt : ItA e.P gf caps enc Adm Fn B own) (hH : H = own * (H1 * R)) (hnt : ps.toList.all (fun p => Nat.blt p e.nt) = true) (hps : ∀ x, (enc x).length = ps.size)
    (J : List α → Frag → HP → Prop) (Jx : Code → List α → Frag → HP → Prop) (AS : List α → α → Frag → Sl → Frag → HP → Prop) (h0 : J [] B H1)
    (hassign : ∀ (l N0 : Nat) (w0 : World) pre x B1 H1 (F : HP) (K : Act → World → Prop), Adm (pre ++ [x]) → B.le B1 → J pre B1 H1 →
      (∀ ρ' B' H', AS pre x B1 ρ' B' H' → B1.le B' → Xx ⟨e.P, some l, N0, w0, e.nt⟩ [] K ρ' B' (H' * F)) →
      Cx ⟨e.P, some l, N0, w0, e.nt⟩ [] assign (Exit.then K (fun _ _ _ => False)) (asgn ps.toList (enc x) ρ) B1 (H1 * F))
    (hbody : ∀ (l N0 : Nat) (w0 : World) pre x B1 (F : HP) ρ' B' H', Adm (pre ++ [x]) → B.le B1 → B1.le B' → AS pre x B1 ρ' B' H' → Cx ⟨e.P, some l, N0, w0, e.nt⟩ [] body (RQ N0 w0 B1 J Jx (pre ++ [x]) F) ρ' B' (H' * F))
    (hdone : ∀ D xs B' H', Fn xs → B.le B' → J xs B' H' → Xx e (mark D :: ds) (Q .normal) ρ B' (H' * (blk D dfr * (own * R))))
    (hstop : ∀ D c pre B' H', B.le B' → Jx c pre B' H' → Cx e (mark D :: ds) c Q ρ B' (H' * (blk D dfr * (own * R)))) :
    Cx e ds (.rangeFunc g ps assign body) Q ρ B H := by
  intro a w f b s
  refine wpIn_rangeFunc ?_
  intro fn _
  have hgv := f.ev _ _ hg
  have s1 := (s.alloc dfr).alloc (.loop (mkRec fn a.tmps ps assign body w.heap.size .ready none))
  have b1 : Below e.N0 e.w0 ((w.alloc dfr).alloc (.loop (mkRec fn a.tmps ps assign body w.heap.size .ready none))) := (b.alloc s.sz _).alloc (s.alloc dfr).sz _
  rw [World.size_alloc, hH] at s1
  -- the loop's record l, the block D
  generalize hl : w.heap.size + 1 = l at *
  generalize hD : w.heap.size = D at *
  generalize hw1 : (w.alloc dfr).alloc (.loop (mkRec fn a.tmps ps assign body D .ready none)) = w1 at *
  have s2 : St e.N0 B ((own * (H1 * (blk l (.loop (mkRec fn a.tmps ps assign body D .ready none)) * blk D dfr))) * R) w1 := by
    exact s1.of_eq (by ac_rfl)
  have heg := hIt.1 #[.func (.yield l) #[] #[], ] w1
  let J' : List α → Frag → HP → Prop := fun pre B' H' => ∃ H1, H' = H1 * (blk l (.loop (mkRec fn a.tmps ps assign body D .ready none)) * blk D dfr) ∧ J pre B' H1
  let Jx' : List α → Frag → HP → Prop := fun pre B' H' => ∃ c H1, H' = H1 * (blk l (.loop (mkRec fn a.tmps ps assign body D .done (some c))) * blk D dfr) ∧ Jx c pre B' H1
  have hct := hIt.2 l J' Jx' ?round B _ (Frag.le_refl _) ⟨H1, rfl, h0⟩
  case round =>
    rintro pre x B1 _ hxs hB1 ⟨H2, rfl, hJ⟩ N0 wy Rf sy
    have hrl : wy.heap[l]? = some (.loop (mkRec fn a.tmps ps assign body D .ready none)) := by
      have : St N0 B1 (blk l (.loop (mkRec fn a.tmps ps assign body D .ready none)) * (H2 * (blk D dfr * Rf))) wy := sy.of_eq (by ac_rfl)
      exact this.blk.1
    have hy := run_yield (P := e.P) (args := (enc x).toArray) hrl (by simpa using hps x)
    refine ⟨fn, _, assign, body, hy, roundIn_of_wpIn trivial ?_⟩
    have hfr := asgn_fr (nt := e.nt) ps.toList (enc x) ρ a.tmps hnt ⟨f.size, f.get, rfl⟩
    have hzip : (ps.zip (enc x).toArray).foldl (fun tmps (t, a) => tmps.setIfInBounds t a) a.tmps = (ps.toList.zip (enc x)).foldl (fun t (y : Tmp × Value) => t.setIfInBounds y.1 y.2) a.tmps := by
      rw [← Array.foldl_toList, Array.toList_zip]
    show Code.wpIn (FW (some l)) 0 e.P assign _ { tmps := (ps.zip (enc x).toArray).foldl (fun tmps (t, a) => tmps.setIfInBounds t a) a.tmps, defers := [] } wy
    rw [hzip]
    refine hassign l N0 wy pre x B1 H2 ((blk l (.loop (mkRec fn a.tmps ps assign body D .ready none)) * blk D dfr) * Rf) _ hxs hB1 hJ ?_ _ wy hfr (Below.refl _ _) (by rw [← star_assoc]; exact sy)
    intro ρ' B' H' hAS hB' a1 wa fa ba sa
    have sa' : St N0 B' (blk l (.loop (mkRec fn a.tmps ps assign body D .ready none)) * (H' * (blk D dfr * Rf))) wa := sa.of_eq (by ac_rfl)
    have hbr := run_beginRound (P := e.P) sa'.blk.1 rfl
    refine ⟨_, hbr, ?_⟩
    have sb := sa'.putObj (o' := .loop { mkRec fn a.tmps ps assign body D .ready none with state := .busy })
    have sb2 : St N0 B' (H' * ((blk l (.loop { mkRec fn a.tmps ps assign body D .ready none with state := .busy }) * blk D dfr) * Rf)) (wa.putObj l (.loop { mkRec fn a.tmps ps assign body D .ready none with state := .busy })) := sb.1.of_eq (by ac_rfl)
    refine wpIn_mono (hbody l N0 wy pre x B1 _ ρ' B' H' hxs hB1 hB' hAS a1 _ fa (ba.trans sb.2) sb2) ?_
    have fin : ∀ (jump : Option Code) (w3 : World) B3 H3, St N0 B3 (H3 * ((blk l (.loop { mkRec fn a.tmps ps assign body D .ready none with state := .busy }) * blk D dfr) * Rf)) w3 →
        (Instr.endRound l jump).run e.P w3 = .ok (.bool jump.isNone) (w3.putObj l (.loop (mkRec fn a.tmps ps assign body D (if jump.isNone then .ready else .done) jump))) ∧ Below N0 w3 (w3.putObj l (.loop (mkRec fn a.tmps ps assign body D (if jump.isNone then .ready else .done) jump))) ∧
        St N0 B3 ((H3 * (blk l (.loop (mkRec fn a.tmps ps assign body D (if jump.isNone then .ready else .done) jump)) * blk D dfr)) * Rf) (w3.putObj l (.loop (mkRec fn a.tmps ps assign body D (if jump.isNone then .ready else .done) jump))) := by
      intro jump w3 B3 H3 s3
      have s3' : St N0 B3 (blk l (.loop { mkRec fn a.tmps ps assign body D .ready none with state := .busy }) * (H3 * (blk D dfr * Rf))) w3 := s3.of_eq (by ac_rfl)
      have h1 := run_endRound (P := e.P) jump s3'.blk.1
      have h2 := s3'.putObj (o' := .loop (mkRec fn a.tmps ps assign body D (if jump.isNone then .ready else .done) jump))
      refine ⟨h1, h2.2, h2.1.of_eq (by ac_rfl)⟩
    rintro x3 a3 w3 hp
    cases x3 with
    | normal =>
      obtain ⟨B3, H3, hJ3, hB3, b3, s3⟩ := hp
      obtain ⟨h1, h2, h3⟩ := fin none w3 B3 H3 s3
      exact ⟨_, _, h1, true, B3, _, rfl, .inl ⟨rfl, H3, rfl, hJ3⟩, hB3, b3.trans h2, h3⟩
    | ret =>
      obtain ⟨B3, H3, hJ3, hB3, b3, s3⟩ := hp
      obtain ⟨h1, h2, h3⟩ := fin (some .ret) w3 B3 H3 s3
      exact ⟨_, _, h1, false, B3, _, rfl, .inr ⟨rfl, _, H3, rfl, hJ3⟩, hB3, b3.trans h2, h3⟩
    | exit id =>
      obtain ⟨B3, H3, hJ3, hB3, b3, s3⟩ := hp
      obtain ⟨h1, h2, h3⟩ := fin (some (.exit id)) w3 B3 H3 s3
      exact ⟨_, _, h1, false, B3, _, rfl, .inr ⟨rfl, _, H3, rfl, hJ3⟩, hB3, b3.trans h2, h3⟩
    | goto t => exact hp.elim
    | panic ch => exact hp.elim
    | outgrown => exact hp.elim
  refine ⟨l, [mark D], w1, { target := .fn (.func gf) caps.toArray, args := #[.func (.yield l) #[] #[]] }, w1, gf, (.func (.yield l) #[] #[] :: caps).toArray, w1, ?_, ?_, fun _ _ => trivial, ?_, fun h => by simp [FW] at h, ?_⟩
  · have : (FW e.r).round = none := hr
    rw [this, ← hw1, ← hl]
    have := run_enterLoop_outer (P := e.P) (w := w) fn a.tmps ps assign body
    rw [hD] at this
    exact this
  · simp only [resolve, hgv, Deferred.ofValue]
    simp [Act.eval]
  · simp only [invoke]
    have := hIt.1 (#[.func (.yield l) #[] #[]] ++ caps.toArray) w1
    simpa using this
  · refine callsIn_FW.2 ((hct.2 e.N0 w1 R s2).mono ?_)
    rintro y w2 ⟨v, B', _, rfl, ⟨H2, rfl, (⟨xs, hxs, H3, rfl, hJ⟩ | ⟨pre, c, H3, rfl, hJ⟩)⟩, hB', b2, s3⟩
    · have s3' : St e.N0 B' (blk l (.loop (mkRec fn a.tmps ps assign body D .ready none)) * (H3 * (blk D dfr * (own * R)))) w2 := s3.of_eq (by ac_rfl)
      have h1 := run_endLoop (P := e.P) s3'.blk.1 (by simp)
      have h2 := s3'.putObj (o' := .loop { mkRec fn a.tmps ps assign body D .ready none with state := .exhausted })
      refine ⟨none, _, h1, ?_⟩
      exact hdone D xs B' H3 hxs hB' hJ _ _ ⟨f.size, f.get, by simp [f.defers]⟩ ((b1.trans b2).trans h2.2) h2.1.drop
    · have s3' : St e.N0 B' (blk l (.loop (mkRec fn a.tmps ps assign body D .done (some c))) * (H3 * (blk D dfr * (own * R)))) w2 := s3.of_eq (by ac_rfl)
      have h1 := run_endLoop (P := e.P) s3'.blk.1 (by simp)
      have h2 := s3'.putObj (o' := .loop { mkRec fn a.tmps ps assign body D .done (some c) with state := .exhausted })
      refine ⟨some c, _, h1, ?_⟩
      exact hstop D c pre B' H3 hB' hJ _ _ ⟨f.size, f.get, by simp [f.defers]⟩ ((b1.trans b2).trans h2.2) h2.1.drop

/-- The same; σ: slots that the rounds may look at. -/
theorem Cx.rangeA {g : Operand} {ps : Array Tmp} {assign body : Code} {gf : FuncId} {caps : List Value} {enc : α → List Value} {Adm Fn : List α → Prop} {own H1 R : HP} {σ : Sl} (hσ : Sub ρ σ)
    (hr : e.r = none) (hg : ev ρ g = some (.func (.func gf) #[] caps.toArray)) (hIt : ItA e.P gf caps enc Adm Fn B own) (hH : H = own * (H1 * R)) (hnt : ps.toList.all (fun p => Nat.blt p e.nt) = true) (hps : ∀ x, (enc x).length = ps.size)
    (J : List α → Frag → HP → Prop) (Jx : Code → List α → Frag → HP → Prop) (AS : List α → α → Frag → Sl → Frag → HP → Prop) (h0 : J [] B H1)
    (hassign : ∀ (l N0 : Nat) (w0 : World) pre x B1 H1 (F : HP) (K : Act → World → Prop), Adm (pre ++ [x]) → B.le B1 → J pre B1 H1 →
      (∀ ρ' B' H', AS pre x B1 ρ' B' H' → B1.le B' → Xx ⟨e.P, some l, N0, w0, e.nt⟩ [] K (ρ' ++ σ) B' (H' * F)) →
      Cx ⟨e.P, some l, N0, w0, e.nt⟩ [] assign (Exit.then K (fun _ _ _ => False)) (asgn ps.toList (enc x) ρ) B1 (H1 * F))
    (hbody : ∀ (l N0 : Nat) (w0 : World) pre x B1 (F : HP) ρ' B' H', Adm (pre ++ [x]) → B.le B1 → B1.le B' → AS pre x B1 ρ' B' H' → Cx ⟨e.P, some l, N0, w0, e.nt⟩ [] body (RQ N0 w0 B1 J Jx (pre ++ [x]) F) (ρ' ++ σ) B' (H' * F))
    (hdone : ∀ D xs B' H', Fn xs → B.le B' → J xs B' H' → Xx e (mark D :: ds) (Q .normal) ρ B' (H' * (blk D dfr * (own * R))))
    (hstop : ∀ D c pre B' H', B.le B' → Jx c pre B' H' → Cx e (mark D :: ds) c Q ρ B' (H' * (blk D dfr * (own * R)))) :
    Cx e ds (.rangeFunc g ps assign body) Q ρ B H :=
  Cx.rangeAF hr hg hIt hH hnt hps J Jx (fun pre x B1 ρ' B' H' => ∃ ρ'', ρ' = ρ'' ++ σ ∧ AS pre x B1 ρ'' B' H') h0
    (fun l N0 w0 pre x B1 H1 F K hxs hB1 hJ hK => hassign l N0 w0 pre x B1 H1 F K hxs hB1 hJ fun ρ' B' H' hAS hB' => hK _ B' H' ⟨ρ', rfl, hAS⟩ hB')
    (fun l N0 w0 pre x B1 F ρ' B' H' hxs hB1 hB' ⟨ρ'', h1, hAS⟩ => by subst h1; exact hbody l N0 w0 pre x B1 F ρ'' B' H' hxs hB1 hB' hAS) hdone hstop

end
section
variable {α : Type} {kv : α → Int × Value}
/-- A thing of a map, with its stamp. -/
def mz (kv : α → Int × Value) (z : α × Nat) : Me := ((kv z.1).1, (kv z.1).2, z.2)
theorem zip_of {T : List Me} {fs : List α} (h : kvs T = fs.map kv) : ∃ Z : List (α × Nat), T = Z.map (mz kv) ∧ Z.map (·.1) = fs := by
  induction T generalizing fs with
  | nil =>
    cases fs with
    | nil => exact ⟨[], rfl, rfl⟩
    | cons f fs => cases h
  | cons t T ih =>
    cases fs with
    | nil => cases h
    | cons f fs =>
      injection h with h1 h2
      obtain ⟨Z, rfl, rfl⟩ := ih h2
      refine ⟨(f, t.2.2) :: Z, ?_, rfl⟩
      rw [List.map_cons]
      congr 1
      unfold mz
      rw [← h1]
def VisF (Z dz : List (α × Nat)) : Prop := (∀ z ∈ dz, z ∈ Z) ∧ (dz.map fun z => z.2).Nodup
theorem VisF.nil (Z : List (α × Nat)) : VisF Z [] := ⟨fun t h => absurd h List.not_mem_nil, List.nodup_nil⟩
def AfterF (Z dz dz' : List (α × Nat)) : Option (α × Nat) → Prop
  | none => dz' = dz ∧ ∀ z ∈ Z, z.2 ∈ dz.map fun z => z.2
  | some z => dz' = dz ++ [z] ∧ z ∈ Z ∧ z.2 ∉ dz.map fun z => z.2
theorem mz_stamps (Z : List (α × Nat)) : (Z.map (mz kv)).map (fun t => t.2.2) = Z.map fun z => z.2 := by rw [List.map_map]; rfl
theorem VisF.vis {Z dz : List (α × Nat)} (h : VisF Z dz) : Vis (Z.map (mz kv)) (dz.map (mz kv)) :=
  ⟨fun t ht => by obtain ⟨z, hz, rfl⟩ := List.mem_map.1 ht; exact List.mem_map.2 ⟨z, h.1 z hz, rfl⟩, by rw [mz_stamps]; exact h.2⟩
theorem VisF.step {Z dz : List (α × Nat)} {z : α × Nat} (h : VisF Z dz) (hz : z ∈ Z) (hn : z.2 ∉ dz.map fun z => z.2) : VisF Z (dz ++ [z]) := by
  refine ⟨fun u hu => ?_, ?_⟩
  · rcases List.mem_append.1 hu with hu | hu
    · exact h.1 u hu
    · rw [List.mem_singleton.1 hu]; exact hz
  · rw [List.map_append, List.nodup_append]
    refine ⟨h.2, by simp, fun a ha b hb => ?_⟩
    simp at hb
    subst hb
    exact fun e => hn (e ▸ ha)
theorem VisF.len {Z dz : List (α × Nat)} (h : VisF Z dz) : dz.length ≤ Z.length := nodup_len _ _ (nodup_of_map _ h.2) h.1
theorem stampF_inj : ∀ {Z : List (α × Nat)}, (Z.map fun z => z.2).Nodup → ∀ {a b : α × Nat}, a ∈ Z → b ∈ Z → a.2 = b.2 → a = b := by
  intro Z
  induction Z with
  | nil => intro _ a b ha; cases ha
  | cons t T ih =>
    intro hn a b ha hb e
    rw [List.map_cons, List.nodup_cons] at hn
    rcases List.mem_cons.1 ha with h1 | ha
    · rcases List.mem_cons.1 hb with h2 | hb
      · rw [h1, h2]
      · exact absurd (List.mem_map.2 ⟨b, hb, by rw [← e, h1]⟩) hn.1
    · rcases List.mem_cons.1 hb with h2 | hb
      · exact absurd (List.mem_map.2 ⟨a, ha, by rw [e, h2]⟩) hn.1
      · exact ih hn.2 ha hb e
theorem VisF.all {Z dz : List (α × Nat)} {c : Nat} (h : VisF Z dz) (hs : Stp (Z.map (mz kv)) c) (hall : ∀ z ∈ Z, z.2 ∈ dz.map fun z => z.2) : (dz.map (·.1)).Perm (Z.map (·.1)) := by
  have hs1 := hs.1
  rw [mz_stamps] at hs1
  refine List.Perm.map _ ((List.perm_ext_iff_of_nodup (nodup_of_map _ h.2) (nodup_of_map _ hs1)).2 fun t => ⟨fun ht => h.1 t ht, fun ht => ?_⟩)
  obtain ⟨u, hu, e⟩ := List.mem_map.1 (hall t ht)
  rw [← stampF_inj hs1 (h.1 u hu) ht e]; exact hu
end
section
variable {e : Env} {ds : List Deferred} {ρ : Sl} {B : Frag} {H R R2 : HP} {t kt et ty : TypeId} {x : Operand} {b i c : Nat} {α : Type} {kv : α → Int × Value} {Z dz : List (α × Nat)}
theorem Xx.openF {K : Act → World → Prop} {fs : List α} (b : Nat) [hp : PickM H b (fs.map kv) R] (h : ∀ (Z : List (α × Nat)) c, Stp (Z.map (mz kv)) c → Z.map (·.1) = fs → Xx e ds K ρ B (blk b (mapObj (Z.map (mz kv)) c) * R)) : Xx e ds K ρ B H :=
  Xx.openM b fun T c hs hl => by
    obtain ⟨Z, rfl, hZ⟩ := zip_of hl
    exact h Z c hs hZ
theorem Xx.closeF {K : Act → World → Prop} {fs : List α} (b : Nat) {c : Nat} [hp : PickB H b (mapObj (Z.map (mz kv)) c) R] (hs : Stp (Z.map (mz kv)) c) (hZ : Z.map (·.1) = fs) (h : Xx e ds K ρ B (imap b (fs.map kv) * R)) : Xx e ds K ρ B H :=
  Xx.closeM b hs (by
    have e9 : kvs (Z.map (mz kv)) = fs.map kv := by
      rw [← hZ]; unfold kvs; rw [List.map_map, List.map_map]; rfl
    rw [e9]; exact h)
/-- One step of the going over a map. -/
theorem nxF (hs : Stp (Z.map (mz kv)) c) (hv : VisF Z dz) (hx : ev ρ x = some (.pointer (some ⟨i, 0, none⟩))) [h1 : PickB H i (itObj b c (dz.map (mz kv))) R] [h2 : PickB R b (mapObj (Z.map (mz kv)) c) R2] :
    Ox e ds (.next x false) ty ρ B H (fun v B' H' => ∃ o dz', v = .tuple (nx (o.map (mz kv))) ∧ AfterF Z dz dz' o ∧ B' = B ∧ H' = blk i (itObj b c (dz'.map (mz kv))) * R) := by
  have h := nxM (e := e) (ds := ds) (B := B) (ty := ty) hs (hv.vis (kv := kv)) hx (H := H) (R := R) (R2 := R2)
  refine ⟨h.1, fun a w dst pos after guard K Q f b s k => h.2 a w dst pos after guard K Q f b s fun v B' H' w' ⟨o, done', e1, e2, e3, e4⟩ hB hb hs => k v B' H' w' ?_ hB hb hs⟩
  cases o with
  | none =>
    obtain ⟨rfl, hall⟩ := e2
    refine ⟨none, dz, e1, ⟨rfl, fun z hz => ?_⟩, e3, e4⟩
    have := hall (mz kv z) (List.mem_map.2 ⟨z, hz, rfl⟩)
    rw [mz_stamps] at this
    exact this
  | some t =>
    obtain ⟨rfl, ht, hn⟩ := e2
    obtain ⟨z, hz, rfl⟩ := List.mem_map.1 ht
    rw [mz_stamps] at hn
    exact ⟨some z, dz ++ [z], e1, ⟨rfl, hz, hn⟩, e3, by rw [e4, List.map_append]; rfl⟩
/-- What came last. -/
theorem entF {P : Program} {N0 : Nat} {z : α × Nat} (hs : Stp (Z.map (mz kv)) c) (hz : z ∈ Z) (hx : ev ρ x = some (.pointer (some ⟨i, 0, none⟩))) [h1 : PickB H i (itObj b c ((dz ++ [z]).map (mz kv))) R] [h2 : PickB R b (mapObj (Z.map (mz kv)) c) R2] :
    Yx P (.entry x) ty ρ (St N0 B H) (.tuple #[.int .i64 (kv z.1).1, (kv z.1).2]) := .of (fun _ h => by cases h) fun f w _ _ _ _ he s => by
  have s1 : St N0 B (blk i (itObj b c ((dz ++ [z]).map (mz kv))) * R) w := h1.eq ▸ s
  have s2 : St N0 B (blk b (mapObj (Z.map (mz kv)) c) * R2) w := h2.eq ▸ s1.drop
  have hi := s1.blk.1
  have hb := s2.blk.1
  have hbk : (((dz ++ [z]).map (mz kv)).map fun t => t.2.2).toArray.back? = some z.2 := by
    rw [mz_stamps]; simp
  have hf : ((Z.map (mz kv)).map me).toArray.find? (fun e => e.born == z.2) = some (me (mz kv z)) := by
    have := find_born (me (mz kv z)) ((Z.map (mz kv)).map me) (by
      rw [List.map_map]
      exact hs.1) (List.mem_map.2 ⟨_, List.mem_map.2 ⟨z, hz, rfl⟩, rfl⟩)
    rw [List.find?_toArray]
    exact this
  have hr : (Instr.entry (.pointer (some ⟨i, 0, none⟩))).run P w = .ok (.tuple #[.int .i64 (kv z.1).1, (kv z.1).2]) w := by
    simp only [Instr.entry, getObj, Sem.run_bind, Sem.run, hi, hb, Result.andThen, hbk, bne_self_eq_false, Bool.false_eq_true, if_false, hf]
    rfl
  simp [execOp, he _ _ hx, hr, Result.andThen]
end
/-- A block of one's own turns; other blocks may come. -/
theorem St.putG {N0 : Nat} {B : Frag} {b : Nat} {o o' : Obj} {R : HP} {w w' : World} (h : St N0 B (SL.blk b o * R) w) (hb : w'.heap[b]? = some o') (hs : ∀ k, k < w.heap.size → k ≠ b → w'.heap[k]? = w.heap[k]?)
    (hz' : w.heap.size ≤ w'.heap.size) : St N0 B (SL.blk b o' * R) w' := by
  have hlt : ∀ {b : Nat} {u : Obj}, w.heap[b]? = some u → b < w.heap.size := fun h => (Array.getElem?_eq_some_iff.1 h).1
  obtain ⟨_, hB, hN⟩ := h.blk
  obtain ⟨hr, hz, k, hk, a, c, d, e, x, y⟩ := h
  have hx : a = Frag.one b o := x
  subst hx
  refine ⟨fun i u hi => ?_, Nat.le_trans hz hz', (Frag.one b o').un c, fun i u hi => ?_, Frag.one b o', c, fun i => ?_, rfl, rfl, y⟩
  · rw [hs i (hlt (hr i u hi)) (fun e => by subst e; rw [hB] at hi; cases hi)]; exact hr i u hi
  · by_cases e2 : i = b
    · subst e2
      simp [Frag.un, Frag.one] at hi
      subst hi
      exact ⟨hb, hB, hN⟩
    · have h2 : (Frag.un (Frag.one b o) c) i = some u := by
        simp [Frag.un, Frag.one, e2] at hi ⊢; exact hi
      rw [← e] at h2
      rw [hs i (hlt (hk i u h2).1) e2]
      exact hk i u h2
  · rcases d i with z | z
    · left
      simp only [Frag.one] at z ⊢
      split at z
      · cases z
      · rename_i hne; simp [hne]
    · exact .inr z
abbrev ints (zs : List Int) : List Value := zs.map (Value.int .i64)
abbrev sortI (zs : List Int) : List Int := zs.mergeSort fun x y => decide (x ≤ y)
/-- The library's sort of numbers, as a contract. -/
theorem Ct.of_sort {P : Program} {f : FuncId} (he : ∀ args w, (callFunc f args).run P w = .ok (.enter f args) w)
    (h1 : ∀ (blk off cap : Nat) (zs : List Int) (w : World), Holds (Value.int .i64) w blk off zs.toArray → blk < w.heap.size → zs.length < 4611686018427387904 →
      Calls P f #[.slice (some ⟨blk, off, none⟩) zs.length cap] w fun e w' => e = .returned (.tuple #[]) ∧ ∃ n os, w' = grow (putRow (Value.int .i64) (Sort.ahead w n) blk off (sortI zs).toArray) os)
    (h0 : ∀ (p : Option Addr) (cap : Nat) (w : World), Calls P f #[.slice p 0 cap] w fun e w' => e = .returned (.tuple #[]) ∧ w' = w)
    (zs : List Int) (A : Option Addr) (c : Nat) (et : TypeId) (B : Frag) (hz : zs.length < 4611686018427387904) :
    Ct P f [.slice A zs.length c] B (sbuf et 1 A zs.length c (ints zs)) (fun v B' H' => B' = B ∧ v = .tuple #[] ∧ H' = sbuf et 1 A zs.length c (ints (sortI zs))) :=
  ⟨he, fun N0 w R s => by
    have hln : (sortI zs).length = zs.length := List.length_mergeSort _
    rcases s.cases_sbuf with ⟨e1, e2, e3, e4, s'⟩ | ⟨b, sp, e1, e2, e3, e4, s'⟩
    · have e5 : zs = [] := by simpa using e4
      subst e5 e1 e3
      refine (h0 none 0 w).mono ?_
      rintro x w' ⟨rfl, rfl⟩
      refine ⟨_, B, _, rfl, ⟨rfl, rfl, rfl⟩, Frag.le_refl _, Below.refl _ _, ?_⟩
      have : sortI [] = [] := by simp [sortI]
      rw [this]; exact s
    · subst e1
      have hb := s'.blk.1
      have hlt : b < w.heap.size := (Array.getElem?_eq_some_iff.1 hb).1
      have hH : Holds (Value.int .i64) w b 0 zs.toArray := holds_of_blockI hb (by simp [ints])
      refine (h1 b 0 c zs w hH hlt hz).mono ?_
      rintro x w' ⟨rfl, n, os, rfl⟩
      have hg := grownBy_sortedI (w := w) (g := b) (n := n) (os := os) (sortI zs).toArray
      have hp := heap_sortedI (n := n) (os := os) (sortI zs).toArray hb
      have s2 := s'.putG hp (fun k hk hne => hg.block k hk (fun e => hne (Option.some.inj e))) hg.size
      have hcells : putCells (Value.int .i64) 0 (sortI zs).toArray (ints zs ++ sp).toArray = (ints (sortI zs) ++ sp).toArray := by
        have t1 := take_putCellsI (ints zs ++ sp).toArray (sortI zs) (by simp [ints, hln])
        apply Array.toList_inj.1
        apply List.ext_getElem?
        intro j
        by_cases hj : j < (sortI zs).length
        · rw [← List.getElem?_take_of_lt hj, t1, List.getElem?_append_left (by simpa [ints] using hj)]
        · rw [List.getElem?_append_right (by simp [ints]; omega)]
          simp only [Array.getElem?_toList, putCells, Array.getElem?_mapIdx, List.getElem?_toArray]
          rw [List.getElem?_append_right (by simp [ints]; omega)]
          simp only [ints, List.length_map, hln]
          have : ¬ (0 ≤ j ∧ j < 0 + (sortI zs).toArray.size) := by simp; omega
          cases sp[j - zs.length]? <;> simp [this]
          intro h; omega
      rw [hcells] at s2
      refine ⟨_, B, _, rfl, ⟨rfl, rfl, rfl⟩, Frag.le_refl _, ⟨hg.os, hg.tape, hg.output, hg.size, fun k hk => hg.block k (by have := s'.blk.2.2; have := s.sz; omega) (fun e => ?_)⟩, St.of_sbuf (by simp [ints, hln]) e3 (by simpa [ints, hln] using e4) s2⟩
      have h9 := s'.blk.2.2
      have := Option.some.inj e
      omega⟩
end Go.SL

/-
  Sectors; slices of numbers, of bytes, of strikes: cloned, searched, put in, taken out.
-/
namespace Go.Proofs.Ytgcebieihmlaoaa
open Go.SL Go.RowKit
set_option linter.unusedVariables false
set_option linter.unusedSimpArgs false
set_option maxRecDepth 100000
namespace DkA
theorem sz3 : (Try.prog.info? 3).map (·.size) = some 1 := by kernel_rfl
theorem sz5 : (Try.prog.info? 5).map (·.size) = some 1 := by kernel_rfl
theorem sz25 : (Try.prog.info? 25).map (·.size) = some 3 := by kernel_rfl
theorem ti3 : TI Try.prog 3 [.int .i64 0] 1 8 := TI.of (by kernel_rfl) rfl rfl
theorem ti5 : TI Try.prog 5 [.int .u8 0] 1 1 := TI.of (by kernel_rfl) rfl rfl
theorem ti25 : TI Try.prog 25 [.int .i64 0, .int .u64 0, .int .i64 0] 3 24 := TI.of (by kernel_rfl) rfl rfl

theorem mid_val {i j : Nat} (h : i + j < 9223372036854775808) : IntKind.i64.wrap ((((BitVec.ofInt 64 ((i + j : Nat) : Int)) >>> 1).toNat : Nat) : Int) = (((i + j) / 2 : Nat) : Int) := by
  have e : (BitVec.ofInt 64 ((i + j : Nat) : Int)).toNat = i + j := by rw [BitVec.toNat_ofInt]; simp only [Nat.reducePow]; omega
  rw [BitVec.toNat_ushiftRight, Nat.shiftRight_eq_div_pow, e, wrap64 (by omega) (by omega)]

/-- how many sectors so many bytes have -/
def sec (n : Nat) : Nat := (n + 63) / 64
/-- numbers as cells -/
def nv (l : List Nat) : List Value := l.map fun n => i64 ((n : Nat) : Int)
theorem nv_len (l : List Nat) : (nv l).length = l.length := by simp [nv]
theorem nv_all (l : List Nat) : (nv l).all (·.oneCell') = true := by
  rw [List.all_eq_true]; intro v hv; obtain ⟨x, _, rfl⟩ := List.mem_map.1 hv; rfl
theorem u8_all (l : List UInt8) : (u8s l).all (·.oneCell') = true := by
  rw [List.all_eq_true]; intro v hv; obtain ⟨x, _, rfl⟩ := List.mem_map.1 hv; rfl
def Rise (l : List Nat) : Prop := l.Pairwise (fun a b => a < b)
theorem Rise.lt {l : List Nat} (h : Rise l) {i j : Nat} (hj : j < l.length) (hij : i < j) : l[i]'(by omega) < l[j] := List.pairwise_iff_getElem.1 h i j (by omega) hj hij
/-- how many are below -/
def lbN : List Nat → Nat → Nat
  | [], _ => 0
  | k :: ks, t => if k < t then lbN ks t + 1 else 0
theorem lbN_eq : ∀ (ks : List Nat) (t i : Nat), i ≤ ks.length → (∀ j (hj : j < ks.length), j < i → ks[j] < t) → (∀ h : i < ks.length, ¬ ks[i] < t) → lbN ks t = i := by
  intro ks t
  induction ks with
  | nil => intro i h _ _; simp at h; subst h; rfl
  | cons k ks ih =>
    intro i h h1 h2
    unfold lbN
    cases i with
    | zero => rw [if_neg (by have := h2 (by simp); simpa using this)]
    | succ i =>
      rw [if_pos (by have := h1 0 (by simp) (by omega); simpa using this)]
      rw [ih i (by simpa using h) (fun j hj hji => by have := h1 (j + 1) (by simp; omega) (by omega); simpa using this) (fun h => by have := h2 (by simp; omega); simpa using this)]
theorem memN_at {ks : List Nat} {t i : Nat} (hs : Rise ks) (h1 : ∀ j (hj : j < ks.length), j < i → ks[j] < t) (h2 : ∀ j (hj : j < ks.length), i ≤ j → ¬ ks[j] < t) : t ∈ ks ↔ ∃ h : i < ks.length, ks[i] = t := by
  constructor
  · intro hm
    obtain ⟨j, hj, rfl⟩ := List.getElem_of_mem hm
    rcases Nat.lt_trichotomy j i with h | h | h
    · have := h1 j hj h; omega
    · subst h; exact ⟨hj, rfl⟩
    · have e1 := hs.lt hj h
      have e2 := h2 i (by omega) (Nat.le_refl _)
      omega
  · rintro ⟨h, rfl⟩; exact List.getElem_mem h
theorem ros_nat {B : Frag} {A : Option Addr} {n : Nat} {ks : List Nat} (h : RoS B 1 A n (nv ks)) {k : Nat} (hk : k < ks.length) (hn : ks.length = n) : ∃ b o cs et fz, A = some ⟨b, o, none⟩ ∧ B b = some (.cells (List.toArray cs) et fz) ∧ cs[o + k * 1]? = some (i64 ((ks[k] : Nat) : Int)) := by
  obtain ⟨b, o, cs, et, fz, h1, h2, h3⟩ := h.at (k := k) (by omega)
  refine ⟨b, o, cs, et, fz, h1, h2, ?_⟩
  have h4 : ((cs.drop (o + k * 1)).take 1)[0]? = (((nv ks).drop (k * 1)).take 1)[0]? := by rw [h3]
  rw [List.getElem?_take_of_lt (by decide), List.getElem?_take_of_lt (by decide), List.getElem?_drop, List.getElem?_drop] at h4
  rw [Nat.add_zero, Nat.add_zero, Nat.mul_one] at h4
  rw [Nat.mul_one, h4]
  simp [nv, hk]

set_option maxHeartbeats 1000000 in
theorem sectors_ct (n : Nat) (B : Frag) (hn : n ≤ 9223372036854775000) : CtP Try.prog 50 [i64 ((n : Nat) : Int)] B (i64 ((sec n : Nat) : Int)) := by
  refine CtB.of_body Try.func50 rfl (nt := 7) rfl (by kernel_rfl) rfl ?_
  intro N0 w0 R
  refine Cx.seq (fun K1 k1 => ?_)
  refine Cx.region ?_
  refine Lx.y (asg rfl) rfl ?_
  refine Lx.nil ?_
  refine Xx.tn (k1 _ _ _ _ ?_)
  refine Cx.seq (fun K2 k2 => ?_)
  refine Cx.region ?_
  refine Lx.y (mv rfl) rfl ?_
  refine Lx.y (Yx.val (add rfl rfl (by first | exact wrap64 (by omega) (by omega) | rfl)) (show _ = i64 ((n + 64 : Nat) : Int) from rfl)) rfl ?_
  refine Lx.y (Yx.val (sub rfl rfl (by first | exact wrap64 (by omega) (by omega) | rfl)) (show _ = i64 ((n + 63 : Nat) : Int) by congr 1; omega)) rfl ?_
  refine Lx.y (Yx.val (quoN rfl rfl (by omega) (by decide) (by exact wrap64 (by omega) (by omega))) (show _ = i64 ((sec n : Nat) : Int) from rfl)) rfl ?_
  refine Lx.y (asg rfl) rfl ?_
  refine Lx.nil ?_
  refine Xx.tn (k2 _ _ _ _ ?_)
  refine Cx.ret ?_
  exact Xx.rB1 rfl rfl ⟨rfl, rfl⟩ (Frag.le_refl _) rfl

set_option maxHeartbeats 1000000 in
theorem nanC_ct (n : Int) (B : Frag) : CtP Try.prog 115 [i64 n] B (.bool false) := by
  refine CtB.of_body Try.func115 rfl (nt := 6) rfl (by kernel_rfl) rfl ?_
  intro N0 w0 R
  refine Cx.seq (fun K1 k1 => ?_)
  refine Cx.region ?_
  refine Lx.y (asg rfl) rfl ?_
  refine Lx.nil ?_
  refine Xx.tn (k1 _ _ _ _ ?_)
  refine Cx.seq (fun K2 k2 => ?_)
  refine Cx.region ?_
  refine Lx.y (mv rfl) rfl ?_
  refine Lx.y (mv rfl) rfl ?_
  refine Lx.y (Yx.ff (neI rfl rfl) (by simp)) rfl ?_
  refine Lx.y (asg rfl) rfl ?_
  refine Lx.nil ?_
  refine Xx.tn (k2 _ _ _ _ ?_)
  refine Cx.ret ?_
  exact Xx.rB1 rfl rfl ⟨rfl, rfl⟩ (Frag.le_refl _) rfl

set_option maxHeartbeats 1000000 in
theorem nanI_ct (n : Int) (B : Frag) : CtP Try.prog 93 [i64 n] B (.bool false) := by
  refine CtB.of_body Try.func93 rfl (nt := 6) rfl (by kernel_rfl) rfl ?_
  intro N0 w0 R
  refine Cx.seq (fun K1 k1 => ?_)
  refine Cx.region ?_
  refine Lx.y (asg rfl) rfl ?_
  refine Lx.nil ?_
  refine Xx.tn (k1 _ _ _ _ ?_)
  refine Cx.seq (fun K2 k2 => ?_)
  refine Cx.region ?_
  refine Lx.y (mv rfl) rfl ?_
  refine Lx.y (mv rfl) rfl ?_
  refine Lx.y (Yx.ff (neI rfl rfl) (by simp)) rfl ?_
  refine Lx.y (asg rfl) rfl ?_
  refine Lx.nil ?_
  refine Xx.tn (k2 _ _ _ _ ?_)
  refine Cx.ret ?_
  exact Xx.rB1 rfl rfl ⟨rfl, rfl⟩ (Frag.le_refl _) rfl

set_option maxHeartbeats 1000000 in
theorem LessI_ct (m n : Int) (B : Frag) : CtP Try.prog 92 [i64 m, i64 n] B (.bool (decide (m < n))) := by
  refine CtB.of_body Try.func92 rfl (nt := 17) rfl (by kernel_rfl) rfl ?_
  intro N0 w0 R
  refine Cx.seq (fun K1 k1 => ?_)
  refine Cx.region ?_
  refine Lx.y (asg rfl) rfl ?_
  refine Lx.nil ?_
  refine Xx.tn (k1 _ _ _ _ ?_)
  refine Cx.seq (fun K2 k2 => ?_)
  refine Cx.region ?_
  refine Lx.y (mv rfl) rfl ?_
  refine Lx.cp rfl rfl rfl (nanC_ct _ _) rfl ?_
  refine Lx.y (mv rfl) rfl ?_
  refine Lx.gF rfl rfl rfl rfl ?_
  refine Lx.gF rfl rfl rfl rfl ?_
  refine Lx.gF rfl rfl rfl rfl ?_
  refine Lx.y (pickF rfl rfl) rfl ?_
  refine Lx.y (mv rfl) rfl ?_
  refine Lx.gT rfl rfl rfl ?_
  refine Lx.y (mv rfl) rfl ?_
  refine Lx.gT rfl rfl rfl ?_
  refine Lx.y (mv rfl) rfl ?_
  refine Lx.gT rfl rfl rfl ?_
  refine Lx.y (lss rfl rfl) rfl ?_
  refine Lx.y (pickF rfl rfl) rfl ?_
  refine Lx.y (asg rfl) rfl ?_
  refine Lx.nil ?_
  refine Xx.tn (k2 _ _ _ _ ?_)
  refine Cx.ret ?_
  exact Xx.rB1 rfl rfl ⟨rfl, rfl⟩ (Frag.le_refl _) rfl

set_option maxHeartbeats 1000000 in
theorem BSn_ro (ks : List Nat) (t : Nat) (A : Option Addr) (c : Nat) (B : Frag) (hR : RoS B 1 A ks.length (nv ks)) (hs : Rise ks) (hn : ks.length ≤ 4611686018427387904) : CtP Try.prog 78 [.slice A ks.length c, i64 ((t : Nat) : Int)] B (.tuple #[i64 (lbN ks t : Nat), .bool (decide (t ∈ ks))]) := by
  refine CtB.of_body Try.func78 rfl (nt := 54) rfl (by kernel_rfl) rfl ?_
  intro N0 w0 R
  refine Cx.seq (fun K1 k1 => ?_)
  refine Cx.region ?_
  refine Lx.y (asg rfl) rfl ?_
  refine Lx.y (asg rfl) rfl ?_
  refine Lx.nil ?_
  refine Xx.tn (k1 _ _ _ _ ?_)
  refine Cx.seq (fun K2 k2 => ?_)
  refine Cx.region ?_
  refine Lx.y (mv rfl) rfl ?_
  refine Lx.y (lenV (ty' := 0) Try.underlying39 rfl) rfl ?_
  refine Lx.y (asg rfl) rfl ?_
  refine Lx.nil ?_
  refine Xx.tn (k2 _ _ _ _ ?_)
  refine Cx.seq (fun K3 k3 => ?_)
  refine Cx.region ?_
  refine Lx.y (mv rfl) rfl ?_
  refine Lx.y (asg rfl) rfl ?_
  refine Lx.y (asg rfl) rfl ?_
  refine Lx.nil ?_
  refine Xx.tn (k3 _ _ _ _ ?_)
  refine Cx.seq (fun K4 k4 => ?_)
  refine Cx.block ?_
  refine Cx.loopK (Sub.cons (s := 0) rfl (Sub.cons (s := 1) rfl (Sub.cons (s := 4) rfl (Sub.cons (s := 5) rfl (Sub.cons (s := 6) rfl (Sub.cons (s := 10) rfl (Sub.cons (s := 11) rfl (Sub.cons (s := 12) rfl (Sub.nil _))))))))) (fun m ρ' B' H' => ∃ (i j : Nat), (i ≤ j ∧ j ≤ ks.length ∧ (∀ k (hk : k < ks.length), k < i → ks[k] < t) ∧ (∀ k (hk : k < ks.length), j ≤ k → ¬ ks[k] < t)) ∧ m = j - i ∧ ρ' = [(7, i64 i), (8, i64 j)] ∧ B = B' ∧ R = H') ⟨0, ks.length, ⟨Nat.zero_le _, Nat.le_refl _, fun k _ h => absurd h (by omega), fun k hk h => absurd h (by omega)⟩, rfl, rfl, rfl, rfl⟩ (Sub.cons (s := 7) rfl (Sub.cons (s := 8) rfl (Sub.cons (s := 0) rfl (Sub.cons (s := 1) rfl (Sub.cons (s := 4) rfl (Sub.cons (s := 5) rfl (Sub.cons (s := 6) rfl (Sub.cons (s := 10) rfl (Sub.cons (s := 11) rfl (Sub.cons (s := 12) rfl (Sub.nil _))))))))))) ?_
  rintro m ρ' B' H' ⟨i, j, ⟨hij, hjn, hlo, hhi⟩, rfl, rfl, rfl, rfl⟩
  refine Cx.seq (fun K5 k5 => ?_)
  refine Cx.seq (fun K6 k6 => ?_)
  refine Cx.region ?_
  refine Lx.y (mv rfl) rfl ?_
  refine Lx.y (mv rfl) rfl ?_
  refine Lx.y (lss rfl rfl) rfl ?_
  refine Lx.nil ?_
  refine Xx.tn (k6 _ _ _ _ ?_)
  refine Cx.condD rfl (fun h7 => ?_) (fun h7 => ?_)
  · skip
    have hlt := h7
    have hm : (i + j) / 2 < ks.length := by omega
    obtain ⟨b, o, cs0, et0, fz0, rfl, hB0, hv0⟩ := ros_nat hR hm rfl
    refine Cx.skip ?_
    refine Xx.tn (k5 _ _ _ _ ?_)
    refine Cx.block ?_
    refine Cx.seq (fun K8 k8 => ?_)
    refine Cx.region ?_
    refine Lx.y (mv rfl) rfl ?_
    refine Lx.y (mv rfl) rfl ?_
    refine Lx.y (Yx.val (add rfl rfl (by first | exact wrap64 (by omega) (by omega) | rfl)) (show _ = i64 (i + j : Nat) from rfl)) rfl ?_
    refine Lx.y (cvW64 rfl Try.underlying3 Try.underlying143) rfl ?_
    refine Lx.y (shrW64 (c := 1) rfl rfl rfl) rfl ?_
    refine Lx.y (Yx.val (cvI rfl Try.underlying143 Try.underlying3 (mid_val (by omega))) (show _ = i64 ((i + j) / 2 : Nat) from rfl)) rfl ?_
    refine Lx.y (asg rfl) rfl ?_
    refine Lx.nil ?_
    refine Xx.tn (k8 _ _ _ _ ?_)
    refine Cx.seq (fun K9 k9 => ?_)
    refine Cx.region ?_
    refine Lx.y (mv rfl) rfl ?_
    refine Lx.y (mv rfl) rfl ?_
    refine Lx.y (ia Try.underlying39 sz3 rfl rfl (by first | exact Int.toNat_natCast _ | rfl) (by omega) (by omega)) rfl ?_
    refine Lx.y (ldB Try.underlying3 rfl rfl hB0 hv0) rfl ?_
    refine Lx.y (mv rfl) rfl ?_
    refine Lx.cp rfl rfl rfl (LessI_ct _ _ _) rfl ?_
    refine Lx.nil ?_
    refine Xx.tn (k9 _ _ _ _ ?_)
    refine Cx.condD rfl (fun h10 => ?_) (fun h10 => ?_)
    · skip
      have hb := h10
      have hb : ks[(i + j) / 2] < t := by omega
      refine Cx.region ?_
      refine Lx.y (mv rfl) rfl ?_
      refine Lx.y (Yx.val (add rfl rfl (by first | exact wrap64 (by omega) (by omega) | rfl)) (show _ = i64 ((i + j) / 2 + 1 : Nat) from rfl)) rfl ?_
      refine Lx.y (asg rfl) rfl ?_
      refine Lx.nil ?_
      refine Xx.bn ?_
      exact Xx.againK ⟨(i + j) / 2 + 1, j, ⟨by omega, hjn, fun k hk hki => by
  by_cases e : k = (i + j) / 2
  · subst e; exact hb
  · exact Nat.lt_trans (hs.lt hm (by omega)) hb, hhi⟩, rfl, rfl, rfl, rfl⟩ (by omega) (Sub.cons (s := 7) rfl (Sub.consE (s := 8) rfl (rfl) (Sub.cons (s := 0) rfl (Sub.cons (s := 1) rfl (Sub.cons (s := 4) rfl (Sub.cons (s := 5) rfl (Sub.cons (s := 6) rfl (Sub.cons (s := 10) rfl (Sub.cons (s := 11) rfl (Sub.cons (s := 12) rfl (Sub.nil _)))))))))))
    · skip
      have hb := h10
      have hb : ¬ ks[(i + j) / 2] < t := by omega
      refine Cx.region ?_
      refine Lx.y (mv rfl) rfl ?_
      refine Lx.y (asg rfl) rfl ?_
      refine Lx.nil ?_
      refine Xx.bn ?_
      exact Xx.againK ⟨i, (i + j) / 2, ⟨by omega, by omega, hlo, fun k hk hki => by
  by_cases e : k = (i + j) / 2
  · subst e; exact hb
  · have := hs.lt hk (show (i + j) / 2 < k by omega)
    omega⟩, rfl, rfl, rfl, rfl⟩ (by omega) (Sub.consE (s := 7) rfl (rfl) (Sub.cons (s := 8) rfl (Sub.cons (s := 0) rfl (Sub.cons (s := 1) rfl (Sub.cons (s := 4) rfl (Sub.cons (s := 5) rfl (Sub.cons (s := 6) rfl (Sub.cons (s := 10) rfl (Sub.cons (s := 11) rfl (Sub.cons (s := 12) rfl (Sub.nil _)))))))))))
  · skip
    obtain rfl : i = j := by have := h7; omega
    have hlb := lbN_eq ks t i hjn hlo (fun h => hhi i h (Nat.le_refl _))
    have hmem := memN_at hs hlo hhi
    refine Cx.exit ?_
    refine Xx.te ?_
    refine Xx.te ?_
    refine Xx.bh ?_
    refine Xx.tn (k4 _ _ _ _ ?_)
    refine Cx.seq (fun K11 k11 => ?_)
    refine Cx.region ?_
    refine Lx.y (mv rfl) rfl ?_
    refine Lx.y (mv rfl) rfl ?_
    refine Lx.y (mv rfl) rfl ?_
    refine Lx.y (lss rfl rfl) rfl ?_
    refine Lx.y (mv rfl) rfl ?_
    refine Xx.ifD (t := 35) rfl (fun h12 => ?_) (fun h12 => ?_)
    · skip
      have hin := h12
      have hin : i < ks.length := by omega
      obtain ⟨b, o, cs0, et0, fz0, rfl, hB0, hv0⟩ := ros_nat hR hin rfl
      refine Lx.gT rfl rfl rfl ?_
      refine Lx.y (mv rfl) rfl ?_
      refine Lx.gT rfl rfl rfl ?_
      refine Lx.y (mv rfl) rfl ?_
      refine Lx.gT rfl rfl rfl ?_
      refine Lx.y (ia Try.underlying39 sz3 rfl rfl (by first | exact Int.toNat_natCast _ | rfl) (by omega) (by omega)) rfl ?_
      refine Lx.gT rfl rfl rfl ?_
      refine Lx.y (ldB Try.underlying3 rfl rfl hB0 hv0) rfl ?_
      refine Lx.gT rfl rfl rfl ?_
      refine Lx.y (mv rfl) rfl ?_
      refine Lx.gT rfl rfl rfl ?_
      refine Lx.y (eqI rfl rfl) rfl ?_
      refine Lx.gT rfl rfl rfl ?_
      refine Lx.y (mv rfl) rfl ?_
      refine Xx.ifD (t := 42) rfl (fun h13 => ?_) (fun h13 => ?_)
      · skip
        have he := h13
        have he : ks[i] = t := by omega
        refine Lx.gF rfl rfl rfl rfl ?_
        refine Lx.gF rfl rfl rfl rfl ?_
        refine Lx.gF rfl rfl rfl rfl ?_
        refine Lx.gF rfl rfl rfl rfl ?_
        refine Lx.gF rfl rfl rfl rfl ?_
        refine Lx.gF rfl rfl rfl rfl ?_
        refine Lx.gU rfl rfl rfl rfl ?_
        refine Lx.gU rfl rfl rfl rfl ?_
        refine Lx.gF rfl rfl rfl rfl ?_
        refine Lx.gT rfl rfl rfl ?_
        refine Lx.y (pickT rfl rfl) rfl ?_
        refine Lx.y (pickT rfl rfl) rfl ?_
        refine Lx.y (asg rfl) rfl ?_
        refine Lx.y (asg rfl) rfl ?_
        refine Lx.nil ?_
        refine Xx.tn (k11 _ _ _ _ ?_)
        refine Cx.ret ?_
        exact Xx.rB2 rfl rfl rfl ⟨by rw [hlb, decide_eq_true (hmem.2 ⟨hin, he⟩)], rfl⟩ (Frag.le_refl _) rfl
      · skip
        have he := h13
        have he : ¬ ks[i] = t := by omega
        refine Lx.gT rfl rfl rfl ?_
        refine Lx.y (mv rfl) rfl ?_
        refine Lx.gT rfl rfl rfl ?_
        refine Lx.y (mv rfl) rfl ?_
        refine Lx.gT rfl rfl rfl ?_
        refine Lx.y (ia Try.underlying39 sz3 rfl rfl (by first | exact Int.toNat_natCast _ | rfl) (by omega) (by omega)) rfl ?_
        refine Lx.gT rfl rfl rfl ?_
        refine Lx.y (ldB Try.underlying3 rfl rfl hB0 hv0) rfl ?_
        refine Lx.gT rfl rfl rfl ?_
        refine Lx.cp rfl rfl rfl (nanI_ct _ _) rfl ?_
        refine Lx.gT rfl rfl rfl ?_
        refine Lx.y (mv rfl) rfl ?_
        refine Lx.gF rfl rfl rfl rfl ?_
        refine Lx.gF rfl rfl rfl rfl ?_
        refine Lx.gT rfl rfl rfl ?_
        refine Lx.y (pickF rfl rfl) rfl ?_
        refine Lx.gT rfl rfl rfl ?_
        refine Lx.y (pickF rfl rfl) rfl ?_
        refine Lx.y (pickT rfl rfl) rfl ?_
        refine Lx.y (asg rfl) rfl ?_
        refine Lx.y (asg rfl) rfl ?_
        refine Lx.nil ?_
        refine Xx.tn (k11 _ _ _ _ ?_)
        refine Cx.ret ?_
        exact Xx.rB2 rfl rfl rfl ⟨by rw [hlb, decide_eq_false (fun z => he (hmem.1 z).2)], rfl⟩ (Frag.le_refl _) rfl
    · skip
      have hin := h12
      refine Lx.gF rfl rfl rfl rfl ?_
      refine Lx.gF rfl rfl rfl rfl ?_
      refine Lx.gF rfl rfl rfl rfl ?_
      refine Lx.gF rfl rfl rfl rfl ?_
      refine Lx.gF rfl rfl rfl rfl ?_
      refine Lx.gF rfl rfl rfl rfl ?_
      refine Lx.gF rfl rfl rfl rfl ?_
      refine Lx.gU rfl rfl rfl rfl ?_
      refine Lx.gU rfl rfl rfl rfl ?_
      refine Lx.gU rfl rfl rfl rfl ?_
      refine Lx.gU rfl rfl rfl rfl ?_
      refine Lx.gU rfl rfl rfl rfl ?_
      refine Lx.gU rfl rfl rfl rfl ?_
      refine Lx.gU rfl rfl rfl rfl ?_
      refine Lx.gU rfl rfl rfl rfl ?_
      refine Lx.gU rfl rfl rfl rfl ?_
      refine Lx.gF rfl rfl rfl rfl ?_
      refine Lx.y (pickF rfl rfl) rfl ?_
      refine Lx.y (asg rfl) rfl ?_
      refine Lx.y (asg rfl) rfl ?_
      refine Lx.nil ?_
      refine Xx.tn (k11 _ _ _ _ ?_)
      refine Cx.ret ?_
      exact Xx.rB2 rfl rfl rfl ⟨by rw [hlb, decide_eq_false (fun z => hin (by have := (hmem.1 z).1; omega))], rfl⟩ (Frag.le_refl _) rfl

theorem BSn_ct (ks : List Nat) (t : Nat) (A : Option Addr) (c : Nat) (B : Frag) (hs : Rise ks) (hn : ks.length ≤ 4611686018427387904) : CtC Try.prog 78 [.slice A ks.length c, i64 ((t : Nat) : Int)] B (sbuf 3 1 A ks.length c (nv ks)) (.tuple #[i64 (lbN ks t : Nat), .bool (decide (t ∈ ks))]) (sbuf 3 1 A ks.length c (nv ks)) :=
  CtC.lend (Go.SL.enters_of Try.func78 rfl (by kernel_rfl)) fun k hk ha => BSn_ro ks t A c _ (sbuf_ro hk ha).1 hs hn

set_option maxHeartbeats 1000000 in
theorem ClB_ro (A : Option Addr) (n c : Nat) (xs : List Value) (B : Frag) (hR : RoS B 1 A n xs) (h1 : xs.all (·.oneCell') = true) (hb : n * 1 ≤ 140737488355328) (hn : n ≤ 4611686018427387904) : Ct Try.prog 49 [.slice A n c] B 1 (fun v B' H' => B' = B ∧ ∃ A' c', v = .slice A' n c' ∧ H' = sbuf 5 1 A' n c' xs) := by
  refine Ct.of_body Try.func49 rfl (nt := 8) rfl (by kernel_rfl) rfl ?_
  intro N0 w0 R
  rw [one_star]
  refine Cx.seq (fun K1 k1 => ?_)
  refine Cx.region ?_
  refine Lx.y (asg rfl) rfl ?_
  refine Lx.nil ?_
  refine Xx.tn (k1 _ _ _ _ ?_)
  refine Cx.seq (fun K2 k2 => ?_)
  refine Cx.seq (fun K3 k3 => ?_)
  refine Cx.region ?_
  refine Lx.y (mv rfl) rfl ?_
  refine Lx.y (eqNilV Try.underlying80 rfl rfl) rfl ?_
  refine Lx.nil ?_
  refine Xx.tn (k3 _ _ _ _ ?_)
  refine Cx.condB rfl (fun h4 => ?_) (fun h4 => ?_)
  · skip
    have hA0 : A = none := by cases A with | none => rfl | some a => exact absurd h4 (by simp)
    have hm0 : n = 0 ∧ xs = [] := by
      obtain ⟨hl, h | ⟨b, o, cs, et, fz, h, _⟩⟩ := hR
      · exact ⟨h.2, List.length_eq_zero_iff.1 (by rw [hl, h.2, Nat.zero_mul])⟩
      · rw [hA0] at h; cases h
    obtain ⟨rfl, rfl⟩ := hm0
    refine Cx.seq (fun K5 k5 => ?_)
    refine Cx.region ?_
    refine Lx.y (asg rfl) rfl ?_
    refine Lx.nil ?_
    refine Xx.tn (k5 _ _ _ _ ?_)
    refine Cx.ret ?_
    refine Xx.tr ?_
    exact Xx.ret1 rfl rfl ⟨rfl, none, 0, rfl, rfl⟩ (Frag.le_refl _) (by rw [sbuf_nil, one_star])
  · skip
    refine Cx.skip ?_
    refine Xx.tn (k2 _ _ _ _ ?_)
    refine Cx.seq (fun K6 k6 => ?_)
    refine Cx.region ?_
    refine Lx.o (bslZ Try.underlying80 ti5) rfl (fun v B' H' hΦ hB => ?_)
    obtain ⟨b0, rfl, hBB, rfl⟩ := hΦ
    have hBB2 := hBB.symm
    subst hBB2
    clear hB
    refine Lx.y (mv rfl) rfl ?_
    refine Lx.o (appB (A := some ⟨b0, 0, none⟩) n xs Try.underlying80 Try.underlying80 ti5 rfl rfl hR h1 (by omega) (by omega) (by omega) (List.nil_append _)) rfl (fun v B' H' hΦ hB => ?_)
    obtain ⟨A1, c1, rfl, hA1, hc1, hBB, rfl⟩ := hΦ
    have hBB2 := hBB.symm
    subst hBB2
    clear hB
    refine Lx.y (asg rfl) rfl ?_
    refine Lx.nil ?_
    refine Xx.tn (k6 _ _ _ _ ?_)
    refine Cx.ret ?_
    exact Xx.ret1 rfl rfl ⟨rfl, A1, c1, rfl, rfl⟩ (Frag.le_refl _) rfl

theorem ClB_ct (A : Option Addr) (n c : Nat) (xs : List Value) (B : Frag) (h1 : xs.all (·.oneCell') = true) (hb : n * 1 ≤ 140737488355328) (hn : n ≤ 4611686018427387904) :
    Ct Try.prog 49 [.slice A n c] B (sbuf 5 1 A n c xs) (fun v B' H' => B' = B ∧ ∃ A' c', v = .slice A' n c' ∧ H' = sbuf 5 1 A n c xs * sbuf 5 1 A' n c' xs) := by
  have h := Ct.lend (p := sbuf 5 1 A n c xs) (q := 1) (B := B) (args := [.slice A n c]) (Φ := fun v H0 => ∃ A' c', v = .slice A' n c' ∧ H0 = sbuf 5 1 A' n c' xs) (Go.SL.enters_of Try.func49 rfl (by kernel_rfl)) (fun k hk ha => ClB_ro A n c xs _ (sbuf_ro hk ha).1 h1 hb hn)
  rw [star_comm, one_star] at h
  refine Ct.mono h ?_
  rintro v B' H' ⟨e1, H0, ⟨A', c', e2, e3⟩, e4⟩
  exact ⟨e1, A', c', e2, by rw [e4, e3]⟩

set_option maxHeartbeats 1000000 in
theorem ClS_ro (A : Option Addr) (n c : Nat) (xs : List Value) (B : Frag) (hR : RoS B 3 A n xs) (h1 : xs.all (·.oneCell') = true) (hb : n * 24 ≤ 140737488355328) (hn : n ≤ 4611686018427387904) : Ct Try.prog 53 [.slice A n c] B 1 (fun v B' H' => B' = B ∧ ∃ A' c', v = .slice A' n c' ∧ H' = sbuf 25 3 A' n c' xs) := by
  refine Ct.of_body Try.func53 rfl (nt := 8) rfl (by kernel_rfl) rfl ?_
  intro N0 w0 R
  rw [one_star]
  refine Cx.seq (fun K1 k1 => ?_)
  refine Cx.region ?_
  refine Lx.y (asg rfl) rfl ?_
  refine Lx.nil ?_
  refine Xx.tn (k1 _ _ _ _ ?_)
  refine Cx.seq (fun K2 k2 => ?_)
  refine Cx.seq (fun K3 k3 => ?_)
  refine Cx.region ?_
  refine Lx.y (mv rfl) rfl ?_
  refine Lx.y (eqNilV Try.underlying54 rfl rfl) rfl ?_
  refine Lx.nil ?_
  refine Xx.tn (k3 _ _ _ _ ?_)
  refine Cx.condB rfl (fun h4 => ?_) (fun h4 => ?_)
  · skip
    have hA0 : A = none := by cases A with | none => rfl | some a => exact absurd h4 (by simp)
    have hm0 : n = 0 ∧ xs = [] := by
      obtain ⟨hl, h | ⟨b, o, cs, et, fz, h, _⟩⟩ := hR
      · exact ⟨h.2, List.length_eq_zero_iff.1 (by rw [hl, h.2, Nat.zero_mul])⟩
      · rw [hA0] at h; cases h
    obtain ⟨rfl, rfl⟩ := hm0
    refine Cx.seq (fun K5 k5 => ?_)
    refine Cx.region ?_
    refine Lx.y (asg rfl) rfl ?_
    refine Lx.nil ?_
    refine Xx.tn (k5 _ _ _ _ ?_)
    refine Cx.ret ?_
    refine Xx.tr ?_
    exact Xx.ret1 rfl rfl ⟨rfl, none, 0, rfl, rfl⟩ (Frag.le_refl _) (by rw [sbuf_nil, one_star])
  · skip
    refine Cx.skip ?_
    refine Xx.tn (k2 _ _ _ _ ?_)
    refine Cx.seq (fun K6 k6 => ?_)
    refine Cx.region ?_
    refine Lx.o (bslZ Try.underlying54 ti25) rfl (fun v B' H' hΦ hB => ?_)
    obtain ⟨b0, rfl, hBB, rfl⟩ := hΦ
    have hBB2 := hBB.symm
    subst hBB2
    clear hB
    refine Lx.y (mv rfl) rfl ?_
    refine Lx.o (appB (A := some ⟨b0, 0, none⟩) n xs Try.underlying54 Try.underlying54 ti25 rfl rfl hR h1 (by omega) (by omega) (by omega) (List.nil_append _)) rfl (fun v B' H' hΦ hB => ?_)
    obtain ⟨A1, c1, rfl, hA1, hc1, hBB, rfl⟩ := hΦ
    have hBB2 := hBB.symm
    subst hBB2
    clear hB
    refine Lx.y (asg rfl) rfl ?_
    refine Lx.nil ?_
    refine Xx.tn (k6 _ _ _ _ ?_)
    refine Cx.ret ?_
    exact Xx.ret1 rfl rfl ⟨rfl, A1, c1, rfl, rfl⟩ (Frag.le_refl _) rfl

theorem ClS_ct (A : Option Addr) (n c : Nat) (xs : List Value) (B : Frag) (h1 : xs.all (·.oneCell') = true) (hb : n * 24 ≤ 140737488355328) (hn : n ≤ 4611686018427387904) :
    Ct Try.prog 53 [.slice A n c] B (sbuf 25 3 A n c xs) (fun v B' H' => B' = B ∧ ∃ A' c', v = .slice A' n c' ∧ H' = sbuf 25 3 A n c xs * sbuf 25 3 A' n c' xs) := by
  have h := Ct.lend (p := sbuf 25 3 A n c xs) (q := 1) (B := B) (args := [.slice A n c]) (Φ := fun v H0 => ∃ A' c', v = .slice A' n c' ∧ H0 = sbuf 25 3 A' n c' xs) (Go.SL.enters_of Try.func53 rfl (by kernel_rfl)) (fun k hk ha => ClS_ro A n c xs _ (sbuf_ro hk ha).1 h1 hb hn)
  rw [star_comm, one_star] at h
  refine Ct.mono h ?_
  rintro v B' H' ⟨e1, H0, ⟨A', c', e2, e3⟩, e4⟩
  exact ⟨e1, A', c', e2, by rw [e4, e3]⟩

set_option maxHeartbeats 1000000 in
theorem ClI_ro (A : Option Addr) (n c : Nat) (xs : List Value) (B : Frag) (hR : RoS B 1 A n xs) (h1 : xs.all (·.oneCell') = true) (hb : n * 8 ≤ 140737488355328) (hn : n ≤ 4611686018427387904) : Ct Try.prog 54 [.slice A n c] B 1 (fun v B' H' => B' = B ∧ ∃ A' c', v = .slice A' n c' ∧ H' = sbuf 3 1 A' n c' xs) := by
  refine Ct.of_body Try.func54 rfl (nt := 8) rfl (by kernel_rfl) rfl ?_
  intro N0 w0 R
  rw [one_star]
  refine Cx.seq (fun K1 k1 => ?_)
  refine Cx.region ?_
  refine Lx.y (asg rfl) rfl ?_
  refine Lx.nil ?_
  refine Xx.tn (k1 _ _ _ _ ?_)
  refine Cx.seq (fun K2 k2 => ?_)
  refine Cx.seq (fun K3 k3 => ?_)
  refine Cx.region ?_
  refine Lx.y (mv rfl) rfl ?_
  refine Lx.y (eqNilV Try.underlying39 rfl rfl) rfl ?_
  refine Lx.nil ?_
  refine Xx.tn (k3 _ _ _ _ ?_)
  refine Cx.condB rfl (fun h4 => ?_) (fun h4 => ?_)
  · skip
    have hA0 : A = none := by cases A with | none => rfl | some a => exact absurd h4 (by simp)
    have hm0 : n = 0 ∧ xs = [] := by
      obtain ⟨hl, h | ⟨b, o, cs, et, fz, h, _⟩⟩ := hR
      · exact ⟨h.2, List.length_eq_zero_iff.1 (by rw [hl, h.2, Nat.zero_mul])⟩
      · rw [hA0] at h; cases h
    obtain ⟨rfl, rfl⟩ := hm0
    refine Cx.seq (fun K5 k5 => ?_)
    refine Cx.region ?_
    refine Lx.y (asg rfl) rfl ?_
    refine Lx.nil ?_
    refine Xx.tn (k5 _ _ _ _ ?_)
    refine Cx.ret ?_
    refine Xx.tr ?_
    exact Xx.ret1 rfl rfl ⟨rfl, none, 0, rfl, rfl⟩ (Frag.le_refl _) (by rw [sbuf_nil, one_star])
  · skip
    refine Cx.skip ?_
    refine Xx.tn (k2 _ _ _ _ ?_)
    refine Cx.seq (fun K6 k6 => ?_)
    refine Cx.region ?_
    refine Lx.o (bslZ Try.underlying39 ti3) rfl (fun v B' H' hΦ hB => ?_)
    obtain ⟨b0, rfl, hBB, rfl⟩ := hΦ
    have hBB2 := hBB.symm
    subst hBB2
    clear hB
    refine Lx.y (mv rfl) rfl ?_
    refine Lx.o (appB (A := some ⟨b0, 0, none⟩) n xs Try.underlying39 Try.underlying39 ti3 rfl rfl hR h1 (by omega) (by omega) (by omega) (List.nil_append _)) rfl (fun v B' H' hΦ hB => ?_)
    obtain ⟨A1, c1, rfl, hA1, hc1, hBB, rfl⟩ := hΦ
    have hBB2 := hBB.symm
    subst hBB2
    clear hB
    refine Lx.y (asg rfl) rfl ?_
    refine Lx.nil ?_
    refine Xx.tn (k6 _ _ _ _ ?_)
    refine Cx.ret ?_
    exact Xx.ret1 rfl rfl ⟨rfl, A1, c1, rfl, rfl⟩ (Frag.le_refl _) rfl

theorem ClI_ct (A : Option Addr) (n c : Nat) (xs : List Value) (B : Frag) (h1 : xs.all (·.oneCell') = true) (hb : n * 8 ≤ 140737488355328) (hn : n ≤ 4611686018427387904) :
    Ct Try.prog 54 [.slice A n c] B (sbuf 3 1 A n c xs) (fun v B' H' => B' = B ∧ ∃ A' c', v = .slice A' n c' ∧ H' = sbuf 3 1 A n c xs * sbuf 3 1 A' n c' xs) := by
  have h := Ct.lend (p := sbuf 3 1 A n c xs) (q := 1) (B := B) (args := [.slice A n c]) (Φ := fun v H0 => ∃ A' c', v = .slice A' n c' ∧ H0 = sbuf 3 1 A' n c' xs) (Go.SL.enters_of Try.func54 rfl (by kernel_rfl)) (fun k hk ha => ClI_ro A n c xs _ (sbuf_ro hk ha).1 h1 hb hn)
  rw [star_comm, one_star] at h
  refine Ct.mono h ?_
  rintro v B' H' ⟨e1, H0, ⟨A', c', e2, e3⟩, e4⟩
  exact ⟨e1, A', c', e2, by rw [e4, e3]⟩

set_option maxHeartbeats 1000000 in
theorem InsI_end (A : Option Addr) (n c : Nat) (xs : List Value) (vb : Nat) (etv : TypeId) (news : List Value) (B : Frag) (hns : news.length = 1) (hn1 : news.all (·.oneCell') = true) (hbd : (n + 1) * 8 ≤ 140737488355328) : Ct Try.prog 79 [.slice A n c, i64 (n : Nat), .slice (some ⟨vb, 0, none⟩) 1 1] B (sbuf 3 1 A n c xs * row vb etv news) (fun v B' H' => ∃ A' c', v = .slice A' (n + 1) c' ∧ B' = B ∧ H' = sbuf 3 1 A' (n + 1) c' (xs ++ news) ∧ (∃ b, A' = some ⟨b, 0, none⟩) ∧ n + 1 ≤ c') := by
  refine Ct.of_body Try.func79 rfl (nt := 95) rfl (by kernel_rfl) rfl ?_
  intro N0 w0 R
  rw [star_assoc]
  refine Cx.seq (fun K1 k1 => ?_)
  refine Cx.region ?_
  refine Lx.y (asg rfl) rfl ?_
  refine Lx.nil ?_
  refine Xx.tn (k1 _ _ _ _ ?_)
  refine Cx.seq (fun K2 k2 => ?_)
  refine Cx.region ?_
  refine Lx.y (mv rfl) rfl ?_
  refine Lx.y (mv rfl) rfl ?_
  refine Lx.y (sl1V Try.underlying39 sz3 rfl rfl (Int.toNat_natCast _) (by omega) (by omega)) rfl ?_
  refine Lx.nil ?_
  refine Xx.tn (k2 _ _ _ _ ?_)
  refine Cx.seq (fun K3 k3 => ?_)
  refine Cx.region ?_
  refine Lx.y (mv rfl) rfl ?_
  refine Lx.y (lenV (ty' := 0) Try.underlying39 rfl) rfl ?_
  refine Lx.y (asg rfl) rfl ?_
  refine Lx.nil ?_
  refine Xx.tn (k3 _ _ _ _ ?_)
  refine Cx.seq (fun K4 k4 => ?_)
  refine Cx.seq (fun K5 k5 => ?_)
  refine Cx.region ?_
  refine Lx.y (mv rfl) rfl ?_
  refine Lx.y (eqI rfl rfl) rfl ?_
  refine Lx.nil ?_
  refine Xx.tn (k5 _ _ _ _ ?_)
  refine Cx.condD rfl (fun h6 => ?_) (fun h6 => ?_)
  · skip
    exact absurd h6 (by decide)
  · skip
    refine Cx.skip ?_
    refine Xx.tn (k4 _ _ _ _ ?_)
    refine Cx.seq (fun K7 k7 => ?_)
    refine Cx.region ?_
    refine Lx.y (mv rfl) rfl ?_
    refine Lx.y (lenV (ty' := 0) Try.underlying39 rfl) rfl ?_
    refine Lx.y (asg rfl) rfl ?_
    refine Lx.nil ?_
    refine Xx.tn (k7 _ _ _ _ ?_)
    refine Cx.seq (fun K8 k8 => ?_)
    refine Cx.seq (fun K9 k9 => ?_)
    refine Cx.region ?_
    refine Lx.y (mv rfl) rfl ?_
    refine Lx.y (mv rfl) rfl ?_
    refine Lx.y (eqI rfl rfl) rfl ?_
    refine Lx.nil ?_
    refine Xx.tn (k9 _ _ _ _ ?_)
    refine Cx.condD rfl (fun h10 => ?_) (fun h10 => ?_)
    · skip
      refine Cx.seq (fun K11 k11 => ?_)
      refine Cx.region ?_
      refine Lx.y (mv rfl) rfl ?_
      refine Lx.y (mv rfl) rfl ?_
      refine Lx.o (appN (et := 3) (n + 1) news (xs ++ news) Try.underlying39 Try.underlying39 ti3 rfl rfl (by rw [hns]) (by rw [List.drop_zero, List.take_of_length_le (by omega)]) hn1 (by omega) (by omega) rfl rfl) rfl (fun v B' H' hΦ hB => ?_)
      obtain ⟨A3, c3, rfl, hA3, hl3, hc3, hBB, rfl⟩ := hΦ
      obtain rfl := hBB.symm
      clear hB
      refine Lx.y (asg rfl) rfl ?_
      refine Lx.nil ?_
      refine Xx.tn (k11 _ _ _ _ ?_)
      refine Cx.ret ?_
      refine Xx.tr ?_
      exact Xx.dropB vb (Xx.ret1 rfl rfl ⟨A3, c3, rfl, rfl, rfl, hA3 (by omega), hc3⟩ (Frag.le_refl _) rfl)
    · skip
      exact absurd rfl h10

set_option maxHeartbeats 1000000 in
theorem InsI_mid (b : Nat) (sp : List Value) (i n c : Nat) (xs : List Value) (vb : Nat) (etv : TypeId) (news : List Value) (B : Frag) (hi : i < n) (hxl : xs.length = n * 1) (hnc : n ≤ c) (hcl : (xs ++ sp).length = c * 1) (hx1 : xs.all (·.oneCell') = true) (hns : news.length = 1) (hn1 : news.all (·.oneCell') = true) (hbd : (n + 1) * 8 ≤ 140737488355328) : Ct Try.prog 79 [.slice (some ⟨b, 0, none⟩) n c, i64 (i : Nat), .slice (some ⟨vb, 0, none⟩) 1 1] B (row vb etv news * row b 3 (xs ++ sp)) (fun v B' H' => ∃ b' c' sp', v = .slice (some ⟨b', 0, none⟩) (n + 1) c' ∧ B' = B ∧ H' = row b' 3 (xs.take (i * 1) ++ news ++ xs.drop (i * 1) ++ sp') ∧ (xs.take (i * 1) ++ news ++ xs.drop (i * 1) ++ sp').length = c' * 1 ∧ n + 1 ≤ c') := by
  have hxl2 := hcl
  rw [List.length_append] at hxl2
  have hDl : (xs.drop (i * 1)).length = (n - i) * 1 := by rw [List.length_drop]; omega
  have hD1 : (xs.drop (i * 1)).all (·.oneCell') = true := by rw [List.all_eq_true] at hx1 ⊢; exact fun v hv => hx1 v (List.mem_of_mem_drop hv)
  have hTl : (xs.take (i * 1)).length = i * 1 := by rw [List.length_take]; omega
  refine Ct.of_body Try.func79 rfl (nt := 95) rfl (by kernel_rfl) rfl ?_
  intro N0 w0 R
  rw [star_assoc]
  refine Cx.seq (fun K1 k1 => ?_)
  refine Cx.region ?_
  refine Lx.y (asg rfl) rfl ?_
  refine Lx.nil ?_
  refine Xx.tn (k1 _ _ _ _ ?_)
  refine Cx.seq (fun K2 k2 => ?_)
  refine Cx.region ?_
  refine Lx.y (mv rfl) rfl ?_
  refine Lx.y (mv rfl) rfl ?_
  refine Lx.y (sl1V Try.underlying39 sz3 rfl rfl (Int.toNat_natCast _) (by omega) (by omega)) rfl ?_
  refine Lx.nil ?_
  refine Xx.tn (k2 _ _ _ _ ?_)
  refine Cx.seq (fun K3 k3 => ?_)
  refine Cx.region ?_
  refine Lx.y (mv rfl) rfl ?_
  refine Lx.y (lenV (ty' := 0) Try.underlying39 rfl) rfl ?_
  refine Lx.y (asg rfl) rfl ?_
  refine Lx.nil ?_
  refine Xx.tn (k3 _ _ _ _ ?_)
  refine Cx.seq (fun K4 k4 => ?_)
  refine Cx.seq (fun K5 k5 => ?_)
  refine Cx.region ?_
  refine Lx.y (mv rfl) rfl ?_
  refine Lx.y (eqI rfl rfl) rfl ?_
  refine Lx.nil ?_
  refine Xx.tn (k5 _ _ _ _ ?_)
  refine Cx.condD rfl (fun h6 => ?_) (fun h6 => ?_)
  · skip
    exact absurd h6 (by decide)
  · skip
    refine Cx.skip ?_
    refine Xx.tn (k4 _ _ _ _ ?_)
    refine Cx.seq (fun K7 k7 => ?_)
    refine Cx.region ?_
    refine Lx.y (mv rfl) rfl ?_
    refine Lx.y (lenV (ty' := 0) Try.underlying39 rfl) rfl ?_
    refine Lx.y (asg rfl) rfl ?_
    refine Lx.nil ?_
    refine Xx.tn (k7 _ _ _ _ ?_)
    refine Cx.seq (fun K8 k8 => ?_)
    refine Cx.seq (fun K9 k9 => ?_)
    refine Cx.region ?_
    refine Lx.y (mv rfl) rfl ?_
    refine Lx.y (mv rfl) rfl ?_
    refine Lx.y (eqI rfl rfl) rfl ?_
    refine Lx.nil ?_
    refine Xx.tn (k9 _ _ _ _ ?_)
    refine Cx.condD rfl (fun h10 => ?_) (fun h10 => ?_)
    · skip
      exact absurd h10 (by omega)
    · skip
      refine Cx.skip ?_
      refine Xx.tn (k8 _ _ _ _ ?_)
      refine Cx.seq (fun K11 k11 => ?_)
      refine Cx.seq (fun K12 k12 => ?_)
      refine Cx.region ?_
      refine Lx.y (mv rfl) rfl ?_
      refine Lx.y (mv rfl) rfl ?_
      refine Lx.y (add rfl rfl (by first | exact wrap64 (by omega) (by omega) | rfl)) rfl ?_
      refine Lx.y (mv rfl) rfl ?_
      refine Lx.y (capV Try.underlying39 rfl) rfl ?_
      refine Lx.y (gtr rfl rfl) rfl ?_
      refine Lx.nil ?_
      refine Xx.tn (k12 _ _ _ _ ?_)
      refine Cx.condD rfl (fun h13 => ?_) (fun h13 => ?_)
      · skip
        have hno := h13
        refine Cx.seq (fun K14 k14 => ?_)
        refine Cx.region ?_
        refine Lx.y (mv rfl) rfl ?_
        refine Lx.y (mv rfl) rfl ?_
        refine Lx.y (sl2V Try.underlying39 sz3 rfl rfl (Int.toNat_natCast _) (by omega) (by omega)) rfl ?_
        refine Lx.y (mv rfl) rfl ?_
        refine Lx.y (mv rfl) rfl ?_
        refine Lx.y (add rfl rfl (by first | exact wrap64 (by omega) (by omega) | rfl)) rfl ?_
        refine Lx.y (mv rfl) rfl ?_
        refine Lx.y (sub rfl rfl (show IntKind.i64.wrap _ = ((n + 1 - i : Nat) : Int) by rw [wrap64 (by omega) (by omega)]; omega)) rfl ?_
        refine Lx.o (amO (olds := xs.take (i * 1)) (m := n + 1 - i) Try.underlying39 Try.underlying3 ti3 rfl rfl (SrcH.own (b := b) (o := 0) (i * 1) (by rw [List.drop_zero]; exact List.take_append_of_le_length (by omega))) hTl (by omega) (by omega) (by rw [show i + (n + 1 - i) = n + 1 by omega]; exact hbd)) rfl (fun v B' H' hΦ hB => ?_)
        obtain ⟨b9, c9, rest, rfl, hc9, hrl, hBB, rfl⟩ := hΦ
        obtain rfl := hBB.symm
        clear hB
        rw [show i + (n + 1 - i) = n + 1 by omega] at hc9 ⊢
        refine Lx.y (asg rfl) rfl ?_
        refine Lx.nil ?_
        refine Xx.tn (k14 _ _ _ _ ?_)
        refine Cx.seq (fun K15 k15 => ?_)
        refine Cx.region ?_
        refine Lx.y (mv rfl) rfl ?_
        refine Lx.y (mv rfl) rfl ?_
        refine Lx.y (sl1A i Try.underlying39 sz3 rfl rfl rfl (by omega) (by omega)) rfl ?_
        refine Lx.y (mv rfl) rfl ?_
        refine Lx.o (cpO (cs' := (xs.take (i * 1) ++ news ++ rest.drop 1)) 1 Try.underlying39 sz3 rfl rfl (show Nat.min _ _ = _ by first | rfl | (simp only [Nat.min_def]; split <;> omega)) (SrcH.own (b := vb) (o := 0) (news := news) 1 (by rw [List.drop_zero, List.take_of_length_le (by omega)])) (by rw [hns]) hn1 (by rw [Nat.zero_add, List.length_append, hTl]; omega) (by rw [Nat.zero_add]; exact ins_grow1 hTl hns (by omega))) rfl (fun v B' H' hΦ hB => ?_)
        obtain ⟨rfl, hBB, rfl⟩ := hΦ
        obtain rfl := hBB.symm
        clear hB
        refine Lx.nil ?_
        refine Xx.tn (k15 _ _ _ _ ?_)
        refine Cx.seq (fun K16 k16 => ?_)
        refine Cx.drawn (by kernel_rfl) ?_
        refine Dx.p (i := 0) rfl (by kernel_rfl) (mv rfl) rfl ?_
        refine Dx.p (i := 1) rfl (by kernel_rfl) (mv rfl) rfl ?_
        refine Dx.p (i := 2) rfl (by kernel_rfl) (mv rfl) rfl ?_
        refine Dx.p (i := 3) rfl (by kernel_rfl) (add rfl rfl (show IntKind.i64.wrap _ = ((i + 1 : Nat) : Int) by rw [wrap64 (by omega) (by omega)]; rfl)) rfl ?_
        refine Dx.p (i := 4) rfl (by kernel_rfl) (sl1A (i + 1) Try.underlying39 sz3 rfl rfl rfl (by omega) (by omega)) rfl ?_
        refine Dx.p (i := 5) rfl (by kernel_rfl) (mv rfl) rfl ?_
        refine Dx.p (i := 6) rfl (by kernel_rfl) (mv rfl) rfl ?_
        refine Dx.p (i := 7) rfl (by kernel_rfl) (sl1A i Try.underlying39 sz3 rfl rfl rfl (by omega) (by omega)) rfl ?_
        refine Dx.one (i := 8) (by kernel_rfl) ?_
        refine Dstep.o (i := 8) rfl (cpO (cs' := (xs.take (i * 1) ++ news ++ xs.drop (i * 1) ++ (rest.drop 1).drop (xs.drop (i * 1)).length)) (n - i) Try.underlying39 sz3 rfl rfl (show Nat.min _ _ = _ by first | rfl | (simp only [Nat.min_def]; split <;> omega)) (SrcH.own (b := b) (o := 0 + i * 1) (news := xs.drop (i * 1)) ((n - i) * 1) (by rw [Nat.zero_add, List.drop_append_of_le_length (by omega), List.take_append_of_le_length (by omega), List.take_of_length_le (by omega)])) hDl hD1 (by simp only [List.length_append, List.length_drop, hTl, hns, hDl]; omega) (by rw [Nat.zero_add, show (i + 1) * 1 = i * 1 + 1 by omega]; exact ins_grow2 hTl hns)) rfl (fun v B' H' hΦ hB => ?_)
        obtain ⟨rfl, rfl, rfl⟩ := hΦ
        clear hB
        refine ⟨JOk.top, ?_⟩
        refine Dx.done (by kernel_rfl) ?_
        refine Xx.tn (k16 _ _ _ _ ?_)
        refine Cx.seq (fun K17 k17 => ?_)
        refine Cx.region ?_
        refine Lx.y (mv rfl) rfl ?_
        refine Lx.y (asg rfl) rfl ?_
        refine Lx.nil ?_
        refine Xx.tn (k17 _ _ _ _ ?_)
        refine Cx.ret ?_
        refine Xx.tr ?_
        exact Xx.dropB vb (Xx.dropB b (Xx.ret1 rfl rfl ⟨b9, c9, _, rfl, rfl, rfl, by simp only [List.length_append, List.length_drop, hTl, hns, hDl]; omega, hc9⟩ (Frag.le_refl _) rfl))
      · skip
        have hno := h13
        refine Cx.skip ?_
        refine Xx.tn (k11 _ _ _ _ ?_)
        refine Cx.seq (fun K18 k18 => ?_)
        refine Cx.region ?_
        refine Lx.y (mv rfl) rfl ?_
        refine Lx.y (mv rfl) rfl ?_
        refine Lx.y (mv rfl) rfl ?_
        refine Lx.y (add rfl rfl (show IntKind.i64.wrap _ = ((n + 1 : Nat) : Int) by rw [wrap64 (by omega) (by omega)]; rfl)) rfl ?_
        refine Lx.y (sl2V Try.underlying39 sz3 rfl rfl (Int.toNat_natCast _) (by omega) (by omega)) rfl ?_
        refine Lx.y (asg rfl) rfl ?_
        refine Lx.nil ?_
        refine Xx.tn (k18 _ _ _ _ ?_)
        refine Cx.seq (fun K19 k19 => ?_)
        refine Cx.seq (fun K20 k20 => ?_)
        refine Cx.region ?_
        refine Lx.y (mv rfl) rfl ?_
        refine Lx.y (mv rfl) rfl ?_
        refine Lx.y (mv rfl) rfl ?_
        refine Lx.y (mv rfl) rfl ?_
        refine Lx.y (add rfl rfl (show IntKind.i64.wrap _ = ((i + 1 : Nat) : Int) by rw [wrap64 (by omega) (by omega)]; rfl)) rfl ?_
        refine Lx.y (sl1V Try.underlying39 sz3 rfl rfl (Int.toNat_natCast _) (by omega) (by omega)) rfl ?_
        rw [show subA (some ⟨b, 0, none⟩) c (i + 1) 1 = (if c = i + 1 then some ⟨b, 0, none⟩ else some ⟨b, 0 + (i + 1) * 1, none⟩) by unfold subA; split <;> simp [add_mk]]
        have hcne : ¬ c = i + 1 := by omega
        rw [if_neg hcne]
        refine Lx.y (extc rfl rfl (ovQ (tS := 39) (tR := 4) Try.func94 (by kernel_rfl) (by kernel_rfl) (by kernel_rfl) (by kernel_rfl) Try.underlying39 sz3 rfl (by intro z; have h9 := congrArg List.length z; rw [List.length_append, List.length_nil] at h9; omega))) rfl ?_
        refine Lx.y (not' rfl) rfl ?_
        refine Lx.nil ?_
        refine Xx.tn (k20 _ _ _ _ ?_)
        refine Cx.condT rfl ?_
        refine Cx.seq (fun K21 k21 => ?_)
        refine Cx.drawn (by kernel_rfl) ?_
        refine Dx.p (i := 0) rfl (by kernel_rfl) (mv rfl) rfl ?_
        refine Dx.p (i := 1) rfl (by kernel_rfl) (mv rfl) rfl ?_
        refine Dx.p (i := 2) rfl (by kernel_rfl) (mv rfl) rfl ?_
        refine Dx.p (i := 3) rfl (by kernel_rfl) (add rfl rfl (show IntKind.i64.wrap _ = ((i + 1 : Nat) : Int) by rw [wrap64 (by omega) (by omega)]; rfl)) rfl ?_
        refine Dx.p (i := 4) rfl (by kernel_rfl) (sl1A (i + 1) Try.underlying39 sz3 rfl rfl rfl (by omega) (by omega)) rfl ?_
        refine Dx.p (i := 5) rfl (by kernel_rfl) (mv rfl) rfl ?_
        refine Dx.p (i := 6) rfl (by kernel_rfl) (mv rfl) rfl ?_
        refine Dx.p (i := 7) rfl (by kernel_rfl) (sl1A i Try.underlying39 sz3 rfl rfl rfl (by omega) (by omega)) rfl ?_
        refine Dx.one (i := 8) (by kernel_rfl) ?_
        refine Dstep.o (i := 8) rfl (cpO (cs' := ((xs ++ sp).take (i * 1 + 1) ++ xs.drop (i * 1) ++ (xs ++ sp).drop ((n + 1) * 1))) (n - i) Try.underlying39 sz3 rfl rfl (show Nat.min _ _ = _ by first | rfl | (simp only [Nat.min_def]; split <;> omega)) (SrcH.own (b := b) (o := 0 + i * 1) (news := xs.drop (i * 1)) ((n - i) * 1) (by rw [Nat.zero_add, List.drop_append_of_le_length (by omega), List.take_append_of_le_length (by omega), List.take_of_length_le (by omega)])) hDl hD1 (by rw [List.length_append]; omega) (by rw [Nat.zero_add, hDl, show (i + 1) * 1 = i * 1 + 1 by omega, show i * 1 + 1 + (n - i) * 1 = (n + 1) * 1 by omega])) rfl (fun v B' H' hΦ hB => ?_)
        obtain ⟨rfl, rfl, rfl⟩ := hΦ
        clear hB
        refine ⟨JOk.top, ?_⟩
        refine Dx.done (by kernel_rfl) ?_
        refine Xx.tn (k21 _ _ _ _ ?_)
        refine Cx.seq (fun K22 k22 => ?_)
        refine Cx.region ?_
        refine Lx.y (mv rfl) rfl ?_
        refine Lx.y (mv rfl) rfl ?_
        refine Lx.y (sl1A i Try.underlying39 sz3 rfl rfl rfl (by omega) (by omega)) rfl ?_
        refine Lx.y (mv rfl) rfl ?_
        refine Lx.o (cpO (cs' := (xs.take (i * 1) ++ news ++ xs.drop (i * 1) ++ (xs ++ sp).drop ((n + 1) * 1))) 1 Try.underlying39 sz3 rfl rfl (show Nat.min _ _ = _ by first | rfl | (simp only [Nat.min_def]; split <;> omega)) (SrcH.own (b := vb) (o := 0) (news := news) 1 (by rw [List.drop_zero, List.take_of_length_le (by omega)])) (by rw [hns]) hn1 (by simp only [List.length_append, List.length_take, List.length_drop, hDl]; omega) (by rw [Nat.zero_add]; exact ins_room (by omega) hns (by rw [List.length_append]; omega) (List.take_append_of_le_length (by omega)) rfl (by omega))) rfl (fun v B' H' hΦ hB => ?_)
        obtain ⟨rfl, hBB, rfl⟩ := hΦ
        obtain rfl := hBB.symm
        clear hB
        refine Lx.nil ?_
        refine Xx.tn (k22 _ _ _ _ ?_)
        refine Cx.seq (fun K23 k23 => ?_)
        refine Cx.region ?_
        refine Lx.y (mv rfl) rfl ?_
        refine Lx.y (asg rfl) rfl ?_
        refine Lx.nil ?_
        refine Xx.tn (k23 _ _ _ _ ?_)
        refine Cx.ret ?_
        refine Xx.tr ?_
        exact Xx.dropB vb (Xx.ret1 rfl rfl ⟨b, c, _, rfl, rfl, rfl, by simp only [List.length_append, List.length_drop, hTl, hns, hDl]; omega, by omega⟩ (Frag.le_refl _) rfl)

theorem InsI_ct (A : Option Addr) (i n c : Nat) (xs : List Value) (vb : Nat) (etv : TypeId) (news : List Value) (B : Frag) (hi : i ≤ n) (hxl : xs.length = n * 1) (hx1 : xs.all (·.oneCell') = true) (hns : news.length = 1) (hn1 : news.all (·.oneCell') = true) (hbd : (n + 1) * 8 ≤ 140737488355328) :
    Ct Try.prog 79 [.slice A n c, i64 (i : Nat), .slice (some ⟨vb, 0, none⟩) 1 1] B (sbuf 3 1 A n c xs * row vb etv news) (fun v B' H' => ∃ A' c', v = .slice A' (n + 1) c' ∧ B' = B ∧ H' = sbuf 3 1 A' (n + 1) c' (xs.take (i * 1) ++ news ++ xs.drop (i * 1)) ∧ (∃ b, A' = some ⟨b, 0, none⟩) ∧ n + 1 ≤ c') := by
  by_cases h : i = n
  · subst h
    have h1 : xs.take (i * 1) = xs := List.take_of_length_le (by omega)
    have h2 : xs.drop (i * 1) = [] := List.drop_of_length_le (by omega)
    rw [h1, h2, List.append_nil]
    exact InsI_end A i c xs vb etv news B hns hn1 hbd
  · refine Ct.of_sbuf (by omega) (fun b sp hA hx hnc hcl => ?_) (Go.SL.enters_of Try.func79 rfl (by kernel_rfl))
    subst hA
    have hm := InsI_mid b sp i n c xs vb etv news B (by omega) hxl hnc hcl hx1 hns hn1 hbd
    refine ⟨hm.1, fun N0 w R s => (hm.2 N0 w R s).mono ?_⟩
    rintro x w' ⟨v, B', _, hx', ⟨b', c', sp', hv, hB, rfl, hl, hc'⟩, hBB, hb, s'⟩
    refine ⟨v, B', _, hx', ⟨some ⟨b', 0, none⟩, c', hv, hB, rfl, ⟨b', rfl⟩, hc'⟩, hBB, hb, row_sbuf ?_ hc' hl s'⟩
    simp only [List.length_append, List.length_take, List.length_drop, hns, hxl]; omega

set_option maxHeartbeats 4000000 in
theorem DelS_row (b i n c : Nat) (xs sp : List Value) (B : Frag) (hi : i < n) (hxl : xs.length = n * 3) (hnc : n ≤ c) (hcl : (xs ++ sp).length = c * 3) (hx1 : xs.all (·.oneCell') = true) (hbd : n ≤ 4611686018427387904) : Ct Try.prog 77 [.slice (some ⟨b, 0, none⟩) n c, i64 (i : Nat), i64 (i + 1 : Nat)] B (row b 25 (xs ++ sp)) (fun v B' H' => v = .slice (some ⟨b, 0, none⟩) (n - 1) c ∧ B' = B ∧ ∃ sp', H' = row b 25 ((xs.take (i * 3) ++ xs.drop ((i + 1) * 3)) ++ sp') ∧ ((xs.take (i * 3) ++ xs.drop ((i + 1) * 3)) ++ sp').length = c * 3) := by
  have hcl2 := hcl
  rw [List.length_append] at hcl2
  have hT : (xs.take (i * 3)).length = i * 3 := by rw [List.length_take]; omega
  have hD : (xs.drop ((i + 1) * 3)).length = (n - (i + 1)) * 3 := by rw [List.length_drop]; omega
  have hD1 : (xs.drop ((i + 1) * 3)).all (·.oneCell') = true := by rw [List.all_eq_true] at hx1 ⊢; exact fun v hv => hx1 v (List.mem_of_mem_drop hv)
  refine Ct.of_body Try.func77 rfl (nt := 33) rfl (by kernel_rfl) rfl ?_
  intro N0 w0 R
  refine Cx.seq (fun K1 k1 => ?_)
  refine Cx.region ?_
  refine Lx.y (asg rfl) rfl ?_
  refine Lx.nil ?_
  refine Xx.tn (k1 _ _ _ _ ?_)
  refine Cx.seq (fun K2 k2 => ?_)
  refine Cx.region ?_
  refine Lx.y (mv rfl) rfl ?_
  refine Lx.y (mv rfl) rfl ?_
  refine Lx.y (mv rfl) rfl ?_
  refine Lx.y (mv rfl) rfl ?_
  refine Lx.y (lenV (ty' := 0) Try.underlying54 rfl) rfl ?_
  refine Lx.y (sl4V Try.underlying54 sz25 rfl rfl rfl rfl (by omega) (by omega) (by omega) (by omega)) rfl ?_
  refine Lx.nil ?_
  refine Xx.tn (k2 _ _ _ _ ?_)
  refine Cx.seq (fun K3 k3 => ?_)
  refine Cx.seq (fun K4 k4 => ?_)
  refine Cx.region ?_
  refine Lx.y (mv rfl) rfl ?_
  refine Lx.y (mv rfl) rfl ?_
  refine Lx.y (eqI rfl rfl) rfl ?_
  refine Lx.nil ?_
  refine Xx.tn (k4 _ _ _ _ ?_)
  refine Cx.condD rfl (fun h5 => ?_) (fun h5 => ?_)
  · skip
    exact absurd h5 (by omega)
  · skip
    refine Cx.skip ?_
    refine Xx.tn (k3 _ _ _ _ ?_)
    refine Cx.seq (fun K6 k6 => ?_)
    refine Cx.region ?_
    refine Lx.y (mv rfl) rfl ?_
    refine Lx.y (lenV (ty' := 0) Try.underlying54 rfl) rfl ?_
    refine Lx.y (asg rfl) rfl ?_
    refine Lx.nil ?_
    refine Xx.tn (k6 _ _ _ _ ?_)
    refine Cx.seq (fun K7 k7 => ?_)
    refine Cx.drawn (by kernel_rfl) ?_
    refine Dx.p (i := 0) rfl (by kernel_rfl) (mv rfl) rfl ?_
    refine Dx.p (i := 1) rfl (by kernel_rfl) (mv rfl) rfl ?_
    refine Dx.p (i := 2) rfl (by kernel_rfl) (sl2V Try.underlying54 sz25 rfl rfl (Int.toNat_natCast _) (by omega) (by omega)) rfl ?_
    refine Dx.p (i := 3) rfl (by kernel_rfl) (mv rfl) rfl ?_
    refine Dx.p (i := 4) rfl (by kernel_rfl) (mv rfl) rfl ?_
    refine Dx.p (i := 5) rfl (by kernel_rfl) (sl1V Try.underlying54 sz25 rfl rfl (Int.toNat_natCast _) (by omega) (by omega)) rfl ?_
    refine Dx.one (i := 6) (by kernel_rfl) ?_
    refine Dstep.o (i := 6) rfl (apR (cs' := (xs.take (i * 3) ++ xs.drop ((i + 1) * 3)) ++ (xs ++ sp).drop (i * 3 + (n - (i + 1)) * 3)) Try.underlying54 Try.underlying54 ti25 rfl rfl (SrcH.sub (N0 := N0) (B := B) (H := row b 25 (xs ++ sp) * R) (c := c) (j := i + 1) (size := 3) (b := b) hxl (by omega) hnc) hD hD1 (by omega) (by rw [hD, List.length_append]; omega) (by rw [hD, List.take_append_of_le_length (by omega), Nat.zero_add])) rfl (fun v B' H' hΦ hB => ?_)
    obtain ⟨rfl, hBB, rfl⟩ := hΦ
    subst hBB
    rename Frag => B
    clear hB
    rw [show i + (n - (i + 1)) = n - 1 by omega]
    refine ⟨JOk.top, ?_⟩
    refine Dx.p (i := 7) rfl (by kernel_rfl) (asg rfl) rfl ?_
    refine Dx.done (by kernel_rfl) ?_
    refine Xx.tn (k7 _ _ _ _ ?_)
    refine Cx.seq (fun K8 k8 => ?_)
    refine Cx.region ?_
    refine Lx.y (mv rfl) rfl ?_
    refine Lx.y (mv rfl) rfl ?_
    refine Lx.y (lenV (ty' := 0) Try.underlying54 rfl) rfl ?_
    refine Lx.y (mv rfl) rfl ?_
    refine Lx.y (sl3A (n - 1) n Try.underlying54 sz25 rfl rfl rfl rfl rfl (by omega) (by omega) (by omega)) rfl ?_
    refine Lx.o0 (clO Try.underlying54 ti25 rfl (by omega) rfl (by simp only [List.length_append, List.length_drop, hT]; omega)) (fun v B' H' hΦ hB => ?_)
    obtain ⟨rfl, hBB, zz, hzl, rfl⟩ := hΦ
    subst hBB
    rename Frag => B
    clear hB
    refine Lx.nil ?_
    refine Xx.tn (k8 _ _ _ _ ?_)
    refine Cx.seq (fun K9 k9 => ?_)
    refine Cx.region ?_
    refine Lx.y (mv rfl) rfl ?_
    refine Lx.y (asg rfl) rfl ?_
    refine Lx.nil ?_
    refine Xx.tn (k9 _ _ _ _ ?_)
    refine Cx.ret ?_
    have e1 : ((xs.take (i * 3) ++ xs.drop ((i + 1) * 3)) ++ (xs ++ sp).drop (i * 3 + (n - (i + 1)) * 3)).take (0 + (n - 1) * 3) = (xs.take (i * 3) ++ xs.drop ((i + 1) * 3)) := by rw [List.take_append_of_le_length (by rw [List.length_append, hT, hD]; omega), List.take_of_length_le (by rw [List.length_append, hT, hD]; omega)]
    rw [e1, List.append_assoc]
    exact Xx.ret1 rfl rfl ⟨rfl, rfl, _, rfl, by simp only [List.length_append, List.length_drop, hT, hD, hzl]; omega⟩ (Frag.le_refl _) rfl

theorem DelS_ct (A : Option Addr) (i n c : Nat) (xs : List Value) (B : Frag) (hi : i < n) (hxl : xs.length = n * 3) (hx1 : xs.all (·.oneCell') = true) (hbd : n ≤ 4611686018427387904) : Ct Try.prog 77 [.slice A n c, i64 (i : Nat), i64 (i + 1 : Nat)] B (sbuf 25 3 A n c xs) (fun v B' H' => v = .slice A (n - 1) c ∧ B' = B ∧ H' = sbuf 25 3 A (n - 1) c (xs.take (i * 3) ++ xs.drop ((i + 1) * 3))) := by
  have h0 := Ct.of_sbuf (P := Try.prog) (f := 77) (args := [.slice A n c, i64 (i : Nat), i64 (i + 1 : Nat)]) (B := B) (et := 25) (size := 3) (n := n) (c := c) (A := A) (xs := xs) (q := 1) (Φ := fun v B' H' => v = .slice A (n - 1) c ∧ B' = B ∧ H' = sbuf 25 3 A (n - 1) c (xs.take (i * 3) ++ xs.drop ((i + 1) * 3))) (by omega) ?_ (Go.SL.enters_of Try.func77 rfl (by kernel_rfl))
  · rw [star_one] at h0; exact h0
  · intro b sp hA hx hnc hcl
    subst hA
    rw [one_star]
    have hm := DelS_row b i n c xs sp B hi hxl hnc (by omega) hx1 hbd
    refine ⟨hm.1, fun N0 w R s => (hm.2 N0 w R s).mono ?_⟩
    rintro x w' ⟨v, B', _, hx', ⟨rfl, rfl, sp', rfl, hl⟩, hBB, hb, s'⟩
    refine ⟨_, _, _, hx', ⟨rfl, rfl, rfl⟩, hBB, hb, row_sbuf ?_ (by omega) (by omega) s'⟩
    simp only [List.length_append, List.length_take, List.length_drop, hxl]; omega
end DkA
end Go.Proofs.Ytgcebieihmlaoaa
