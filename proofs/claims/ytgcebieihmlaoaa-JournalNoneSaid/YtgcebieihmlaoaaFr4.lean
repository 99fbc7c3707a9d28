/-
  The walks of the reference scan and of awake.
-/
import Derived.Test.YtgcebieihmlaoaaProg
import Derived.Test.YtgcebieihmlaoaaSlj
import Derived.Test.YtgcebieihmlaoaaFr3
namespace Go.Proofs.Ytgcebieihmlaoaa
open Go.SL Go.RowKit
set_option linter.unusedVariables false
set_option linter.unusedSimpArgs false
set_option maxRecDepth 100000
open Fr1 Fr2 Fr3
namespace Fr4
theorem ti69 : TI Try.prog 69 [.int .i64 0, str [], .bool false] 3 32 := TI.of (by kernel_rfl) rfl rfl
theorem pl69 : PL Try.prog 69 [(0, 1), (1, 1), (2, 1)] := PL.of Try.underlying69 (by kernel_rfl)

def refN (l : List UInt8) : Nat := (l.getD 0 0).toNat + (l.getD 1 0).toNat * 256 + (l.getD 2 0).toNat * 65536 + (l.getD 3 0).toNat * 16777216
theorem refN_eq (l : List UInt8) : refNumL l = ((refN l : Nat) : Int) := by unfold refNumL refN; omega
theorem refNum_ct (l : List UInt8) (B : Frag) (hl : 4 ≤ l.length) : CtP Try.prog 57 [str l] B (i64 ((refN l : Nat) : Int)) := by rw [← refN_eq]; exact RefNumber_ct l B hl
theorem refN_lt (l : List UInt8) : refN l < 4294967296 := by
  have b0 := (l.getD 0 0).toNat_lt
  have b1 := (l.getD 1 0).toNat_lt
  have b2 := (l.getD 2 0).toNat_lt
  have b3 := (l.getD 3 0).toNat_lt
  unfold refN; omega
/-- a frame stands there, as the reference has it -/
def rIs (l : List UInt8) (a : Nat) : Prop := a + 12 ≤ l.length ∧ refN ((l.take (a + 4)).drop a) ≤ 65536 ∧ refFourL (refCrc ((l.take (a + 4)).drop a)) = (l.take (a + 8)).drop (a + 4) ∧ a + 12 + refN ((l.take (a + 4)).drop a) ≤ l.length
instance (l : List UInt8) (a : Nat) : Decidable (rIs l a) := by unfold rIs; infer_instance
def rB (l : List UInt8) (a : Nat) : List UInt8 := (l.take (a + 12 + refN ((l.take (a + 4)).drop a))).drop (a + 12)
theorem rB_len (l : List UInt8) (a : Nat) : (rB l a).length ≤ l.length := by
  unfold rB
  generalize refN _ = z
  simp only [List.length_drop, List.length_take]
  omega
def rx (l : List UInt8) (a : Nat) : Fm := ⟨a + 12, rB l a, decide (refFourL (refCrc (rB l a)) = (l.take (a + 12)).drop (a + 8))⟩
def rscanF (l : List UInt8) : Nat → Nat → List Fm
  | 0, _ => []
  | n + 1, a => if rIs l a then rx l a :: rscanF l n (a + (12 + refN ((l.take (a + 4)).drop a))) else []
def rscanL (l : List UInt8) : List Fm := rscanF l (l.length + 1) 0
theorem rscanF_len (l : List UInt8) : ∀ (n a : Nat), a ≤ l.length → 12 * (rscanF l n a).length + a ≤ l.length := by
  intro n
  induction n with
  | zero => intro a ha; simpa [rscanF] using ha
  | succ n ih =>
    intro a ha
    unfold rscanF
    split
    · rename_i h
      have h2 := ih (a + (12 + refN ((l.take (a + 4)).drop a))) (by have := h.2.2.2; omega)
      simp only [List.length_cons]
      omega
    · simpa using ha
def rendF (l : List UInt8) : Nat → Nat → Nat
  | 0, a => a
  | n + 1, a => if rIs l a then rendF l n (a + (12 + refN ((l.take (a + 4)).drop a))) else a
def rendL (l : List UInt8) : Nat := rendF l (l.length + 1) 0

set_option maxHeartbeats 1000000 in
theorem RefScan_ct (l : List UInt8) (B : Frag) (hl : l.length ≤ 1048576) : CtB Try.prog 33 [str l] B (fun v B' => ∃ A c, v = .tuple #[.slice A (rscanL l).length c, i64 (rendL l)] ∧ RoS B' 3 A (rscanL l).length (flatF (rscanL l)) ∧ (rscanL l).length ≤ c) := by
  refine CtB.of_body Try.func33 rfl (nt := 78) rfl (by kernel_rfl) rfl ?_
  intro N0 w0 R
  refine Cx.seq (fun K1 k1 => ?_)
  refine Cx.region ?_
  refine Lx.y (asg rfl) rfl ?_
  refine Lx.y (asg rfl) rfl ?_
  refine Lx.nil ?_
  refine Xx.tn (k1 _ _ _ _ ?_)
  refine Cx.seq (fun K2 k2 => ?_)
  refine Cx.region ?_
  refine Lx.bsl (bslO Try.underlying65 ti69 rfl rfl (by simp [Value.cells]) (by decide)) rfl (fun b8 => ?_)
  refine Lx.y (asg rfl) rfl ?_
  refine Lx.y (asg rfl) rfl ?_
  refine Xx.toS b8 3 0 0 rfl (by omega) rfl ?_
  refine Lx.nil ?_
  refine Xx.tn (k2 _ _ _ _ ?_)
  refine Cx.seq (fun K3 k3 => ?_)
  refine Cx.block ?_
  refine Cx.loopK (Sub.cons (s := 0) rfl (Sub.cons (s := 2) rfl (Sub.cons (s := 3) rfl (Sub.cons (s := 8) rfl (Sub.nil _))))) (fun m ρ' B' H' => ∃ (n a : Nat) (pre : List Fm) (A : Option Addr) (c : Nat) (B2 : Frag), (rscanL l = pre ++ rscanF l n a ∧ rendL l = rendF l n a ∧ l.length < n + a ∧ a ≤ l.length ∧ B = B2) ∧ m = 1 + n ∧ ρ' = [(4, .slice A pre.length c), (5, i64 a)] ∧ B2 = B' ∧ sbuf 69 3 A pre.length c (flatF pre) * R = H') ⟨l.length + 1, 0, [], _, _, _, ⟨rfl, rfl, by omega, by omega, rfl⟩, rfl, rfl, rfl, rfl⟩ (Sub.cons (s := 4) rfl (Sub.cons (s := 5) rfl (Sub.cons (s := 0) rfl (Sub.cons (s := 2) rfl (Sub.cons (s := 3) rfl (Sub.cons (s := 8) rfl (Sub.nil _))))))) ?_
  rintro m ρ' B' H' ⟨n, a, pre, A, c, B2, ⟨hxs, hes, hn, ha, rfl⟩, rfl, rfl, rfl, rfl⟩
  obtain ⟨n, rfl⟩ : ∃ k, n = k + 1 := ⟨n - 1, by omega⟩
  refine Cx.seq (fun K4 k4 => ?_)
  refine Cx.seq (fun K5 k5 => ?_)
  refine Cx.region ?_
  refine Lx.y (mv rfl) rfl ?_
  refine Lx.y (lenS Try.underlying9 rfl) rfl ?_
  refine Lx.y (mv rfl) rfl ?_
  refine Lx.y (sub rfl rfl (by first | exact wrap64 (by omega) (by omega) | rfl)) rfl ?_
  refine Lx.y (geq rfl rfl) rfl ?_
  refine Lx.nil ?_
  refine Xx.tn (k5 _ _ _ _ ?_)
  refine Cx.condD rfl (fun h6 => ?_) (fun h6 => ?_)
  · skip
    have q0 := h6
    refine Cx.skip ?_
    refine Xx.tn (k4 _ _ _ _ ?_)
    refine Cx.block ?_
    refine Cx.seq (fun K7 k7 => ?_)
    refine Cx.region ?_
    refine Lx.y (mv rfl) rfl ?_
    refine Lx.y (mv rfl) rfl ?_
    refine Lx.y (mv rfl) rfl ?_
    refine Lx.y (add rfl rfl (by first | exact wrap64 (by omega) (by omega) | rfl)) rfl ?_
    refine Lx.y (sl3S Try.underlying9 rfl rfl rfl (by first | exact Int.toNat_natCast _ | rfl) (by first | exact Int.toNat_natCast _ | rfl) (by omega) (by omega) (by omega)) rfl ?_
    refine Lx.cp rfl rfl rfl (refNum_ct _ _ (by simp; omega)) rfl ?_
    have hnl := refN_lt ((l.take (a + 4)).drop a)
    refine Lx.y (asg rfl) rfl ?_
    refine Lx.nil ?_
    refine Xx.tn (k7 _ _ _ _ ?_)
    refine Cx.seq (fun K8 k8 => ?_)
    refine Cx.seq (fun K9 k9 => ?_)
    refine Cx.drawn (by kernel_rfl) ?_
    refine Dx.p (i := 0) rfl (by kernel_rfl) (mv rfl) rfl ?_
    refine Dx.p (i := 1) rfl (by kernel_rfl) (gtr rfl rfl) rfl ?_
    refine Dx.p (i := 2) rfl (by kernel_rfl) (mv rfl) rfl ?_
    refine Xx.ifD (t := 22) rfl (fun h10 => ?_) (fun h10 => ?_)
    · skip
      have q1 : (65536 : Int) < ((refN ((l.take (a + 4)).drop a) : Nat) : Int) := h10
      have hnr : ¬ rIs l a := fun h => absurd h.2.1 (by omega)
      have hd1 : rscanL l = pre := by rw [hxs, rscanF, if_neg hnr]; simp
      have hd2 : rendL l = a := by rw [hes, rendF, if_neg hnr]
      refine Dx.pF (i := 3) rfl (fun _ h => by cases h) rfl rfl rfl (by kernel_rfl) rfl ?_
      refine Dx.pF (i := 4) rfl (fun _ h => by cases h) rfl rfl rfl (by kernel_rfl) rfl ?_
      refine Dx.pF (i := 5) rfl (fun _ h => by cases h) rfl rfl rfl (by kernel_rfl) rfl ?_
      refine Dx.pF (i := 6) rfl (fun _ h => by cases h) rfl rfl rfl (by kernel_rfl) rfl ?_
      refine Dx.pF (i := 7) rfl (fun _ h => by cases h) rfl rfl rfl (by kernel_rfl) rfl ?_
      refine Dx.pF (i := 8) rfl (fun _ h => by cases h) rfl rfl rfl (by kernel_rfl) rfl ?_
      refine Dx.pF (i := 9) rfl (fun _ h => by cases h) rfl rfl rfl (by kernel_rfl) rfl ?_
      refine Dx.pF (i := 10) rfl (fun _ h => by cases h) rfl rfl rfl (by kernel_rfl) rfl ?_
      refine Dx.pF (i := 11) rfl (fun _ h => by cases h) rfl rfl rfl (by kernel_rfl) rfl ?_
      refine Dx.pF (i := 12) rfl (fun _ h => by cases h) rfl rfl rfl (by kernel_rfl) rfl ?_
      refine Dx.pF (i := 13) rfl (fun _ h => by cases h) rfl rfl rfl (by kernel_rfl) rfl ?_
      refine Dx.pF (i := 14) rfl (fun _ h => by cases h) rfl rfl rfl (by kernel_rfl) rfl ?_
      refine Dx.pF (i := 15) rfl (fun _ h => by cases h) rfl rfl rfl (by kernel_rfl) rfl ?_
      refine Dx.pF (i := 16) rfl (fun _ h => by cases h) rfl rfl rfl (by kernel_rfl) rfl ?_
      refine Dx.p (i := 17) rfl (by kernel_rfl) (pickT rfl rfl) rfl ?_
      refine Dx.p (i := 18) rfl (by kernel_rfl) (mv rfl) rfl ?_
      refine Dx.pF (i := 19) rfl (fun _ h => by cases h) rfl rfl rfl (by kernel_rfl) rfl ?_
      refine Dx.pF (i := 20) rfl (fun _ h => by cases h) rfl rfl rfl (by kernel_rfl) rfl ?_
      refine Dx.pF (i := 21) rfl (fun _ h => by cases h) rfl rfl rfl (by kernel_rfl) rfl ?_
      refine Dx.pF (i := 22) rfl (fun _ h => by cases h) rfl rfl rfl (by kernel_rfl) rfl ?_
      refine Dx.pF (i := 23) rfl (fun _ h => by cases h) rfl rfl rfl (by kernel_rfl) rfl ?_
      refine Dx.pF (i := 24) rfl (fun _ h => by cases h) rfl rfl rfl (by kernel_rfl) rfl ?_
      refine Dx.pF (i := 25) rfl (fun _ h => by cases h) rfl rfl rfl (by kernel_rfl) rfl ?_
      refine Dx.p (i := 26) rfl (by kernel_rfl) (pickT rfl rfl) rfl ?_
      refine Dx.done (by kernel_rfl) ?_
      refine Xx.tn (k9 _ _ _ _ ?_)
      refine Cx.condT rfl ?_
      refine Cx.exit ?_
      refine Xx.te ?_
      refine Xx.bm rfl ?_
      refine Xx.te ?_
      refine Xx.bh ?_
      refine Xx.tn (k3 _ _ _ _ ?_)
      refine Cx.seq (fun K11 k11 => ?_)
      refine Cx.region ?_
      refine Lx.y (mv rfl) rfl ?_
      refine Lx.y (mv rfl) rfl ?_
      refine Lx.y (asg rfl) rfl ?_
      refine Lx.y (asg rfl) rfl ?_
      refine Lx.nil ?_
      refine Xx.tn (k11 _ _ _ _ ?_)
      refine Cx.ret ?_
      refine Xx.freezeT A fun B3 hB3 hRo hnc _ => ?_
      exact Xx.rB2 rfl rfl rfl ⟨A, c, by rw [hd1, hd2], hd1 ▸ hRo, hd1 ▸ hnc⟩ hB3 rfl
    · skip
      have q1 : ¬ (65536 : Int) < ((refN ((l.take (a + 4)).drop a) : Nat) : Int) := h10
      refine Dx.pT (i := 3) rfl rfl rfl rfl (by kernel_rfl) (mv rfl) rfl ?_
      refine Dx.pT (i := 4) rfl rfl rfl rfl (by kernel_rfl) (mv rfl) rfl ?_
      refine Dx.pT (i := 5) rfl rfl rfl rfl (by kernel_rfl) (mv rfl) rfl ?_
      refine Dx.pT (i := 6) rfl rfl rfl rfl (by kernel_rfl) (add rfl rfl (by first | exact wrap64 (by omega) (by omega) | rfl)) rfl ?_
      refine Dx.pT (i := 7) rfl rfl rfl rfl (by kernel_rfl) (sl3S Try.underlying9 rfl rfl rfl (by first | exact Int.toNat_natCast _ | rfl) (by first | exact Int.toNat_natCast _ | rfl) (by omega) (by omega) (by omega)) rfl ?_
      refine Dx.pT (i := 10) rfl rfl rfl rfl (by kernel_rfl) (mv rfl) rfl ?_
      refine Dx.pT (i := 11) rfl rfl rfl rfl (by kernel_rfl) (mv rfl) rfl ?_
      refine Dx.pT (i := 12) rfl rfl rfl rfl (by kernel_rfl) (add rfl rfl (by first | exact wrap64 (by omega) (by omega) | rfl)) rfl ?_
      refine Dx.pT (i := 13) rfl rfl rfl rfl (by kernel_rfl) (mv rfl) rfl ?_
      refine Dx.pT (i := 14) rfl rfl rfl rfl (by kernel_rfl) (add rfl rfl (by first | exact wrap64 (by omega) (by omega) | rfl)) rfl ?_
      refine Dx.pT (i := 15) rfl rfl rfl rfl (by kernel_rfl) (sl3S Try.underlying9 rfl rfl rfl (by first | exact Int.toNat_natCast _ | rfl) (by first | exact Int.toNat_natCast _ | rfl) (by omega) (by omega) (by omega)) rfl ?_
      refine Dx.one (i := 8) (by kernel_rfl) ?_
      refine Dstep.oT (i := 8) rfl rfl rfl rfl (Ox.cb rfl rfl rfl (RefCheck_ct _ _ (by simp; omega))) rfl (fun v B' H' hΦ hB => ?_)
      obtain ⟨rfl, rfl, rfl⟩ := hΦ; clear hB
      refine ⟨JOk.top, ?_⟩
      refine Dx.one (i := 9) (by kernel_rfl) ?_
      refine Dstep.oT (i := 9) rfl rfl rfl rfl (Ox.cb rfl rfl rfl (Four_ct _ _)) rfl (fun v B' H' hΦ hB => ?_)
      obtain ⟨rfl, rfl, rfl⟩ := hΦ; clear hB
      refine ⟨JOk.top, ?_⟩
      refine Dx.pT (i := 16) rfl rfl rfl rfl (by kernel_rfl) (neS rfl rfl) rfl ?_
      refine Dx.p (i := 17) rfl (by kernel_rfl) (pickF rfl rfl) rfl ?_
      refine Dx.p (i := 18) rfl (by kernel_rfl) (mv rfl) rfl ?_
      refine Xx.ifN (t := 38) rfl (fun h12 => ?_) (fun h12 => ?_)
      · skip
        have q2 : ¬ refFourL (refCrc ((l.take (a + 4)).drop a)) = (l.take (a + 8)).drop (a + 4) := h12
        have hnr : ¬ rIs l a := fun h => q2 h.2.2.1
        have hd1 : rscanL l = pre := by rw [hxs, rscanF, if_neg hnr]; simp
        have hd2 : rendL l = a := by rw [hes, rendF, if_neg hnr]
        refine Dx.pF (i := 19) rfl (fun _ h => by cases h) rfl rfl rfl (by kernel_rfl) rfl ?_
        refine Dx.pF (i := 20) rfl (fun _ h => by cases h) rfl rfl rfl (by kernel_rfl) rfl ?_
        refine Dx.pF (i := 21) rfl (fun _ h => by cases h) rfl rfl rfl (by kernel_rfl) rfl ?_
        refine Dx.pF (i := 22) rfl (fun _ h => by cases h) rfl rfl rfl (by kernel_rfl) rfl ?_
        refine Dx.pF (i := 23) rfl (fun _ h => by cases h) rfl rfl rfl (by kernel_rfl) rfl ?_
        refine Dx.pF (i := 24) rfl (fun _ h => by cases h) rfl rfl rfl (by kernel_rfl) rfl ?_
        refine Dx.pF (i := 25) rfl (fun _ h => by cases h) rfl rfl rfl (by kernel_rfl) rfl ?_
        refine Dx.p (i := 26) rfl (by kernel_rfl) (pickT rfl rfl) rfl ?_
        refine Dx.done (by kernel_rfl) ?_
        refine Xx.tn (k9 _ _ _ _ ?_)
        refine Cx.condT rfl ?_
        refine Cx.exit ?_
        refine Xx.te ?_
        refine Xx.bm rfl ?_
        refine Xx.te ?_
        refine Xx.bh ?_
        refine Xx.tn (k3 _ _ _ _ ?_)
        refine Cx.seq (fun K13 k13 => ?_)
        refine Cx.region ?_
        refine Lx.y (mv rfl) rfl ?_
        refine Lx.y (mv rfl) rfl ?_
        refine Lx.y (asg rfl) rfl ?_
        refine Lx.y (asg rfl) rfl ?_
        refine Lx.nil ?_
        refine Xx.tn (k13 _ _ _ _ ?_)
        refine Cx.ret ?_
        refine Xx.freezeT A fun B3 hB3 hRo hnc _ => ?_
        exact Xx.rB2 rfl rfl rfl ⟨A, c, by rw [hd1, hd2], hd1 ▸ hRo, hd1 ▸ hnc⟩ hB3 rfl
      · skip
        have q2 : refFourL (refCrc ((l.take (a + 4)).drop a)) = (l.take (a + 8)).drop (a + 4) := h12
        refine Dx.pT (i := 19) rfl rfl rfl rfl (by kernel_rfl) (mv rfl) rfl ?_
        refine Dx.pT (i := 20) rfl rfl rfl rfl (by kernel_rfl) (mv rfl) rfl ?_
        refine Dx.pT (i := 21) rfl rfl rfl rfl (by kernel_rfl) (lenS Try.underlying9 rfl) rfl ?_
        refine Dx.pT (i := 22) rfl rfl rfl rfl (by kernel_rfl) (mv rfl) rfl ?_
        refine Dx.pT (i := 23) rfl rfl rfl rfl (by kernel_rfl) (sub rfl rfl (by first | exact wrap64 (by omega) (by omega) | rfl)) rfl ?_
        refine Dx.pT (i := 24) rfl rfl rfl rfl (by kernel_rfl) (sub rfl rfl (by first | exact wrap64 (by omega) (by omega) | rfl)) rfl ?_
        refine Dx.pT (i := 25) rfl rfl rfl rfl (by kernel_rfl) (gtr rfl rfl) rfl ?_
        refine Dx.p (i := 26) rfl (by kernel_rfl) (pickF rfl rfl) rfl ?_
        refine Dx.done (by kernel_rfl) ?_
        refine Xx.tn (k9 _ _ _ _ ?_)
        refine Cx.condD rfl (fun h14 => ?_) (fun h14 => ?_)
        · skip
          have q3 : (l.length : Int) - a - 12 < ((refN ((l.take (a + 4)).drop a) : Nat) : Int) := h14
          have hnr : ¬ rIs l a := fun h => absurd h.2.2.2 (by omega)
          have hd1 : rscanL l = pre := by rw [hxs, rscanF, if_neg hnr]; simp
          have hd2 : rendL l = a := by rw [hes, rendF, if_neg hnr]
          refine Cx.exit ?_
          refine Xx.te ?_
          refine Xx.bm rfl ?_
          refine Xx.te ?_
          refine Xx.bh ?_
          refine Xx.tn (k3 _ _ _ _ ?_)
          refine Cx.seq (fun K15 k15 => ?_)
          refine Cx.region ?_
          refine Lx.y (mv rfl) rfl ?_
          refine Lx.y (mv rfl) rfl ?_
          refine Lx.y (asg rfl) rfl ?_
          refine Lx.y (asg rfl) rfl ?_
          refine Lx.nil ?_
          refine Xx.tn (k15 _ _ _ _ ?_)
          refine Cx.ret ?_
          refine Xx.freezeT A fun B3 hB3 hRo hnc _ => ?_
          exact Xx.rB2 rfl rfl rfl ⟨A, c, by rw [hd1, hd2], hd1 ▸ hRo, hd1 ▸ hnc⟩ hB3 rfl
        · skip
          have q3 : ¬ (l.length : Int) - a - 12 < ((refN ((l.take (a + 4)).drop a) : Nat) : Int) := h14
          have hyr : rIs l a := ⟨by omega, by omega, q2, by omega⟩
          have hxs2 : rscanL l = (pre ++ [rx l a]) ++ rscanF l n (a + (12 + refN ((l.take (a + 4)).drop a))) := by rw [hxs, rscanF, if_pos hyr]; simp
          have hes2 : rendL l = rendF l n (a + (12 + refN ((l.take (a + 4)).drop a))) := by rw [hes, rendF, if_pos hyr]
          have hlen := rscanF_len l (l.length + 1) 0 (by omega)
          have hxl : (rscanL l).length = pre.length + 1 + (rscanF l n (a + (12 + refN ((l.take (a + 4)).drop a)))).length := by rw [hxs2]; simp; omega
          unfold rscanL at hxl
          have hrb : (rB l a).length ≤ 4611686018427387904 := Nat.le_trans (rB_len l a) (Nat.le_trans hl (by decide))
          refine Cx.skip ?_
          refine Xx.tn (k8 _ _ _ _ ?_)
          refine Cx.seq (fun K16 k16 => ?_)
          refine Cx.region ?_
          refine Lx.y (mv rfl) rfl ?_
          refine Lx.y (mv rfl) rfl ?_
          refine Lx.y (add rfl rfl (by first | exact wrap64 (by omega) (by omega) | rfl)) rfl ?_
          refine Lx.y (mv rfl) rfl ?_
          refine Lx.y (add rfl rfl (by first | exact wrap64 (by omega) (by omega) | rfl)) rfl ?_
          refine Lx.y (mv rfl) rfl ?_
          refine Lx.y (add rfl rfl (by first | exact wrap64 (by omega) (by omega) | rfl)) rfl ?_
          refine Lx.y (sl3S Try.underlying9 rfl rfl rfl (by first | exact Int.toNat_natCast _ | rfl) (by first | exact Int.toNat_natCast _ | rfl) (by omega) (by omega) (by omega)) rfl ?_
          refine Lx.y (asg rfl) rfl ?_
          refine Lx.nil ?_
          refine Xx.tn (k16 _ _ _ _ ?_)
          refine Cx.seq (fun K17 k17 => ?_)
          refine Cx.drawn (by kernel_rfl) ?_
          refine Dx.p (i := 0) rfl (by kernel_rfl) (mv rfl) rfl ?_
          refine Dx.p (i := 1) rfl (by kernel_rfl) (mv rfl) rfl ?_
          refine Dx.p (i := 2) rfl (by kernel_rfl) (add rfl rfl (by first | exact wrap64 (by omega) (by omega) | rfl)) rfl ?_
          refine Dx.p (i := 3) rfl (by kernel_rfl) (mv rfl) rfl ?_
          refine Dx.p (i := 4) rfl (by kernel_rfl) (mv rfl) rfl ?_
          refine Dx.p (i := 7) rfl (by kernel_rfl) (mv rfl) rfl ?_
          refine Dx.p (i := 8) rfl (by kernel_rfl) (mv rfl) rfl ?_
          refine Dx.p (i := 9) rfl (by kernel_rfl) (add rfl rfl (by first | exact wrap64 (by omega) (by omega) | rfl)) rfl ?_
          refine Dx.p (i := 10) rfl (by kernel_rfl) (mv rfl) rfl ?_
          refine Dx.p (i := 11) rfl (by kernel_rfl) (add rfl rfl (by first | exact wrap64 (by omega) (by omega) | rfl)) rfl ?_
          refine Dx.p (i := 12) rfl (by kernel_rfl) (sl3S Try.underlying9 rfl rfl rfl (by first | exact Int.toNat_natCast _ | rfl) (by first | exact Int.toNat_natCast _ | rfl) (by omega) (by omega) (by omega)) rfl ?_
          refine Dx.one (i := 5) (by kernel_rfl) ?_
          refine Dstep.o (i := 5) rfl (Ox.cb rfl rfl rfl (RefCheck_ct (rB l a) _ hrb)) rfl (fun v B' H' hΦ hB => ?_)
          obtain ⟨rfl, rfl, rfl⟩ := hΦ; clear hB
          refine ⟨JOk.top, ?_⟩
          refine Dx.one (i := 6) (by kernel_rfl) ?_
          refine Dstep.o (i := 6) rfl (Ox.cb rfl rfl rfl (Four_ct _ _)) rfl (fun v B' H' hΦ hB => ?_)
          obtain ⟨rfl, rfl, rfl⟩ := hΦ; clear hB
          refine ⟨JOk.top, ?_⟩
          refine Dx.p (i := 13) rfl (by kernel_rfl) (eqS rfl rfl) rfl ?_
          refine Dx.p (i := 14) rfl (by kernel_rfl) (bld ti69 pl69 rfl rfl) rfl ?_
          refine Dx.one (i := 15) (by kernel_rfl) ?_
          refine Dstep.o (i := 15) rfl (bslA Try.underlying65 ti69 rfl rfl (by decide)) rfl (fun v B' H' hΦ hB => ?_)
          obtain ⟨b18, rfl, rfl, rfl⟩ := hΦ; clear hB
          refine ⟨JOk.top, ?_⟩
          refine Dx.one (i := 16) (by kernel_rfl) ?_
          refine Dstep.o (i := 16) rfl (appR Try.underlying65 Try.underlying65 ti69 rfl rfl rfl rfl rfl (by omega) (by omega)) rfl (fun v B' H' hΦ hB => ?_)
          obtain ⟨A2, c2, rfl, hA2, hl2, hc2, rfl, rfl⟩ := hΦ
          refine ⟨JOk.top, ?_⟩
          refine Dx.p (i := 17) rfl (by kernel_rfl) (asg rfl) rfl ?_
          refine Dx.done (by kernel_rfl) ?_
          refine Xx.tn (k17 _ _ _ _ ?_)
          refine Cx.region ?_
          refine Lx.y (mv rfl) rfl ?_
          refine Lx.y (mv rfl) rfl ?_
          refine Lx.y (add rfl rfl (by first | exact wrap64 (by omega) (by omega) | rfl)) rfl ?_
          refine Lx.y (add rfl rfl (by first | exact wrap64 (by omega) (by omega) | rfl)) rfl ?_
          refine Lx.y (asg rfl) rfl ?_
          refine Lx.nil ?_
          refine Xx.bn ?_
          refine Xx.dropB b18 ?_
          refine Xx.perm (H' := sbuf 69 3 A2 (pre ++ [rx l a]).length c2 (flatF (pre ++ [rx l a])) * R) ?_ (by rw [flatF_snoc, List.length_append]; rfl)
          exact Xx.againK ⟨n, a + (12 + refN ((l.take (a + 4)).drop a)), pre ++ [rx l a], A2, c2, _, ⟨hxs2, hes2, by omega, by omega, rfl⟩, rfl, rfl, rfl, rfl⟩ (by omega) (Sub.consE (s := 4) rfl (by rw [List.length_append]; rfl) (Sub.cons (s := 5) rfl (Sub.cons (s := 0) rfl (Sub.cons (s := 2) rfl (Sub.cons (s := 3) rfl (Sub.cons (s := 8) rfl (Sub.nil _)))))))
  · skip
    have q0 := h6
    have hnr : ¬ rIs l a := fun h => q0 (by have := h.1; omega)
    have hd1 : rscanL l = pre := by rw [hxs, rscanF, if_neg hnr]; simp
    have hd2 : rendL l = a := by rw [hes, rendF, if_neg hnr]
    refine Cx.exit ?_
    refine Xx.te ?_
    refine Xx.te ?_
    refine Xx.bh ?_
    refine Xx.tn (k3 _ _ _ _ ?_)
    refine Cx.seq (fun K18 k18 => ?_)
    refine Cx.region ?_
    refine Lx.y (mv rfl) rfl ?_
    refine Lx.y (mv rfl) rfl ?_
    refine Lx.y (asg rfl) rfl ?_
    refine Lx.y (asg rfl) rfl ?_
    refine Lx.nil ?_
    refine Xx.tn (k18 _ _ _ _ ?_)
    refine Cx.ret ?_
    refine Xx.freezeT A fun B3 hB3 hRo hnc _ => ?_
    exact Xx.rB2 rfl rfl rfl ⟨A, c, by rw [hd1, hd2], hd1 ▸ hRo, hd1 ▸ hnc⟩ hB3 rfl
end Fr4
end Go.Proofs.Ytgcebieihmlaoaa
