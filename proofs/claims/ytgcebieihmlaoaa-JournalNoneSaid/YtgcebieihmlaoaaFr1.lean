/-
  The walks of package frame and of its reference: checks, numbers in bytes, heads, frames.
-/
import Derived.Test.YtgcebieihmlaoaaProg
import Derived.Test.YtgcebieihmlaoaaSlj
namespace Go.Proofs.Ytgcebieihmlaoaa
open Go.SL Go.RowKit
set_option linter.unusedVariables false
set_option linter.unusedSimpArgs false
set_option maxRecDepth 100000
namespace Fr1
theorem ti5 : TI Try.prog 5 [.int .u8 0] 1 1 := TI.of (by kernel_rfl) rfl rfl

def poly : BitVec 32 := 3988292384#32
def crcBit (h : BitVec 32) : BitVec 32 := (h >>> 1) ^^^ (3988292384#32 &&& -(h &&& 1#32))
def crcBits : Nat → BitVec 32 → BitVec 32
  | 0, h => h
  | n + 1, h => crcBit (crcBits n h)
def crcStep (h : BitVec 32) (b : UInt8) : BitVec 32 := crcBits 8 (h ^^^ BitVec.ofInt 32 (b.toNat : Nat))
def crcTo (l : List UInt8) : BitVec 32 := l.foldl crcStep 4294967295#32
def crc (l : List UInt8) : BitVec 32 := ~~~(crcTo l)
theorem crcTo_take (l : List UInt8) (k : Nat) (h : k < l.length) : crcTo (l.take (k + 1)) = crcBits 8 (crcTo (l.take k) ^^^ BitVec.ofInt 32 ((l.getD k 0).toNat : Nat)) := by
  unfold crcTo
  rw [List.take_succ_eq_append_getElem h, List.foldl_append]
  simp [crcStep, List.getD, List.getElem?_eq_getElem h]

set_option maxHeartbeats 1000000 in
theorem Check_ct (l : List UInt8) (B : Frag) (hl : l.length ≤ 4611686018427387904) : CtP Try.prog 99 [str l] B (u32 (crc l)) := by
  refine CtB.of_body Try.func99 rfl (nt := 29) rfl (by kernel_rfl) rfl ?_
  intro N0 w0 R
  refine Cx.seq (fun K1 k1 => ?_)
  refine Cx.region ?_
  refine Lx.y (asg rfl) rfl ?_
  refine Lx.nil ?_
  refine Xx.tn (k1 _ _ _ _ ?_)
  refine Cx.seq (fun K2 k2 => ?_)
  refine Cx.region ?_
  refine Lx.y (asg rfl) rfl ?_
  refine Lx.nil ?_
  refine Xx.tn (k2 _ _ _ _ ?_)
  refine Cx.seq (fun K3 k3 => ?_)
  refine Cx.seq (fun K4 k4 => ?_)
  refine Cx.region ?_
  refine Lx.y (mv rfl) rfl ?_
  refine Lx.y (lenS Try.underlying9 rfl) rfl ?_
  refine Lx.y (mv rfl) rfl ?_
  refine Lx.nil ?_
  refine Xx.tn (k4 _ _ _ _ ?_)
  refine Cx.block ?_
  refine Cx.loopK (Sub.cons (s := 0) rfl (Sub.cons (s := 2) rfl (Sub.cons (s := 5) rfl (Sub.cons (s := 6) rfl (Sub.nil _))))) (fun m ρ' B' H' => ∃ (k : Nat), (k ≤ l.length) ∧ m = l.length - k ∧ ρ' = [(3, u32 (crcTo (l.take k))), (7, i64 k)] ∧ B = B' ∧ R = H') ⟨0, Nat.zero_le _, rfl, rfl, rfl, rfl⟩ (Sub.cons (s := 3) rfl (Sub.cons (s := 7) rfl (Sub.cons (s := 0) rfl (Sub.cons (s := 2) rfl (Sub.cons (s := 5) rfl (Sub.cons (s := 6) rfl (Sub.nil _))))))) ?_
  rintro m ρ' B' H' ⟨k, hk, rfl, rfl, rfl, rfl⟩
  refine Cx.seq (fun K5 k5 => ?_)
  refine Cx.region ?_
  refine Lx.y (lss rfl rfl) rfl ?_
  refine Lx.nil ?_
  refine Xx.tn (k5 _ _ _ _ ?_)
  refine Cx.seq (fun K6 k6 => ?_)
  refine Cx.condD rfl (fun h7 => ?_) (fun h7 => ?_)
  · skip
    refine Cx.skip ?_
    refine Xx.tn (k6 _ _ _ _ ?_)
    refine Cx.seq (fun K8 k8 => ?_)
    refine Cx.block ?_
    refine Cx.seq (fun K9 k9 => ?_)
    refine Cx.region ?_
    refine Lx.y (mv rfl) rfl ?_
    refine Lx.y (asg rfl) rfl ?_
    refine Lx.nil ?_
    refine Xx.tn (k9 _ _ _ _ ?_)
    refine Cx.seq (fun K10 k10 => ?_)
    refine Cx.region ?_
    refine Lx.y (mv rfl) rfl ?_
    refine Lx.y (mv rfl) rfl ?_
    refine Lx.y (mv rfl) rfl ?_
    refine Lx.y (ixS Try.underlying9 rfl rfl (by first | exact Int.toNat_natCast _ | rfl) (by omega) (by omega)) rfl ?_
    refine Lx.y (cvW32 rfl Try.underlying5 Try.underlying110) rfl ?_
    refine Lx.y (xorW32 rfl rfl) rfl ?_
    refine Lx.y (asg rfl) rfl ?_
    refine Lx.nil ?_
    refine Xx.tn (k10 _ _ _ _ ?_)
    refine Cx.seq (fun K11 k11 => ?_)
    refine Cx.region ?_
    refine Lx.y (mv rfl) rfl ?_
    refine Lx.nil ?_
    refine Xx.tn (k11 _ _ _ _ ?_)
    refine Cx.block ?_
    refine Cx.loopK (Sub.cons (s := 0) rfl (Sub.cons (s := 2) rfl (Sub.cons (s := 4) rfl (Sub.cons (s := 5) rfl (Sub.cons (s := 6) rfl (Sub.cons (s := 7) rfl (Sub.cons (s := 8) rfl (Sub.cons (s := 9) rfl (Sub.cons (s := 10) rfl (Sub.cons (s := 11) rfl (Sub.cons (s := 12) rfl (Sub.cons (s := 13) rfl (Sub.cons (s := 14) rfl (Sub.cons (s := 15) rfl (Sub.nil _))))))))))))))) (fun m ρ' B' H' => ∃ (j : Nat), (j ≤ 8) ∧ m = 8 - j ∧ ρ' = [(3, u32 (crcBits j (crcTo (l.take k) ^^^ BitVec.ofInt 32 ((l.getD k 0).toNat : Nat)))), (16, i64 j)] ∧ B = B' ∧ R = H') ⟨0, Nat.zero_le _, rfl, rfl, rfl, rfl⟩ (Sub.cons (s := 3) rfl (Sub.cons (s := 16) rfl (Sub.cons (s := 0) rfl (Sub.cons (s := 2) rfl (Sub.cons (s := 4) rfl (Sub.cons (s := 5) rfl (Sub.cons (s := 6) rfl (Sub.cons (s := 7) rfl (Sub.cons (s := 8) rfl (Sub.cons (s := 9) rfl (Sub.cons (s := 10) rfl (Sub.cons (s := 11) rfl (Sub.cons (s := 12) rfl (Sub.cons (s := 13) rfl (Sub.cons (s := 14) rfl (Sub.cons (s := 15) rfl (Sub.nil _))))))))))))))))) ?_
    rintro m ρ' B' H' ⟨j, hj, rfl, rfl, rfl, rfl⟩
    refine Cx.seq (fun K12 k12 => ?_)
    refine Cx.region ?_
    refine Lx.y (lss rfl rfl) rfl ?_
    refine Lx.nil ?_
    refine Xx.tn (k12 _ _ _ _ ?_)
    refine Cx.seq (fun K13 k13 => ?_)
    refine Cx.condD rfl (fun h14 => ?_) (fun h14 => ?_)
    · skip
      refine Cx.skip ?_
      refine Xx.tn (k13 _ _ _ _ ?_)
      refine Cx.seq (fun K15 k15 => ?_)
      refine Cx.block ?_
      refine Cx.region ?_
      refine Lx.y (mv rfl) rfl ?_
      refine Lx.y (shrW32 (c := 1) rfl rfl rfl) rfl ?_
      refine Lx.y (mv rfl) rfl ?_
      refine Lx.y (andW32 (b := 1#32) rfl rfl) rfl ?_
      refine Lx.y (negW32 rfl) rfl ?_
      refine Lx.y (andW32 (a := 3988292384#32) rfl rfl) rfl ?_
      refine Lx.y (xorW32 rfl rfl) rfl ?_
      refine Lx.y (asg rfl) rfl ?_
      refine Lx.nil ?_
      refine Xx.bn ?_
      refine Xx.tn (k15 _ _ _ _ ?_)
      refine Cx.region ?_
      refine Lx.y (add rfl rfl (by first | exact wrap64 (by omega) (by omega) | rfl)) rfl ?_
      refine Lx.y (mv rfl) rfl ?_
      refine Lx.nil ?_
      exact Xx.againK ⟨j + 1, by omega, rfl, rfl, rfl, rfl⟩ (by omega) (Sub.cons (s := 3) rfl (Sub.cons (s := 16) rfl (Sub.cons (s := 0) rfl (Sub.cons (s := 2) rfl (Sub.cons (s := 4) rfl (Sub.cons (s := 5) rfl (Sub.cons (s := 6) rfl (Sub.cons (s := 7) rfl (Sub.cons (s := 8) rfl (Sub.cons (s := 9) rfl (Sub.cons (s := 10) rfl (Sub.cons (s := 11) rfl (Sub.cons (s := 12) rfl (Sub.cons (s := 13) rfl (Sub.cons (s := 14) rfl (Sub.cons (s := 15) rfl (Sub.nil _)))))))))))))))))
    · skip
      obtain rfl : j = 8 := by omega
      refine Cx.exit ?_
      refine Xx.te ?_
      refine Xx.te ?_
      refine Xx.bh ?_
      refine Xx.bn ?_
      refine Xx.tn (k8 _ _ _ _ ?_)
      refine Cx.region ?_
      refine Lx.y (add rfl rfl (by first | exact wrap64 (by omega) (by omega) | rfl)) rfl ?_
      refine Lx.y (mv rfl) rfl ?_
      refine Lx.nil ?_
      exact Xx.againK ⟨k + 1, by omega, rfl, rfl, rfl, rfl⟩ (by omega) (Sub.consE (s := 3) rfl (by rw [crcTo_take l k (by omega)]) (Sub.cons (s := 7) rfl (Sub.cons (s := 0) rfl (Sub.cons (s := 2) rfl (Sub.cons (s := 5) rfl (Sub.cons (s := 6) rfl (Sub.nil _)))))))
  · skip
    obtain rfl : k = l.length := by omega
    rw [List.take_length]
    refine Cx.exit ?_
    refine Xx.te ?_
    refine Xx.te ?_
    refine Xx.bh ?_
    refine Xx.tn (k3 _ _ _ _ ?_)
    refine Cx.seq (fun K16 k16 => ?_)
    refine Cx.region ?_
    refine Lx.y (mv rfl) rfl ?_
    refine Lx.y (complW32 rfl) rfl ?_
    refine Lx.y (asg rfl) rfl ?_
    refine Lx.nil ?_
    refine Xx.tn (k16 _ _ _ _ ?_)
    refine Cx.ret ?_
    exact Xx.rB1 rfl rfl ⟨rfl, rfl⟩ (Frag.le_refl _) rfl

def halfBit (n : BitVec 32) : BitVec 32 := if n % 2#32 = 1#32 then n / 2#32 ^^^ 3988292384#32 else n / 2#32
def halfBits : Nat → BitVec 32 → BitVec 32
  | 0, h => h
  | n + 1, h => halfBit (halfBits n h)
def refMid (h : BitVec 32) : BitVec 32 := h / 16#32 ^^^ halfBits 4 (h % 16#32)
def refStep (h : BitVec 32) (b : UInt8) : BitVec 32 := refMid (refMid (h ^^^ BitVec.ofInt 32 (b.toNat : Nat)))
def refTo (l : List UInt8) : BitVec 32 := l.foldl refStep 4294967295#32
def refCrc (l : List UInt8) : BitVec 32 := 4294967295#32 - refTo l
theorem refTo_take (l : List UInt8) (k : Nat) (h : k < l.length) : refTo (l.take (k + 1)) = refStep (refTo (l.take k)) (l.getD k 0) := by
  unfold refTo
  rw [List.take_succ_eq_append_getElem h, List.foldl_append]
  simp [List.getD, List.getElem?_eq_getElem h]

set_option maxHeartbeats 1000000 in
theorem half_ct (n : BitVec 32) (B : Frag) : CtP Try.prog 80 [u32 n] B (u32 (halfBits 4 n)) := by
  refine CtB.of_body Try.func80 rfl (nt := 18) rfl (by kernel_rfl) rfl ?_
  intro N0 w0 R
  refine Cx.seq (fun K1 k1 => ?_)
  refine Cx.region ?_
  refine Lx.y (asg rfl) rfl ?_
  refine Lx.nil ?_
  refine Xx.tn (k1 _ _ _ _ ?_)
  refine Cx.seq (fun K2 k2 => ?_)
  refine Cx.seq (fun K3 k3 => ?_)
  refine Cx.region ?_
  refine Lx.y (asg rfl) rfl ?_
  refine Lx.nil ?_
  refine Xx.tn (k3 _ _ _ _ ?_)
  refine Cx.block ?_
  refine Cx.loopK (Sub.cons (s := 2) rfl (Sub.nil _)) (fun m ρ' B' H' => ∃ (j : Nat), (j ≤ 4) ∧ m = 4 - j ∧ ρ' = [(0, u32 (halfBits j n)), (3, i64 j)] ∧ B = B' ∧ R = H') ⟨0, Nat.zero_le _, rfl, rfl, rfl, rfl⟩ (Sub.cons (s := 0) rfl (Sub.cons (s := 3) rfl (Sub.cons (s := 2) rfl (Sub.nil _)))) ?_
  rintro m ρ' B' H' ⟨j, hj, rfl, rfl, rfl, rfl⟩
  refine Cx.seq (fun K4 k4 => ?_)
  refine Cx.seq (fun K5 k5 => ?_)
  refine Cx.region ?_
  refine Lx.y (mv rfl) rfl ?_
  refine Lx.y (lss rfl rfl) rfl ?_
  refine Lx.nil ?_
  refine Xx.tn (k5 _ _ _ _ ?_)
  refine Cx.condD rfl (fun h6 => ?_) (fun h6 => ?_)
  · skip
    refine Cx.skip ?_
    refine Xx.tn (k4 _ _ _ _ ?_)
    refine Cx.seq (fun K7 k7 => ?_)
    refine Cx.block ?_
    refine Cx.seq (fun K8 k8 => ?_)
    refine Cx.region ?_
    refine Lx.y (mv rfl) rfl ?_
    refine Lx.y (remW32 (b := 2#32) rfl rfl (by decide)) rfl ?_
    refine Lx.y (eqW32 (b := 1#32) rfl rfl) rfl ?_
    refine Lx.y (asg rfl) rfl ?_
    refine Lx.nil ?_
    refine Xx.tn (k8 _ _ _ _ ?_)
    refine Cx.seq (fun K9 k9 => ?_)
    refine Cx.region ?_
    refine Lx.y (mv rfl) rfl ?_
    refine Lx.y (quoW32 (b := 2#32) rfl rfl (by decide)) rfl ?_
    refine Lx.y (asg rfl) rfl ?_
    refine Lx.nil ?_
    refine Xx.tn (k9 _ _ _ _ ?_)
    refine Cx.seq (fun K10 k10 => ?_)
    refine Cx.region ?_
    refine Lx.y (mv rfl) rfl ?_
    refine Lx.nil ?_
    refine Xx.tn (k10 _ _ _ _ ?_)
    refine Cx.condD rfl (fun h11 => ?_) (fun h11 => ?_)
    · skip
      have h3 := h11
      refine Cx.region ?_
      refine Lx.y (mv rfl) rfl ?_
      refine Lx.y (xorW32 (b := 3988292384#32) rfl rfl) rfl ?_
      refine Lx.y (asg rfl) rfl ?_
      refine Lx.nil ?_
      refine Xx.bn ?_
      refine Xx.tn (k7 _ _ _ _ ?_)
      refine Cx.region ?_
      refine Lx.y (mv rfl) rfl ?_
      refine Lx.y (add rfl rfl (by first | exact wrap64 (by omega) (by omega) | rfl)) rfl ?_
      refine Lx.y (asg rfl) rfl ?_
      refine Lx.nil ?_
      exact Xx.againK ⟨j + 1, by omega, rfl, rfl, rfl, rfl⟩ (by omega) (Sub.consE (s := 0) rfl (by show u32 _ = u32 (halfBit _); unfold halfBit; rw [if_pos h3]) (Sub.cons (s := 3) rfl (Sub.cons (s := 2) rfl (Sub.nil _))))
    · skip
      have h3 := h11
      refine Cx.skip ?_
      refine Xx.bn ?_
      refine Xx.tn (k7 _ _ _ _ ?_)
      refine Cx.region ?_
      refine Lx.y (mv rfl) rfl ?_
      refine Lx.y (add rfl rfl (by first | exact wrap64 (by omega) (by omega) | rfl)) rfl ?_
      refine Lx.y (asg rfl) rfl ?_
      refine Lx.nil ?_
      exact Xx.againK ⟨j + 1, by omega, rfl, rfl, rfl, rfl⟩ (by omega) (Sub.consE (s := 0) rfl (by show u32 _ = u32 (halfBit _); unfold halfBit; rw [if_neg h3]) (Sub.cons (s := 3) rfl (Sub.cons (s := 2) rfl (Sub.nil _))))
  · skip
    obtain rfl : j = 4 := by omega
    refine Cx.exit ?_
    refine Xx.te ?_
    refine Xx.te ?_
    refine Xx.bh ?_
    refine Xx.tn (k2 _ _ _ _ ?_)
    refine Cx.seq (fun K12 k12 => ?_)
    refine Cx.region ?_
    refine Lx.y (mv rfl) rfl ?_
    refine Lx.y (asg rfl) rfl ?_
    refine Lx.nil ?_
    refine Xx.tn (k12 _ _ _ _ ?_)
    refine Cx.ret ?_
    exact Xx.rB1 rfl rfl ⟨rfl, rfl⟩ (Frag.le_refl _) rfl

set_option maxHeartbeats 1000000 in
theorem RefCheck_ct (l : List UInt8) (B : Frag) (hl : l.length ≤ 4611686018427387904) : CtP Try.prog 56 [str l] B (u32 (refCrc l)) := by
  refine CtB.of_body Try.func56 rfl (nt := 31) rfl (by kernel_rfl) rfl ?_
  intro N0 w0 R
  refine Cx.seq (fun K1 k1 => ?_)
  refine Cx.region ?_
  refine Lx.y (asg rfl) rfl ?_
  refine Lx.nil ?_
  refine Xx.tn (k1 _ _ _ _ ?_)
  refine Cx.seq (fun K2 k2 => ?_)
  refine Cx.region ?_
  refine Lx.y (asg rfl) rfl ?_
  refine Lx.nil ?_
  refine Xx.tn (k2 _ _ _ _ ?_)
  refine Cx.seq (fun K3 k3 => ?_)
  refine Cx.seq (fun K4 k4 => ?_)
  refine Cx.region ?_
  refine Lx.y (asg rfl) rfl ?_
  refine Lx.nil ?_
  refine Xx.tn (k4 _ _ _ _ ?_)
  refine Cx.block ?_
  refine Cx.loopK (Sub.cons (s := 0) rfl (Sub.cons (s := 2) rfl (Sub.nil _))) (fun m ρ' B' H' => ∃ (k : Nat), (k ≤ l.length) ∧ m = l.length - k ∧ ρ' = [(3, u32 (refTo (l.take k))), (4, i64 k)] ∧ B = B' ∧ R = H') ⟨0, Nat.zero_le _, rfl, rfl, rfl, rfl⟩ (Sub.cons (s := 3) rfl (Sub.cons (s := 4) rfl (Sub.cons (s := 0) rfl (Sub.cons (s := 2) rfl (Sub.nil _))))) ?_
  rintro m ρ' B' H' ⟨k, hk, rfl, rfl, rfl, rfl⟩
  refine Cx.seq (fun K5 k5 => ?_)
  refine Cx.seq (fun K6 k6 => ?_)
  refine Cx.region ?_
  refine Lx.y (mv rfl) rfl ?_
  refine Lx.y (mv rfl) rfl ?_
  refine Lx.y (lenS Try.underlying9 rfl) rfl ?_
  refine Lx.y (lss rfl rfl) rfl ?_
  refine Lx.nil ?_
  refine Xx.tn (k6 _ _ _ _ ?_)
  refine Cx.condD rfl (fun h7 => ?_) (fun h7 => ?_)
  · skip
    refine Cx.skip ?_
    refine Xx.tn (k5 _ _ _ _ ?_)
    refine Cx.seq (fun K8 k8 => ?_)
    refine Cx.block ?_
    refine Cx.seq (fun K9 k9 => ?_)
    refine Cx.region ?_
    refine Lx.y (mv rfl) rfl ?_
    refine Lx.y (mv rfl) rfl ?_
    refine Lx.y (mv rfl) rfl ?_
    refine Lx.y (ixS Try.underlying9 rfl rfl (by first | exact Int.toNat_natCast _ | rfl) (by omega) (by omega)) rfl ?_
    refine Lx.y (cvW32 rfl Try.underlying5 Try.underlying110) rfl ?_
    refine Lx.y (xorW32 rfl rfl) rfl ?_
    refine Lx.y (asg rfl) rfl ?_
    refine Lx.nil ?_
    refine Xx.tn (k9 _ _ _ _ ?_)
    refine Cx.seq (fun K10 k10 => ?_)
    refine Cx.region ?_
    refine Lx.y (mv rfl) rfl ?_
    refine Lx.y (quoW32 (b := 16#32) rfl rfl (by decide)) rfl ?_
    refine Lx.y (mv rfl) rfl ?_
    refine Lx.y (remW32 (b := 16#32) rfl rfl (by decide)) rfl ?_
    refine Lx.cp rfl rfl rfl (half_ct _ _) rfl ?_
    refine Lx.y (xorW32 rfl rfl) rfl ?_
    refine Lx.y (asg rfl) rfl ?_
    refine Lx.nil ?_
    refine Xx.tn (k10 _ _ _ _ ?_)
    refine Cx.region ?_
    refine Lx.y (mv rfl) rfl ?_
    refine Lx.y (quoW32 (b := 16#32) rfl rfl (by decide)) rfl ?_
    refine Lx.y (mv rfl) rfl ?_
    refine Lx.y (remW32 (b := 16#32) rfl rfl (by decide)) rfl ?_
    refine Lx.cp rfl rfl rfl (half_ct _ _) rfl ?_
    refine Lx.y (xorW32 rfl rfl) rfl ?_
    refine Lx.y (asg rfl) rfl ?_
    refine Lx.nil ?_
    refine Xx.bn ?_
    refine Xx.tn (k8 _ _ _ _ ?_)
    refine Cx.region ?_
    refine Lx.y (mv rfl) rfl ?_
    refine Lx.y (add rfl rfl (by first | exact wrap64 (by omega) (by omega) | rfl)) rfl ?_
    refine Lx.y (asg rfl) rfl ?_
    refine Lx.nil ?_
    exact Xx.againK ⟨k + 1, by omega, rfl, rfl, rfl, rfl⟩ (by omega) (Sub.consE (s := 3) rfl (by rw [refTo_take l k (by omega)]; rfl) (Sub.cons (s := 4) rfl (Sub.cons (s := 0) rfl (Sub.cons (s := 2) rfl (Sub.nil _)))))
  · skip
    obtain rfl : k = l.length := by omega
    rw [List.take_length]
    refine Cx.exit ?_
    refine Xx.te ?_
    refine Xx.te ?_
    refine Xx.bh ?_
    refine Xx.tn (k3 _ _ _ _ ?_)
    refine Cx.seq (fun K11 k11 => ?_)
    refine Cx.region ?_
    refine Lx.y (mv rfl) rfl ?_
    refine Lx.y (subW32 (a := 4294967295#32) rfl rfl) rfl ?_
    refine Lx.y (asg rfl) rfl ?_
    refine Lx.nil ?_
    refine Xx.tn (k11 _ _ _ _ ?_)
    refine Cx.ret ?_
    exact Xx.rB1 rfl rfl ⟨rfl, rfl⟩ (Frag.le_refl _) rfl

def fourL (n : BitVec 32) : List UInt8 := [toB (n.toNat : Nat), toB ((n >>> 8).toNat : Nat), toB ((n >>> 16).toNat : Nat), toB ((n >>> 24).toNat : Nat)]
def refFourL (n : BitVec 32) : List UInt8 := [toB ((n % 256#32).toNat : Nat), toB ((n / 256#32 % 256#32).toNat : Nat), toB ((n / 65536#32 % 256#32).toNat : Nat), toB ((n / 16777216#32).toNat : Nat)]
@[simp] theorem fourL_len (n : BitVec 32) : (fourL n).length = 4 := rfl
@[simp] theorem refFourL_len (n : BitVec 32) : (refFourL n).length = 4 := rfl
def bW (b : UInt8) : BitVec 32 := BitVec.ofInt 32 (b.toNat : Nat)
def numL (l : List UInt8) : BitVec 32 := bW (l.getD 0 0) ||| bW (l.getD 1 0) <<< 8 ||| bW (l.getD 2 0) <<< 16 ||| bW (l.getD 3 0) <<< 24
def refNumL (l : List UInt8) : Int := ((l.getD 0 0).toNat : Nat) + ((l.getD 1 0).toNat : Nat) * 256 + ((l.getD 2 0).toNat : Nat) * 65536 + ((l.getD 3 0).toNat : Nat) * 16777216

set_option maxHeartbeats 1000000 in
theorem four_ct (n : BitVec 32) (B : Frag) : CtP Try.prog 98 [u32 n] B (str (fourL n)) := by
  refine CtB.of_body Try.func98 rfl (nt := 16) rfl (by kernel_rfl) rfl ?_
  intro N0 w0 R
  refine Cx.seq (fun K1 k1 => ?_)
  refine Cx.region ?_
  refine Lx.y (asg rfl) rfl ?_
  refine Lx.nil ?_
  refine Xx.tn (k1 _ _ _ _ ?_)
  refine Cx.seq (fun K2 k2 => ?_)
  refine Cx.region ?_
  refine Lx.y (mv rfl) rfl ?_
  refine Lx.y (cvI rfl Try.underlying110 Try.underlying5 (wrap_u8 _)) rfl ?_
  refine Lx.y (mv rfl) rfl ?_
  refine Lx.y (shrW32 (c := 8) rfl rfl rfl) rfl ?_
  refine Lx.y (cvI rfl Try.underlying110 Try.underlying5 (wrap_u8 _)) rfl ?_
  refine Lx.y (mv rfl) rfl ?_
  refine Lx.y (shrW32 (c := 16) rfl rfl rfl) rfl ?_
  refine Lx.y (cvI rfl Try.underlying110 Try.underlying5 (wrap_u8 _)) rfl ?_
  refine Lx.y (mv rfl) rfl ?_
  refine Lx.y (shrW32 (c := 24) rfl rfl rfl) rfl ?_
  refine Lx.y (cvI rfl Try.underlying110 Try.underlying5 (wrap_u8 _)) rfl ?_
  refine Lx.bsl (bsl1 Try.underlying80 ti5 rfl rfl rfl (by decide)) rfl (fun b3 => ?_)
  refine Lx.y (b2sR Try.underlying80 Try.underlying5 Try.underlying9 rfl (u8s_cons (u8s_cons (u8s_cons (u8s_cons u8s_nil)))) rfl) rfl ?_
  refine Lx.y (asg rfl) rfl ?_
  refine Lx.nil ?_
  refine Xx.tn (k2 _ _ _ _ ?_)
  refine Cx.ret ?_
  refine Xx.drop ?_
  exact Xx.rB1 rfl rfl ⟨rfl, rfl⟩ (Frag.le_refl _) rfl

set_option maxHeartbeats 1000000 in
theorem Four_ct (n : BitVec 32) (B : Frag) : CtP Try.prog 55 [u32 n] B (str (refFourL n)) := by
  refine CtB.of_body Try.func55 rfl (nt := 19) rfl (by kernel_rfl) rfl ?_
  intro N0 w0 R
  refine Cx.seq (fun K1 k1 => ?_)
  refine Cx.region ?_
  refine Lx.y (asg rfl) rfl ?_
  refine Lx.nil ?_
  refine Xx.tn (k1 _ _ _ _ ?_)
  refine Cx.seq (fun K2 k2 => ?_)
  refine Cx.region ?_
  refine Lx.y (mv rfl) rfl ?_
  refine Lx.y (remW32 (b := 256#32) rfl rfl (by decide)) rfl ?_
  refine Lx.y (cvI rfl Try.underlying110 Try.underlying5 (wrap_u8 _)) rfl ?_
  refine Lx.y (mv rfl) rfl ?_
  refine Lx.y (quoW32 (b := 256#32) rfl rfl (by decide)) rfl ?_
  refine Lx.y (remW32 (b := 256#32) rfl rfl (by decide)) rfl ?_
  refine Lx.y (cvI rfl Try.underlying110 Try.underlying5 (wrap_u8 _)) rfl ?_
  refine Lx.y (mv rfl) rfl ?_
  refine Lx.y (quoW32 (b := 65536#32) rfl rfl (by decide)) rfl ?_
  refine Lx.y (remW32 (b := 256#32) rfl rfl (by decide)) rfl ?_
  refine Lx.y (cvI rfl Try.underlying110 Try.underlying5 (wrap_u8 _)) rfl ?_
  refine Lx.y (mv rfl) rfl ?_
  refine Lx.y (quoW32 (b := 16777216#32) rfl rfl (by decide)) rfl ?_
  refine Lx.y (cvI rfl Try.underlying110 Try.underlying5 (wrap_u8 _)) rfl ?_
  refine Lx.bsl (bsl1 Try.underlying80 ti5 rfl rfl rfl (by decide)) rfl (fun b3 => ?_)
  refine Lx.y (b2sR Try.underlying80 Try.underlying5 Try.underlying9 rfl (u8s_cons (u8s_cons (u8s_cons (u8s_cons u8s_nil)))) rfl) rfl ?_
  refine Lx.y (asg rfl) rfl ?_
  refine Lx.nil ?_
  refine Xx.tn (k2 _ _ _ _ ?_)
  refine Cx.ret ?_
  refine Xx.drop ?_
  exact Xx.rB1 rfl rfl ⟨rfl, rfl⟩ (Frag.le_refl _) rfl

set_option maxHeartbeats 1000000 in
theorem number_ct (l : List UInt8) (B : Frag) (hl : 4 ≤ l.length) : CtP Try.prog 117 [str l] B (u32 (numL l)) := by
  refine CtB.of_body Try.func117 rfl (nt := 21) rfl (by kernel_rfl) rfl ?_
  intro N0 w0 R
  refine Cx.seq (fun K1 k1 => ?_)
  refine Cx.region ?_
  refine Lx.y (asg rfl) rfl ?_
  refine Lx.nil ?_
  refine Xx.tn (k1 _ _ _ _ ?_)
  refine Cx.seq (fun K2 k2 => ?_)
  refine Cx.drawn (by kernel_rfl) ?_
  refine Dx.p (i := 0) rfl (by kernel_rfl) (mv rfl) rfl ?_
  refine Dx.p (i := 1) rfl (by kernel_rfl) (ixS Try.underlying9 rfl rfl (show Int.toNat _ = 0 from rfl) (by omega) (by omega)) rfl ?_
  refine Dx.p (i := 2) rfl (by kernel_rfl) (cvW32 rfl Try.underlying5 Try.underlying110) rfl ?_
  refine Dx.p (i := 3) rfl (by kernel_rfl) (mv rfl) rfl ?_
  refine Dx.p (i := 4) rfl (by kernel_rfl) (ixS Try.underlying9 rfl rfl (show Int.toNat _ = 1 from rfl) (by omega) (by omega)) rfl ?_
  refine Dx.p (i := 5) rfl (by kernel_rfl) (cvW32 rfl Try.underlying5 Try.underlying110) rfl ?_
  refine Dx.p (i := 6) rfl (by kernel_rfl) (shlW32 (c := 8) rfl rfl rfl) rfl ?_
  refine Dx.p (i := 7) rfl (by kernel_rfl) (orW32 rfl rfl) rfl ?_
  refine Dx.p (i := 8) rfl (by kernel_rfl) (mv rfl) rfl ?_
  refine Dx.p (i := 9) rfl (by kernel_rfl) (ixS Try.underlying9 rfl rfl (show Int.toNat _ = 2 from rfl) (by omega) (by omega)) rfl ?_
  refine Dx.p (i := 10) rfl (by kernel_rfl) (cvW32 rfl Try.underlying5 Try.underlying110) rfl ?_
  refine Dx.p (i := 11) rfl (by kernel_rfl) (shlW32 (c := 16) rfl rfl rfl) rfl ?_
  refine Dx.p (i := 12) rfl (by kernel_rfl) (orW32 rfl rfl) rfl ?_
  refine Dx.p (i := 13) rfl (by kernel_rfl) (mv rfl) rfl ?_
  refine Dx.p (i := 14) rfl (by kernel_rfl) (ixS Try.underlying9 rfl rfl (show Int.toNat _ = 3 from rfl) (by omega) (by omega)) rfl ?_
  refine Dx.p (i := 15) rfl (by kernel_rfl) (cvW32 rfl Try.underlying5 Try.underlying110) rfl ?_
  refine Dx.p (i := 16) rfl (by kernel_rfl) (shlW32 (c := 24) rfl rfl rfl) rfl ?_
  refine Dx.p (i := 17) rfl (by kernel_rfl) (orW32 rfl rfl) rfl ?_
  refine Dx.p (i := 18) rfl (by kernel_rfl) (asg rfl) rfl ?_
  refine Dx.done (by kernel_rfl) ?_
  refine Xx.tn (k2 _ _ _ _ ?_)
  refine Cx.ret ?_
  exact Xx.rB1 rfl rfl ⟨rfl, rfl⟩ (Frag.le_refl _) rfl

set_option maxHeartbeats 1000000 in
theorem RefNumber_ct (l : List UInt8) (B : Frag) (hl : 4 ≤ l.length) : CtP Try.prog 57 [str l] B (i64 (refNumL l)) := by
  have b0 := (l.getD 0 0).toNat_lt
  have b1 := (l.getD 1 0).toNat_lt
  have b2 := (l.getD 2 0).toNat_lt
  have b3 := (l.getD 3 0).toNat_lt
  refine CtB.of_body Try.func57 rfl (nt := 21) rfl (by kernel_rfl) rfl ?_
  intro N0 w0 R
  refine Cx.seq (fun K1 k1 => ?_)
  refine Cx.region ?_
  refine Lx.y (asg rfl) rfl ?_
  refine Lx.nil ?_
  refine Xx.tn (k1 _ _ _ _ ?_)
  refine Cx.seq (fun K2 k2 => ?_)
  refine Cx.drawn (by kernel_rfl) ?_
  refine Dx.p (i := 0) rfl (by kernel_rfl) (mv rfl) rfl ?_
  refine Dx.p (i := 1) rfl (by kernel_rfl) (ixS Try.underlying9 rfl rfl (show Int.toNat _ = 0 from rfl) (by omega) (by omega)) rfl ?_
  refine Dx.p (i := 2) rfl (by kernel_rfl) (cvI rfl Try.underlying5 Try.underlying3 (by first | exact wrap64 (by omega) (by omega) | rfl)) rfl ?_
  refine Dx.p (i := 3) rfl (by kernel_rfl) (mv rfl) rfl ?_
  refine Dx.p (i := 4) rfl (by kernel_rfl) (ixS Try.underlying9 rfl rfl (show Int.toNat _ = 1 from rfl) (by omega) (by omega)) rfl ?_
  refine Dx.p (i := 5) rfl (by kernel_rfl) (cvI rfl Try.underlying5 Try.underlying3 (by first | exact wrap64 (by omega) (by omega) | rfl)) rfl ?_
  refine Dx.p (i := 6) rfl (by kernel_rfl) (mul rfl rfl (by first | exact wrap64 (by omega) (by omega) | rfl)) rfl ?_
  refine Dx.p (i := 7) rfl (by kernel_rfl) (add rfl rfl (by first | exact wrap64 (by omega) (by omega) | rfl)) rfl ?_
  refine Dx.p (i := 8) rfl (by kernel_rfl) (mv rfl) rfl ?_
  refine Dx.p (i := 9) rfl (by kernel_rfl) (ixS Try.underlying9 rfl rfl (show Int.toNat _ = 2 from rfl) (by omega) (by omega)) rfl ?_
  refine Dx.p (i := 10) rfl (by kernel_rfl) (cvI rfl Try.underlying5 Try.underlying3 (by first | exact wrap64 (by omega) (by omega) | rfl)) rfl ?_
  refine Dx.p (i := 11) rfl (by kernel_rfl) (mul rfl rfl (by first | exact wrap64 (by omega) (by omega) | rfl)) rfl ?_
  refine Dx.p (i := 12) rfl (by kernel_rfl) (add rfl rfl (by first | exact wrap64 (by omega) (by omega) | rfl)) rfl ?_
  refine Dx.p (i := 13) rfl (by kernel_rfl) (mv rfl) rfl ?_
  refine Dx.p (i := 14) rfl (by kernel_rfl) (ixS Try.underlying9 rfl rfl (show Int.toNat _ = 3 from rfl) (by omega) (by omega)) rfl ?_
  refine Dx.p (i := 15) rfl (by kernel_rfl) (cvI rfl Try.underlying5 Try.underlying3 (by first | exact wrap64 (by omega) (by omega) | rfl)) rfl ?_
  refine Dx.p (i := 16) rfl (by kernel_rfl) (mul rfl rfl (by first | exact wrap64 (by omega) (by omega) | rfl)) rfl ?_
  refine Dx.p (i := 17) rfl (by kernel_rfl) (add rfl rfl (by first | exact wrap64 (by omega) (by omega) | rfl)) rfl ?_
  refine Dx.p (i := 18) rfl (by kernel_rfl) (asg rfl) rfl ?_
  refine Dx.done (by kernel_rfl) ?_
  refine Xx.tn (k2 _ _ _ _ ?_)
  refine Cx.ret ?_
  exact Xx.rB1 rfl rfl ⟨rfl, rfl⟩ (Frag.le_refl _) rfl

def headL (l : List UInt8) : List UInt8 := fourL (BitVec.ofInt 32 (l.length : Nat)) ++ fourL (crc (fourL (BitVec.ofInt 32 (l.length : Nat)))) ++ fourL (crc l)
@[simp] theorem headL_len (l : List UInt8) : (headL l).length = 12 := by simp [headL]
def refFrameL (l : List UInt8) : List UInt8 := refFourL (BitVec.ofInt 32 (l.length : Nat)) ++ refFourL (refCrc (refFourL (BitVec.ofInt 32 (l.length : Nat)))) ++ refFourL (refCrc l) ++ l
def makeV (l : List UInt8) : Value := if (65536 : Int) < (l.length : Nat) then .tuple #[str [], i64 3] else .tuple #[str (headL l ++ l), i64 0]

set_option maxHeartbeats 1000000 in
theorem Head_ct (l : List UInt8) (B : Frag) (hl : l.length ≤ 4611686018427387904) : CtP Try.prog 82 [str l] B (str (headL l)) := by
  refine CtB.of_body Try.func82 rfl (nt := 17) rfl (by kernel_rfl) rfl ?_
  intro N0 w0 R
  refine Cx.seq (fun K1 k1 => ?_)
  refine Cx.region ?_
  refine Lx.y (asg rfl) rfl ?_
  refine Lx.nil ?_
  refine Xx.tn (k1 _ _ _ _ ?_)
  refine Cx.seq (fun K2 k2 => ?_)
  refine Cx.region ?_
  refine Lx.y (mv rfl) rfl ?_
  refine Lx.y (lenS Try.underlying9 rfl) rfl ?_
  refine Lx.y (cvW32 rfl Try.underlying3 Try.underlying110) rfl ?_
  refine Lx.cp rfl rfl rfl (four_ct _ _) rfl ?_
  refine Lx.y (asg rfl) rfl ?_
  refine Lx.nil ?_
  refine Xx.tn (k2 _ _ _ _ ?_)
  refine Cx.seq (fun K3 k3 => ?_)
  refine Cx.region ?_
  refine Lx.y (mv rfl) rfl ?_
  refine Lx.y (mv rfl) rfl ?_
  refine Lx.cp rfl rfl rfl (Check_ct _ _ (by first | omega | (simp <;> omega))) rfl ?_
  refine Lx.cp rfl rfl rfl (four_ct _ _) rfl ?_
  refine Lx.y (catS rfl rfl (by first | omega | (simp <;> omega))) rfl ?_
  refine Lx.y (mv rfl) rfl ?_
  refine Lx.cp rfl rfl rfl (Check_ct _ _ (by first | omega | (simp <;> omega))) rfl ?_
  refine Lx.cp rfl rfl rfl (four_ct _ _) rfl ?_
  refine Lx.y (catS rfl rfl (by first | omega | (simp <;> omega))) rfl ?_
  refine Lx.y (asg rfl) rfl ?_
  refine Lx.nil ?_
  refine Xx.tn (k3 _ _ _ _ ?_)
  refine Cx.ret ?_
  exact Xx.rB1 rfl rfl ⟨rfl, rfl⟩ (Frag.le_refl _) rfl

set_option maxHeartbeats 1000000 in
theorem Make_ct (l : List UInt8) (B : Frag) (hl : l.length ≤ 4611686018427387904) : CtP Try.prog 59 [str l] B (makeV l) := by
  refine CtB.of_body Try.func59 rfl (nt := 11) rfl (by kernel_rfl) rfl ?_
  intro N0 w0 R
  refine Cx.seq (fun K1 k1 => ?_)
  refine Cx.region ?_
  refine Lx.y (asg rfl) rfl ?_
  refine Lx.y (asg rfl) rfl ?_
  refine Lx.nil ?_
  refine Xx.tn (k1 _ _ _ _ ?_)
  refine Cx.seq (fun K2 k2 => ?_)
  refine Cx.seq (fun K3 k3 => ?_)
  refine Cx.region ?_
  refine Lx.y (mv rfl) rfl ?_
  refine Lx.y (lenS Try.underlying9 rfl) rfl ?_
  refine Lx.y (gtr rfl rfl) rfl ?_
  refine Lx.nil ?_
  refine Xx.tn (k3 _ _ _ _ ?_)
  refine Cx.condD rfl (fun h4 => ?_) (fun h4 => ?_)
  · skip
    have h3 := h4
    refine Cx.seq (fun K5 k5 => ?_)
    refine Cx.region ?_
    refine Lx.y (asg rfl) rfl ?_
    refine Lx.y (asg rfl) rfl ?_
    refine Lx.nil ?_
    refine Xx.tn (k5 _ _ _ _ ?_)
    refine Cx.ret ?_
    refine Xx.tr ?_
    exact Xx.rB2 rfl rfl rfl ⟨by simp only [makeV]; rw [if_pos h3], rfl⟩ (Frag.le_refl _) rfl
  · skip
    have h3 := h4
    refine Cx.skip ?_
    refine Xx.tn (k2 _ _ _ _ ?_)
    refine Cx.seq (fun K6 k6 => ?_)
    refine Cx.region ?_
    refine Lx.y (mv rfl) rfl ?_
    refine Lx.cp rfl rfl rfl (Head_ct _ _ hl) rfl ?_
    refine Lx.y (mv rfl) rfl ?_
    refine Lx.y (catS rfl rfl (by first | omega | (simp <;> omega))) rfl ?_
    refine Lx.y (asg rfl) rfl ?_
    refine Lx.y (asg rfl) rfl ?_
    refine Lx.nil ?_
    refine Xx.tn (k6 _ _ _ _ ?_)
    refine Cx.ret ?_
    exact Xx.rB2 rfl rfl rfl ⟨by simp only [makeV]; rw [if_neg h3], rfl⟩ (Frag.le_refl _) rfl

set_option maxHeartbeats 1000000 in
theorem RefFrame_ct (l : List UInt8) (B : Frag) (hl : l.length ≤ 4611686018427387904) : CtP Try.prog 31 [str l] B (str (refFrameL l)) := by
  refine CtB.of_body Try.func31 rfl (nt := 19) rfl (by kernel_rfl) rfl ?_
  intro N0 w0 R
  refine Cx.seq (fun K1 k1 => ?_)
  refine Cx.region ?_
  refine Lx.y (asg rfl) rfl ?_
  refine Lx.nil ?_
  refine Xx.tn (k1 _ _ _ _ ?_)
  refine Cx.seq (fun K2 k2 => ?_)
  refine Cx.region ?_
  refine Lx.y (mv rfl) rfl ?_
  refine Lx.y (lenS Try.underlying9 rfl) rfl ?_
  refine Lx.y (cvW32 rfl Try.underlying3 Try.underlying110) rfl ?_
  refine Lx.cp rfl rfl rfl (Four_ct _ _) rfl ?_
  refine Lx.y (asg rfl) rfl ?_
  refine Lx.nil ?_
  refine Xx.tn (k2 _ _ _ _ ?_)
  refine Cx.seq (fun K3 k3 => ?_)
  refine Cx.region ?_
  refine Lx.y (mv rfl) rfl ?_
  refine Lx.y (mv rfl) rfl ?_
  refine Lx.cp rfl rfl rfl (RefCheck_ct _ _ (by first | omega | (simp <;> omega))) rfl ?_
  refine Lx.cp rfl rfl rfl (Four_ct _ _) rfl ?_
  refine Lx.y (catS rfl rfl (by first | omega | (simp <;> omega))) rfl ?_
  refine Lx.y (mv rfl) rfl ?_
  refine Lx.cp rfl rfl rfl (RefCheck_ct _ _ (by first | omega | (simp <;> omega))) rfl ?_
  refine Lx.cp rfl rfl rfl (Four_ct _ _) rfl ?_
  refine Lx.y (catS rfl rfl (by first | omega | (simp <;> omega))) rfl ?_
  refine Lx.y (mv rfl) rfl ?_
  refine Lx.y (catS rfl rfl (by first | omega | (simp <;> omega))) rfl ?_
  refine Lx.y (asg rfl) rfl ?_
  refine Lx.nil ?_
  refine Xx.tn (k3 _ _ _ _ ?_)
  refine Cx.ret ?_
  exact Xx.rB1 rfl rfl ⟨rfl, rfl⟩ (Frag.le_refl _) rfl

def fewL (l : List UInt8) : List UInt8 := if (300 : Int) < (l.length : Nat) then l.take 300 else l
theorem fewL_len (l : List UInt8) : (fewL l).length ≤ 300 := by
  unfold fewL; split
  · simp; omega
  · omega
end Fr1
end Go.Proofs.Ytgcebieihmlaoaa
