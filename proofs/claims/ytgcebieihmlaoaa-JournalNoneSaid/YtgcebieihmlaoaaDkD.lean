/-
  What a loss of power leaves of a file.
-/
import Derived.Test.YtgcebieihmlaoaaProg
import Derived.Test.YtgcebieihmlaoaaSlj
import Derived.Test.YtgcebieihmlaoaaDkC
import Derived.Test.YtgcebieihmlaoaaSlw
namespace Go.Proofs.Ytgcebieihmlaoaa
open Go.SL Go.RowKit
set_option linter.unusedVariables false
set_option linter.unusedSimpArgs false
set_option maxRecDepth 100000
open DkA DkB DkC
namespace DkD
theorem sz3 : (Try.prog.info? 3).map (·.size) = some 1 := by kernel_rfl
theorem sz5 : (Try.prog.info? 5).map (·.size) = some 1 := by kernel_rfl
theorem sz25 : (Try.prog.info? 25).map (·.size) = some 3 := by kernel_rfl
theorem ti3 : TI Try.prog 3 [.int .i64 0] 1 8 := TI.of (by kernel_rfl) rfl rfl
theorem ti5 : TI Try.prog 5 [.int .u8 0] 1 1 := TI.of (by kernel_rfl) rfl rfl
theorem fo102_0 : FO Try.prog 102 0 0 1 false := FO.of Try.underlying102 rfl rfl (by kernel_rfl) Try.underlying80 rfl rfl
theorem fo102_1 : FO Try.prog 102 1 1 1 false := FO.of Try.underlying102 rfl rfl (by kernel_rfl) Try.underlying80 rfl rfl
theorem fo102_2 : FO Try.prog 102 2 2 1 false := FO.of Try.underlying102 rfl rfl (by kernel_rfl) Try.underlying39 rfl rfl

theorem nv_at {l : List Nat} {j : Nat} (h : j < l.length) : ((nv l).drop (0 + j * 1)).take 1 = [i64 ((l[j] : Nat) : Int)] := by
  rw [show 0 + j * 1 = j by omega, List.drop_eq_getElem_cons (by rw [nv_len]; exact h)]
  simp [nv]
def pad (l : List UInt8) (n : Nat) : List UInt8 := l ++ List.replicate (n - l.length) 0
/-- is the sector kept? -/
def kept (mask : BitVec 64) (bit : Nat) : Bool := decide (mask >>> min bit 63 &&& 1#64 = 1#64)
/-- how far a sector is as it was written -/
def toF (now : List UInt8) (mask : BitVec 64) (bit : Nat) (torn : Int) (i : Nat) : Nat :=
  if kept mask bit = true then min (i * 64 + 64) now.length else i * 64 + min torn.toNat (min (i * 64 + 64) now.length - i * 64)
def outF (now out : List UInt8) (fr t : Nat) : List UInt8 := if fr < t then (pad out t).take fr ++ (now.drop fr).take (t - fr) ++ (pad out t).drop t else out
def lostStep (now : List UInt8) (mask : BitVec 64) (s : List UInt8 × Nat × Int) (i : Nat) : List UInt8 × Nat × Int :=
  (outF now s.1 (i * 64) (toF now mask s.2.1 s.2.2 i), s.2.1 + 1, if kept mask s.2.1 = true then s.2.2 else 0)
def lostF (now sure : List UInt8) (loose : List Nat) (mask : BitVec 64) (bit : Nat) (torn : Int) : List UInt8 × Nat × Int := loose.foldl (lostStep now mask) (sure, bit, torn)
theorem foldl_step {α β : Type} (f : β → α → β) (a : β) (l : List α) (j : Nat) (h : j < l.length) : (l.take (j + 1)).foldl f a = f ((l.take j).foldl f a) l[j] := by
  rw [List.take_succ_eq_append_getElem h, List.foldl_append]; rfl
theorem pad_len (l : List UInt8) (n : Nat) : (pad l n).length = max l.length n := by
  unfold pad; rw [List.length_append, List.length_replicate]; omega
theorem pad_le {l : List UInt8} {n : Nat} (h : n ≤ l.length) : pad l n = l := by
  unfold pad; rw [show n - l.length = 0 by omega]; simp
theorem toF_le {now : List UInt8} {mask : BitVec 64} {bit : Nat} {torn : Int} {i : Nat} (h : i < sec now.length) : toF now mask bit torn i ≤ now.length ∧ i * 64 ≤ toF now mask bit torn i := by
  unfold toF; unfold sec at h; split <;> omega
theorem outF_len {now out : List UInt8} {fr t : Nat} (h1 : out.length ≤ now.length) (h2 : t ≤ now.length) : (outF now out fr t).length ≤ now.length := by
  unfold outF
  split
  · rename_i h
    rw [List.length_append, List.length_append, List.length_take, List.length_take, List.length_drop, List.length_drop, pad_len]; omega
  · exact h1
theorem u8s_app (a b : List UInt8) : u8s (a ++ b) = u8s a ++ u8s b := by simp [u8s]
theorem u8s_take (a : List UInt8) (n : Nat) : u8s (a.take n) = (u8s a).take n := by simp [u8s, List.map_take]
theorem u8s_drop (a : List UInt8) (n : Nat) : u8s (a.drop n) = (u8s a).drop n := by simp [u8s, List.map_drop]
theorem u8s_zero (n : Nat) : u8s (List.replicate n 0) = List.replicate n (.int .u8 0) := by simp [u8s]
theorem copy_out {now out : List UInt8} {fr t k : Nat} (h1 : out.length ≤ now.length) (h2 : t ≤ now.length) (h3 : fr ≤ t) (hk : k = min fr (if fr < t then pad out t else out).length) :
    (u8s (if fr < t then pad out t else out)).take k ++ ((u8s now).drop fr).take (t - fr) ++ (u8s (if fr < t then pad out t else out)).drop (k + (t - fr)) = u8s (outF now out fr t) := by
  subst hk
  unfold outF
  by_cases h : fr < t
  · have hl := pad_len out t
    simp only [if_pos h]
    rw [show min fr (pad out t).length = fr by omega, show fr + (t - fr) = t by omega, u8s_app, u8s_app, u8s_take, u8s_take, u8s_drop, u8s_drop]
  · simp only [if_neg h]
    rw [show t - fr = 0 by omega]
    simp
theorem lostF_len (now : List UInt8) (mask : BitVec 64) : ∀ (l : List Nat) (s : List UInt8 × Nat × Int), s.1.length ≤ now.length → (∀ i ∈ l, i < sec now.length) → ((l.foldl (lostStep now mask) s).1.length ≤ now.length ∧ (l.foldl (lostStep now mask) s).2.1 = s.2.1 + l.length) := by
  intro l
  induction l with
  | nil => intro s h _; exact ⟨h, rfl⟩
  | cons i l ih =>
    intro s h hl
    have h1 := ih (lostStep now mask s i) (outF_len h (toF_le (hl i (by simp))).1) (fun k hk => hl k (by simp [hk]))
    refine ⟨h1.1, ?_⟩
    rw [List.foldl_cons, h1.2]
    show s.2.1 + 1 + l.length = s.2.1 + (l.length + 1)
    omega

set_option maxHeartbeats 4000000 in
theorem lost_ct (f : Fi) (bb tb : Nat) (mask : BitVec 64) (bit : Nat) (torn : Int) (B : Frag) (hlim : ∀ i ∈ f.m.loose, i < sec f.m.now.length) (hnow : f.m.now.length ≤ 68719476736) (hsl : f.m.sure.length ≤ f.m.now.length) (hbit : bit + f.m.loose.length ≤ 2305843009213693952) : Ct Try.prog 52 [.pointer (some ⟨f.b, 0, none⟩), .pointer (some ⟨bb, 0, none⟩), u64 mask, .pointer (some ⟨tb, 0, none⟩)] B (fiH f * (row bb 3 [i64 ((bit : Nat) : Int)] * row tb 3 [i64 torn])) (fun v B' H' => B' = B ∧ ∃ A c, v = .slice A (lostF f.m.now f.m.sure f.m.loose mask bit torn).1.length c ∧ H' = fiH f * (row bb 3 [i64 (((lostF f.m.now f.m.sure f.m.loose mask bit torn).2.1 : Nat) : Int)] * (row tb 3 [i64 (lostF f.m.now f.m.sure f.m.loose mask bit torn).2.2] * sbuf 5 1 A (lostF f.m.now f.m.sure f.m.loose mask bit torn).1.length c (u8s (lostF f.m.now f.m.sure f.m.loose mask bit torn).1)))) := by
  obtain ⟨⟨fn, now, sure, loose⟩, fb, An, cn, As, cs, Al, cl⟩ := f
  simp only at hlim hnow hsl hbit ⊢
  refine Ct.of_body Try.func52 rfl (nt := 97) rfl (by kernel_rfl) rfl ?_
  intro N0 w0 R
  unfold fiH
  simp only [star_assoc]
  refine Cx.seq (fun K1 k1 => ?_)
  refine Cx.region ?_
  refine Lx.y (asg rfl) rfl ?_
  refine Lx.nil ?_
  refine Xx.tn (k1 _ _ _ _ ?_)
  refine Cx.seq (fun K2 k2 => ?_)
  refine Cx.region ?_
  refine Lx.y (mv rfl) rfl ?_
  refine Lx.y (nilc rfl) rfl ?_
  refine Lx.y (fa' fo102_1 rfl) rfl ?_
  refine Lx.y (Yx.val (ld Try.underlying80 rfl rfl rfl) (show _ = Value.slice As sure.length cs from rfl)) rfl ?_
  refine Lx.c rfl rfl rfl (ClB_ct As sure.length cs (u8s sure) _ (u8_all _) (by omega) (by omega)) (pickS _) rfl ?_
  rintro v1 B1 H1 ⟨hBB, A1, c1, rfl, rfl⟩ hB1
  subst hBB
  rename Frag => B
  clear hB1
  simp only [star_assoc]
  refine Lx.y (asg rfl) rfl ?_
  refine Lx.nil ?_
  refine Xx.tn (k2 _ _ _ _ ?_)
  refine Cx.seq (fun K3 k3 => ?_)
  refine Cx.seq (fun K4 k4 => ?_)
  refine Cx.region ?_
  refine Lx.y (mv rfl) rfl ?_
  refine Lx.y (nilc rfl) rfl ?_
  refine Lx.y (fa' fo102_2 rfl) rfl ?_
  refine Lx.y (Yx.val (ld Try.underlying39 rfl rfl rfl) (show _ = Value.slice Al loose.length cl from rfl)) rfl ?_
  refine Lx.y (lenV (ty' := 0) Try.underlying39 rfl) rfl ?_
  refine Lx.y (mv rfl) rfl ?_
  refine Lx.nil ?_
  refine Xx.tn (k4 _ _ _ _ ?_)
  refine Cx.block ?_
  refine Cx.loopK (Sub.cons (s := 0) rfl (Sub.cons (s := 1) rfl (Sub.cons (s := 2) rfl (Sub.cons (s := 3) rfl (Sub.cons (s := 8) rfl (Sub.cons (s := 15) rfl (Sub.cons (s := 16) rfl (Sub.cons (s := 17) rfl (Sub.cons (s := 18) rfl (Sub.cons (s := 19) rfl (Sub.cons (s := 20) rfl (Sub.cons (s := 21) rfl (Sub.cons (s := 22) rfl (Sub.cons (s := 23) rfl (Sub.cons (s := 24) rfl (Sub.nil _)))))))))))))))) (fun m ρ' B' H' => ∃ (j : Nat) (s : List UInt8 × Nat × Int) (A : Option Addr) (c : Nat), (j ≤ loose.length ∧ s = (loose.take j).foldl (lostStep now mask) (sure, bit, torn) ∧ s.1.length ≤ now.length ∧ s.2.1 = bit + j) ∧ m = loose.length - j ∧ ρ' = [(9, .slice A s.1.length c), (25, i64 ((j : Nat) : Int))] ∧ B = B' ∧ row fb 102 (fcs ⟨⟨fn, now, sure, loose⟩, fb, An, cn, As, cs, Al, cl⟩) * (sbuf 5 1 An now.length cn (u8s now) * (sbuf 5 1 As sure.length cs (u8s sure) * (sbuf 3 1 Al loose.length cl (nv loose) * (row bb 3 [i64 ((s.2.1 : Nat) : Int)] * (row tb 3 [i64 s.2.2] * (sbuf 5 1 A s.1.length c (u8s s.1) * R)))))) = H') ⟨0, (sure, bit, torn), _, _, ⟨Nat.zero_le _, rfl, hsl, rfl⟩, rfl, rfl, rfl, by ac_rfl⟩ (Sub.cons (s := 9) rfl (Sub.cons (s := 25) rfl (Sub.cons (s := 0) rfl (Sub.cons (s := 1) rfl (Sub.cons (s := 2) rfl (Sub.cons (s := 3) rfl (Sub.cons (s := 8) rfl (Sub.cons (s := 15) rfl (Sub.cons (s := 16) rfl (Sub.cons (s := 17) rfl (Sub.cons (s := 18) rfl (Sub.cons (s := 19) rfl (Sub.cons (s := 20) rfl (Sub.cons (s := 21) rfl (Sub.cons (s := 22) rfl (Sub.cons (s := 23) rfl (Sub.cons (s := 24) rfl (Sub.nil _)))))))))))))))))) ?_
  rintro m ρ' B' H' ⟨j, s, A, c, ⟨hj, hs, hsn, hsb⟩, rfl, rfl, rfl, rfl⟩
  refine Cx.seq (fun K5 k5 => ?_)
  refine Cx.region ?_
  refine Lx.y (lss rfl rfl) rfl ?_
  refine Lx.nil ?_
  refine Xx.tn (k5 _ _ _ _ ?_)
  refine Cx.seq (fun K6 k6 => ?_)
  refine Cx.condD rfl (fun h7 => ?_) (fun h7 => ?_)
  · skip
    have hjl : (j : Int) < (loose.length : Int) := h7
    have hjl : j < loose.length := by omega
    refine Xx.addrT Al (by omega) (fun ba hAl hbl hbc => ?_)
    subst hAl
    have hlj := hlim _ (List.getElem_mem hjl)
    obtain ⟨ix, hix⟩ : ∃ x, x = loose[j] := ⟨_, rfl⟩
    rw [← hix] at hlj
    have htl := toF_le (mask := mask) (bit := s.2.1) (torn := s.2.2) hlj
    unfold sec at hlj
    refine Xx.addrT An (by omega) (fun bn hAn hnl hnc => ?_)
    subst hAn
    rw [Nat.mul_one] at hnl
    refine Cx.skip ?_
    refine Xx.tn (k6 _ _ _ _ ?_)
    refine Cx.seq (fun K8 k8 => ?_)
    refine Cx.block ?_
    refine Cx.seq (fun K9 k9 => ?_)
    refine Cx.region ?_
    refine Lx.y (ia Try.underlying39 sz3 rfl rfl (by first | exact Int.toNat_natCast _ | rfl) (by omega) (by omega)) rfl ?_
    refine Lx.y (ldC Try.underlying3 rfl rfl (Cells.buf (b := ba) (m := 1) (show _ = [i64 ((ix : Nat) : Int)] by rw [hix]; exact nv_at hjl) (by rw [nv_len]; omega))) rfl ?_
    refine Lx.y (asg rfl) rfl ?_
    refine Lx.nil ?_
    refine Xx.tn (k9 _ _ _ _ ?_)
    refine Cx.seq (fun K10 k10 => ?_)
    refine Cx.region ?_
    refine Lx.y (mv rfl) rfl ?_
    refine Lx.y (Yx.val (mul rfl rfl (by first | exact wrap64 (by omega) (by omega) | rfl)) (show _ = i64 (((ix * 64) : Nat) : Int) from rfl)) rfl ?_
    refine Lx.y (asg rfl) rfl ?_
    refine Lx.nil ?_
    refine Xx.tn (k10 _ _ _ _ ?_)
    refine Cx.seq (fun K11 k11 => ?_)
    refine Cx.region ?_
    refine Lx.y (mv rfl) rfl ?_
    refine Lx.y (Yx.val (add rfl rfl (by first | exact wrap64 (by omega) (by omega) | rfl)) (show _ = i64 (((ix * 64) + 64 : Nat) : Int) from rfl)) rfl ?_
    refine Lx.y (mv rfl) rfl ?_
    refine Lx.y (nilc rfl) rfl ?_
    refine Lx.y (fa' fo102_0 rfl) rfl ?_
    refine Lx.y (Yx.val (ld Try.underlying80 rfl rfl rfl) (show _ = Value.slice (some ⟨bn, 0, none⟩) now.length cn from rfl)) rfl ?_
    refine Lx.y (lenV (ty' := 0) Try.underlying80 rfl) rfl ?_
    refine Lx.y (minN rfl rfl) rfl ?_
    refine Lx.y (asg rfl) rfl ?_
    refine Lx.nil ?_
    refine Xx.tn (k11 _ _ _ _ ?_)
    refine Cx.seq (fun K12 k12 => ?_)
    refine Cx.region ?_
    refine Lx.y (mv rfl) rfl ?_
    refine Lx.y (mv rfl) rfl ?_
    refine Lx.y (nilc rfl) rfl ?_
    refine Lx.y (ld Try.underlying3 rfl rfl rfl) rfl ?_
    refine Lx.y (minN (n := 63) rfl rfl) rfl ?_
    refine Lx.y (shrW64 (c := min s.2.1 63) rfl rfl (by rw [Nat.ble_eq]; omega)) rfl ?_
    refine Lx.y (andW64 (b := 1#64) rfl rfl) rfl ?_
    refine Lx.y (eqW64 (b := 1#64) rfl rfl) rfl ?_
    refine Lx.y (asg rfl) rfl ?_
    refine Lx.nil ?_
    refine Xx.tn (k12 _ _ _ _ ?_)
    refine Cx.seq (fun K13 k13 => ?_)
    refine Cx.region ?_
    refine Lx.y (mv rfl) rfl ?_
    refine Lx.y (nilc rfl) rfl ?_
    refine Lx.y (ld Try.underlying3 rfl rfl rfl) rfl ?_
    refine Lx.y (Yx.val (add rfl rfl (by first | exact wrap64 (by omega) (by omega) | rfl)) (show _ = i64 ((s.2.1 + 1 : Nat) : Int) from rfl)) rfl ?_
    refine Lx.y (nilc rfl) rfl ?_
    refine Lx.st (stO Try.underlying3 sz3 rfl rfl rfl (by simp) rfl) ?_
    refine Lx.nil ?_
    refine Xx.tn (k13 _ _ _ _ ?_)
    refine Cx.cutK (ds' := []) (Sub.cons (s := 0) rfl (Sub.cons (s := 1) rfl (Sub.cons (s := 2) rfl (Sub.cons (s := 3) rfl (Sub.cons (s := 8) rfl (Sub.cons (s := 9) rfl (Sub.cons (s := 11) rfl (Sub.cons (s := 12) rfl (Sub.cons (s := 14) rfl (Sub.cons (s := 15) rfl (Sub.cons (s := 16) rfl (Sub.cons (s := 17) rfl (Sub.cons (s := 18) rfl (Sub.cons (s := 19) rfl (Sub.cons (s := 20) rfl (Sub.cons (s := 21) rfl (Sub.cons (s := 22) rfl (Sub.cons (s := 23) rfl (Sub.cons (s := 24) rfl (Sub.cons (s := 25) rfl (Sub.cons (s := 26) rfl (Sub.cons (s := 27) rfl (Sub.cons (s := 28) rfl (Sub.cons (s := 29) rfl (Sub.cons (s := 30) rfl (Sub.cons (s := 31) rfl (Sub.cons (s := 32) rfl (Sub.cons (s := 33) rfl (Sub.cons (s := 34) rfl (Sub.cons (s := 35) rfl (Sub.cons (s := 36) rfl (Sub.cons (s := 37) rfl (Sub.cons (s := 38) rfl (Sub.cons (s := 39) rfl (Sub.cons (s := 40) rfl (Sub.cons (s := 41) rfl (Sub.cons (s := 42) rfl (Sub.cons (s := 43) rfl (Sub.cons (s := 44) rfl (Sub.cons (s := 45) rfl (Sub.cons (s := 46) rfl (Sub.cons (s := 47) rfl (Sub.cons (s := 48) rfl (Sub.cons (s := 49) rfl (Sub.cons (s := 50) rfl (Sub.cons (s := 51) rfl (Sub.nil _))))))))))))))))))))))))))))))))))))))))))))))) (fun ρ' B' H' => ∃ (tr : Int), ρ' = [(13, i64 (((toF now mask s.2.1 s.2.2 ix) : Nat) : Int))] ∧ B = B' ∧ row fb 102 (fcs ⟨⟨fn, now, sure, loose⟩, fb, (some ⟨bn, 0, none⟩), cn, As, cs, (some ⟨ba, 0, none⟩), cl⟩) * (sbuf 5 1 (some ⟨bn, 0, none⟩) now.length cn (u8s now) * (sbuf 5 1 As sure.length cs (u8s sure) * (sbuf 3 1 (some ⟨ba, 0, none⟩) loose.length cl (nv loose) * (row bb 3 [i64 ((s.2.1 + 1 : Nat) : Int)] * (row tb 3 [i64 tr] * (sbuf 5 1 A s.1.length c (u8s s.1) * R)))))) = H' ∧ (lostStep now mask s ix).2.2 = tr) ?_ ?_
    · skip
      refine Cx.seq (fun K14 k14 => ?_)
      refine Cx.region ?_
      refine Lx.y (mv rfl) rfl ?_
      refine Lx.y (not' rfl) rfl ?_
      refine Lx.nil ?_
      refine Xx.tn (k14 _ _ _ _ ?_)
      refine Cx.condN rfl (fun h15 => ?_) (fun h15 => ?_)
      · skip
        have hkp := h15
        have hkp : kept mask s.2.1 = false := decide_eq_false hkp
        refine Cx.seq (fun K16 k16 => ?_)
        refine Cx.region ?_
        refine Lx.y (mv rfl) rfl ?_
        refine Lx.y (mv rfl) rfl ?_
        refine Lx.y (nilc rfl) rfl ?_
        refine Lx.y (ld Try.underlying3 rfl rfl rfl) rfl ?_
        refine Lx.y (Yx.val (maxI (n := 0) rfl rfl) (show _ = i64 ((s.2.2.toNat : Nat) : Int) by congr 1; split <;> omega)) rfl ?_
        refine Lx.y (mv rfl) rfl ?_
        refine Lx.y (mv rfl) rfl ?_
        refine Lx.y (Yx.val (sub rfl rfl (by first | exact wrap64 (by omega) (by omega) | rfl)) (show _ = i64 ((min ((ix * 64) + 64) now.length - (ix * 64) : Nat) : Int) by congr 1; omega)) rfl ?_
        refine Lx.y (minN rfl rfl) rfl ?_
        refine Lx.y (Yx.val (add rfl rfl (by first | exact wrap64 (by omega) (by omega) | rfl)) (show _ = i64 (((ix * 64) + min s.2.2.toNat (min ((ix * 64) + 64) now.length - (ix * 64)) : Nat) : Int) from rfl)) rfl ?_
        refine Lx.y (asg rfl) rfl ?_
        refine Lx.nil ?_
        refine Xx.tn (k16 _ _ _ _ ?_)
        refine Cx.region ?_
        refine Lx.y (mv rfl) rfl ?_
        refine Lx.y (nilc rfl) rfl ?_
        refine Lx.st (stO Try.underlying3 sz3 rfl rfl rfl (by simp) rfl) ?_
        refine Lx.nil ?_
        exact Xx.mkK (⟨0, rfl, rfl, by ac_rfl, by unfold lostStep; rw [hkp]; rfl⟩) (Sub.consE (s := 13) rfl (by unfold toF; rw [hkp]; rfl) (Sub.cons (s := 0) rfl (Sub.cons (s := 1) rfl (Sub.cons (s := 2) rfl (Sub.cons (s := 3) rfl (Sub.cons (s := 8) rfl (Sub.cons (s := 9) rfl (Sub.cons (s := 11) rfl (Sub.cons (s := 12) rfl (Sub.cons (s := 14) rfl (Sub.cons (s := 15) rfl (Sub.cons (s := 16) rfl (Sub.cons (s := 17) rfl (Sub.cons (s := 18) rfl (Sub.cons (s := 19) rfl (Sub.cons (s := 20) rfl (Sub.cons (s := 21) rfl (Sub.cons (s := 22) rfl (Sub.cons (s := 23) rfl (Sub.cons (s := 24) rfl (Sub.cons (s := 25) rfl (Sub.cons (s := 26) rfl (Sub.cons (s := 27) rfl (Sub.cons (s := 28) rfl (Sub.cons (s := 29) rfl (Sub.cons (s := 30) rfl (Sub.cons (s := 31) rfl (Sub.cons (s := 32) rfl (Sub.cons (s := 33) rfl (Sub.cons (s := 34) rfl (Sub.cons (s := 35) rfl (Sub.cons (s := 36) rfl (Sub.cons (s := 37) rfl (Sub.cons (s := 38) rfl (Sub.cons (s := 39) rfl (Sub.cons (s := 40) rfl (Sub.cons (s := 41) rfl (Sub.cons (s := 42) rfl (Sub.cons (s := 43) rfl (Sub.cons (s := 44) rfl (Sub.cons (s := 45) rfl (Sub.cons (s := 46) rfl (Sub.cons (s := 47) rfl (Sub.cons (s := 48) rfl (Sub.cons (s := 49) rfl (Sub.cons (s := 50) rfl (Sub.cons (s := 51) rfl (Sub.nil _))))))))))))))))))))))))))))))))))))))))))))))))
      · skip
        have hkp := h15
        have hkp : kept mask s.2.1 = true := decide_eq_true hkp
        refine Cx.skip ?_
        exact Xx.mkK (⟨s.2.2, rfl, rfl, by ac_rfl, by unfold lostStep; rw [hkp]; rfl⟩) (Sub.consE (s := 13) rfl (by unfold toF; rw [hkp]; rfl) (Sub.cons (s := 0) rfl (Sub.cons (s := 1) rfl (Sub.cons (s := 2) rfl (Sub.cons (s := 3) rfl (Sub.cons (s := 8) rfl (Sub.cons (s := 9) rfl (Sub.cons (s := 11) rfl (Sub.cons (s := 12) rfl (Sub.cons (s := 14) rfl (Sub.cons (s := 15) rfl (Sub.cons (s := 16) rfl (Sub.cons (s := 17) rfl (Sub.cons (s := 18) rfl (Sub.cons (s := 19) rfl (Sub.cons (s := 20) rfl (Sub.cons (s := 21) rfl (Sub.cons (s := 22) rfl (Sub.cons (s := 23) rfl (Sub.cons (s := 24) rfl (Sub.cons (s := 25) rfl (Sub.cons (s := 26) rfl (Sub.cons (s := 27) rfl (Sub.cons (s := 28) rfl (Sub.cons (s := 29) rfl (Sub.cons (s := 30) rfl (Sub.cons (s := 31) rfl (Sub.cons (s := 32) rfl (Sub.cons (s := 33) rfl (Sub.cons (s := 34) rfl (Sub.cons (s := 35) rfl (Sub.cons (s := 36) rfl (Sub.cons (s := 37) rfl (Sub.cons (s := 38) rfl (Sub.cons (s := 39) rfl (Sub.cons (s := 40) rfl (Sub.cons (s := 41) rfl (Sub.cons (s := 42) rfl (Sub.cons (s := 43) rfl (Sub.cons (s := 44) rfl (Sub.cons (s := 45) rfl (Sub.cons (s := 46) rfl (Sub.cons (s := 47) rfl (Sub.cons (s := 48) rfl (Sub.cons (s := 49) rfl (Sub.cons (s := 50) rfl (Sub.cons (s := 51) rfl (Sub.nil _))))))))))))))))))))))))))))))))))))))))))))))))
    · rintro ρ' B' H' ⟨tr, rfl, rfl, rfl, htr⟩
      refine Cx.cutK (ds' := []) (Sub.cons (s := 0) rfl (Sub.cons (s := 1) rfl (Sub.cons (s := 2) rfl (Sub.cons (s := 3) rfl (Sub.cons (s := 8) rfl (Sub.cons (s := 11) rfl (Sub.cons (s := 12) rfl (Sub.cons (s := 13) rfl (Sub.cons (s := 14) rfl (Sub.cons (s := 15) rfl (Sub.cons (s := 16) rfl (Sub.cons (s := 17) rfl (Sub.cons (s := 18) rfl (Sub.cons (s := 19) rfl (Sub.cons (s := 20) rfl (Sub.cons (s := 21) rfl (Sub.cons (s := 22) rfl (Sub.cons (s := 23) rfl (Sub.cons (s := 24) rfl (Sub.cons (s := 25) rfl (Sub.cons (s := 26) rfl (Sub.cons (s := 27) rfl (Sub.cons (s := 28) rfl (Sub.cons (s := 29) rfl (Sub.cons (s := 30) rfl (Sub.cons (s := 31) rfl (Sub.cons (s := 32) rfl (Sub.cons (s := 33) rfl (Sub.cons (s := 34) rfl (Sub.cons (s := 35) rfl (Sub.cons (s := 36) rfl (Sub.cons (s := 37) rfl (Sub.cons (s := 38) rfl (Sub.cons (s := 39) rfl (Sub.cons (s := 40) rfl (Sub.cons (s := 41) rfl (Sub.cons (s := 42) rfl (Sub.cons (s := 43) rfl (Sub.cons (s := 44) rfl (Sub.cons (s := 45) rfl (Sub.cons (s := 46) rfl (Sub.cons (s := 47) rfl (Sub.cons (s := 48) rfl (Sub.cons (s := 49) rfl (Sub.cons (s := 50) rfl (Sub.cons (s := 51) rfl (Sub.nil _))))))))))))))))))))))))))))))))))))))))))))))) (fun ρ' B' H' => ∃ (A2 : Option Addr) (c2 : Nat), ρ' = [(9, .slice A2 (if (ix * 64) < (toF now mask s.2.1 s.2.2 ix) then pad s.1 (toF now mask s.2.1 s.2.2 ix) else s.1).length c2)] ∧ B = B' ∧ row fb 102 (fcs ⟨⟨fn, now, sure, loose⟩, fb, (some ⟨bn, 0, none⟩), cn, As, cs, (some ⟨ba, 0, none⟩), cl⟩) * (sbuf 5 1 (some ⟨bn, 0, none⟩) now.length cn (u8s now) * (sbuf 5 1 As sure.length cs (u8s sure) * (sbuf 3 1 (some ⟨ba, 0, none⟩) loose.length cl (nv loose) * (row bb 3 [i64 ((s.2.1 + 1 : Nat) : Int)] * (row tb 3 [i64 tr] * (sbuf 5 1 A2 (if (ix * 64) < (toF now mask s.2.1 s.2.2 ix) then pad s.1 (toF now mask s.2.1 s.2.2 ix) else s.1).length c2 (u8s (if (ix * 64) < (toF now mask s.2.1 s.2.2 ix) then pad s.1 (toF now mask s.2.1 s.2.2 ix) else s.1)) * R)))))) = H') ?_ ?_
      · skip
        refine Cx.seq (fun K17 k17 => ?_)
        refine Cx.region ?_
        refine Lx.y (mv rfl) rfl ?_
        refine Lx.y (mv rfl) rfl ?_
        refine Lx.y (lenV (ty' := 0) Try.underlying80 rfl) rfl ?_
        refine Lx.y (gtr rfl rfl) rfl ?_
        refine Lx.y (mv rfl) rfl ?_
        refine Xx.ifD (t := 70) rfl (fun h18 => ?_) (fun h18 => ?_)
        · skip
          have g1 := h18
          refine Lx.gT rfl rfl rfl ?_
          refine Lx.y (mv rfl) rfl ?_
          refine Lx.gT rfl rfl rfl ?_
          refine Lx.y (mv rfl) rfl ?_
          refine Lx.gT rfl rfl rfl ?_
          refine Lx.y (gtr rfl rfl) rfl ?_
          refine Lx.y (pickT rfl rfl) rfl ?_
          refine Lx.nil ?_
          refine Xx.tn (k17 _ _ _ _ ?_)
          refine Cx.condD rfl (fun h19 => ?_) (fun h19 => ?_)
          · skip
            have g2 := h19
            refine Cx.region ?_
            refine Lx.y (mv rfl) rfl ?_
            refine Lx.y (mv rfl) rfl ?_
            refine Lx.y (mv rfl) rfl ?_
            refine Lx.y (lenV (ty' := 0) Try.underlying80 rfl) rfl ?_
            refine Lx.y (Yx.val (sub rfl rfl (by first | exact wrap64 (by omega) (by omega) | rfl)) (show _ = i64 (((toF now mask s.2.1 s.2.2 ix) - s.1.length : Nat) : Int) by congr 1; omega)) rfl ?_
            refine Lx.o (amS (A := A) Try.underlying80 Try.underlying3 ti5 rfl rfl (by omega) rfl (by omega) (by omega)) rfl (fun v B' H' hΦ hB => ?_)
            obtain ⟨A2, c2, rfl, hc2, hBB, rfl⟩ := hΦ
            have hBB2 := hBB.symm
            subst hBB2
            clear hB
            refine Lx.y (asg rfl) rfl ?_
            refine Lx.nil ?_
            have hfl : (ix * 64) < (toF now mask s.2.1 s.2.2 ix) := by omega
            have hpl : (pad s.1 (toF now mask s.2.1 s.2.2 ix)).length = s.1.length + ((toF now mask s.2.1 s.2.2 ix) - s.1.length) := by rw [pad_len]; omega
            exact Xx.mkK (⟨A2, c2, rfl, rfl, by rw [if_pos hfl, hpl, show u8s (pad s.1 (toF now mask s.2.1 s.2.2 ix)) = u8s s.1 ++ List.replicate ((toF now mask s.2.1 s.2.2 ix) - s.1.length) (.int .u8 0) from by unfold pad; rw [u8s_app, u8s_zero]]; simp only [star_left (sbuf 5 1 A2 _ _ _)]⟩) (Sub.consE (s := 9) rfl (by rw [if_pos hfl, hpl]) (Sub.cons (s := 0) rfl (Sub.cons (s := 1) rfl (Sub.cons (s := 2) rfl (Sub.cons (s := 3) rfl (Sub.cons (s := 8) rfl (Sub.cons (s := 11) rfl (Sub.cons (s := 12) rfl (Sub.cons (s := 13) rfl (Sub.cons (s := 14) rfl (Sub.cons (s := 15) rfl (Sub.cons (s := 16) rfl (Sub.cons (s := 17) rfl (Sub.cons (s := 18) rfl (Sub.cons (s := 19) rfl (Sub.cons (s := 20) rfl (Sub.cons (s := 21) rfl (Sub.cons (s := 22) rfl (Sub.cons (s := 23) rfl (Sub.cons (s := 24) rfl (Sub.cons (s := 25) rfl (Sub.cons (s := 26) rfl (Sub.cons (s := 27) rfl (Sub.cons (s := 28) rfl (Sub.cons (s := 29) rfl (Sub.cons (s := 30) rfl (Sub.cons (s := 31) rfl (Sub.cons (s := 32) rfl (Sub.cons (s := 33) rfl (Sub.cons (s := 34) rfl (Sub.cons (s := 35) rfl (Sub.cons (s := 36) rfl (Sub.cons (s := 37) rfl (Sub.cons (s := 38) rfl (Sub.cons (s := 39) rfl (Sub.cons (s := 40) rfl (Sub.cons (s := 41) rfl (Sub.cons (s := 42) rfl (Sub.cons (s := 43) rfl (Sub.cons (s := 44) rfl (Sub.cons (s := 45) rfl (Sub.cons (s := 46) rfl (Sub.cons (s := 47) rfl (Sub.cons (s := 48) rfl (Sub.cons (s := 49) rfl (Sub.cons (s := 50) rfl (Sub.cons (s := 51) rfl (Sub.nil _))))))))))))))))))))))))))))))))))))))))))))))))
          · skip
            have g2 := h19
            refine Cx.skip ?_
            have ho2 : (if (ix * 64) < (toF now mask s.2.1 s.2.2 ix) then pad s.1 (toF now mask s.2.1 s.2.2 ix) else s.1) = s.1 := by rw [if_neg (by omega)]
            exact Xx.mkK (⟨A, c, rfl, rfl, by rw [ho2]⟩) (Sub.consE (s := 9) rfl (by rw [ho2]) (Sub.cons (s := 0) rfl (Sub.cons (s := 1) rfl (Sub.cons (s := 2) rfl (Sub.cons (s := 3) rfl (Sub.cons (s := 8) rfl (Sub.cons (s := 11) rfl (Sub.cons (s := 12) rfl (Sub.cons (s := 13) rfl (Sub.cons (s := 14) rfl (Sub.cons (s := 15) rfl (Sub.cons (s := 16) rfl (Sub.cons (s := 17) rfl (Sub.cons (s := 18) rfl (Sub.cons (s := 19) rfl (Sub.cons (s := 20) rfl (Sub.cons (s := 21) rfl (Sub.cons (s := 22) rfl (Sub.cons (s := 23) rfl (Sub.cons (s := 24) rfl (Sub.cons (s := 25) rfl (Sub.cons (s := 26) rfl (Sub.cons (s := 27) rfl (Sub.cons (s := 28) rfl (Sub.cons (s := 29) rfl (Sub.cons (s := 30) rfl (Sub.cons (s := 31) rfl (Sub.cons (s := 32) rfl (Sub.cons (s := 33) rfl (Sub.cons (s := 34) rfl (Sub.cons (s := 35) rfl (Sub.cons (s := 36) rfl (Sub.cons (s := 37) rfl (Sub.cons (s := 38) rfl (Sub.cons (s := 39) rfl (Sub.cons (s := 40) rfl (Sub.cons (s := 41) rfl (Sub.cons (s := 42) rfl (Sub.cons (s := 43) rfl (Sub.cons (s := 44) rfl (Sub.cons (s := 45) rfl (Sub.cons (s := 46) rfl (Sub.cons (s := 47) rfl (Sub.cons (s := 48) rfl (Sub.cons (s := 49) rfl (Sub.cons (s := 50) rfl (Sub.cons (s := 51) rfl (Sub.nil _))))))))))))))))))))))))))))))))))))))))))))))))
        · skip
          have g1 := h18
          refine Lx.gF rfl rfl rfl rfl ?_
          refine Lx.gF rfl rfl rfl rfl ?_
          refine Lx.gF rfl rfl rfl rfl ?_
          refine Lx.y (pickF rfl rfl) rfl ?_
          refine Lx.nil ?_
          refine Xx.tn (k17 _ _ _ _ ?_)
          refine Cx.condF rfl ?_
          refine Cx.skip ?_
          have ho2 : (if (ix * 64) < (toF now mask s.2.1 s.2.2 ix) then pad s.1 (toF now mask s.2.1 s.2.2 ix) else s.1) = s.1 := by
            split
            · exact pad_le (by omega)
            · rfl
          exact Xx.mkK (⟨A, c, rfl, rfl, by rw [ho2]⟩) (Sub.consE (s := 9) rfl (by rw [ho2]) (Sub.cons (s := 0) rfl (Sub.cons (s := 1) rfl (Sub.cons (s := 2) rfl (Sub.cons (s := 3) rfl (Sub.cons (s := 8) rfl (Sub.cons (s := 11) rfl (Sub.cons (s := 12) rfl (Sub.cons (s := 13) rfl (Sub.cons (s := 14) rfl (Sub.cons (s := 15) rfl (Sub.cons (s := 16) rfl (Sub.cons (s := 17) rfl (Sub.cons (s := 18) rfl (Sub.cons (s := 19) rfl (Sub.cons (s := 20) rfl (Sub.cons (s := 21) rfl (Sub.cons (s := 22) rfl (Sub.cons (s := 23) rfl (Sub.cons (s := 24) rfl (Sub.cons (s := 25) rfl (Sub.cons (s := 26) rfl (Sub.cons (s := 27) rfl (Sub.cons (s := 28) rfl (Sub.cons (s := 29) rfl (Sub.cons (s := 30) rfl (Sub.cons (s := 31) rfl (Sub.cons (s := 32) rfl (Sub.cons (s := 33) rfl (Sub.cons (s := 34) rfl (Sub.cons (s := 35) rfl (Sub.cons (s := 36) rfl (Sub.cons (s := 37) rfl (Sub.cons (s := 38) rfl (Sub.cons (s := 39) rfl (Sub.cons (s := 40) rfl (Sub.cons (s := 41) rfl (Sub.cons (s := 42) rfl (Sub.cons (s := 43) rfl (Sub.cons (s := 44) rfl (Sub.cons (s := 45) rfl (Sub.cons (s := 46) rfl (Sub.cons (s := 47) rfl (Sub.cons (s := 48) rfl (Sub.cons (s := 49) rfl (Sub.cons (s := 50) rfl (Sub.cons (s := 51) rfl (Sub.nil _))))))))))))))))))))))))))))))))))))))))))))))))
      · rintro ρ' B' H' ⟨A2, c2, rfl, rfl, rfl⟩
        obtain ⟨o2, ho2⟩ : ∃ o, o = (if (ix * 64) < (toF now mask s.2.1 s.2.2 ix) then pad s.1 (toF now mask s.2.1 s.2.2 ix) else s.1) := ⟨_, rfl⟩
        have ho2l : o2.length ≤ now.length ∧ ((ix * 64) < (toF now mask s.2.1 s.2.2 ix) → (toF now mask s.2.1 s.2.2 ix) ≤ o2.length) := by
          rw [ho2]
          have := pad_len s.1 (toF now mask s.2.1 s.2.2 ix)
          split
          · exact ⟨by omega, fun _ => by omega⟩
          · exact ⟨hsn, fun h => absurd h (by assumption)⟩
        rw [← ho2]
        refine Xx.factT A2 (fun ho2x ho2c => ?_)
        refine Cx.drawn (by kernel_rfl) ?_
        refine Dx.p (i := 0) rfl (by kernel_rfl) (mv rfl) rfl ?_
        refine Dx.p (i := 1) rfl (by kernel_rfl) (mv rfl) rfl ?_
        refine Dx.p (i := 2) rfl (by kernel_rfl) (mv rfl) rfl ?_
        refine Dx.p (i := 3) rfl (by kernel_rfl) (lenV (ty' := 0) Try.underlying80 rfl) rfl ?_
        refine Dx.p (i := 4) rfl (by kernel_rfl) (minN rfl rfl) rfl ?_
        refine Dx.p (i := 5) rfl (by kernel_rfl) (sl1V (j := min (ix * 64) o2.length) Try.underlying80 sz5 rfl rfl (Int.toNat_natCast _) (by omega) (by omega)) rfl ?_
        refine Dx.p (i := 6) rfl (by kernel_rfl) (mv rfl) rfl ?_
        refine Dx.p (i := 7) rfl (by kernel_rfl) (nilc rfl) rfl ?_
        refine Dx.p (i := 8) rfl (by kernel_rfl) (fa' fo102_0 rfl) rfl ?_
        refine Dx.r (i := 9) rfl (by kernel_rfl) (Yx.val (ld Try.underlying80 rfl rfl rfl) (show _ = Value.slice (some ⟨bn, 0, none⟩) now.length cn from rfl)) rfl ?_
        refine Dx.p (i := 10) rfl (by kernel_rfl) (mv rfl) rfl ?_
        refine Dx.p (i := 11) rfl (by kernel_rfl) (mv rfl) rfl ?_
        refine Dx.p (i := 12) rfl (by kernel_rfl) (sl3V (i := (ix * 64)) (j := (toF now mask s.2.1 s.2.2 ix)) Try.underlying80 sz5 rfl rfl rfl (Int.toNat_natCast _) (Int.toNat_natCast _) (by omega) (by omega) (by omega)) rfl ?_
        refine Dx.one (i := 13) (by kernel_rfl) ?_
        refine Dstep.o (i := 13) rfl (cpS (A := A2) (n := o2.length) (k := min (ix * 64) o2.length) ((toF now mask s.2.1 s.2.2 ix) - (ix * 64)) (u8s (outF now s.1 (ix * 64) (toF now mask s.2.1 s.2.2 ix))) Try.underlying80 sz5 rfl rfl (by omega) (by have := ho2l.2; show min _ _ = _; omega) (by rw [List.length_take, List.length_drop, u8s_len]; omega) (SrcH.buf (b := bn) (f := (ix * 64)) (m := (toF now mask s.2.1 s.2.2 ix) - (ix * 64)) (by rw [u8s_len]) (by omega) hnc) (by rw [List.all_eq_true]; intro v hv; exact List.all_eq_true.1 (u8_all now) v (List.mem_of_mem_drop (List.mem_of_mem_take hv))) (by rw [ho2]; exact copy_out hsn htl.1 htl.2 rfl)) rfl (fun v B' H' hΦ hB => ?_)
        obtain ⟨rfl, hBB, rfl⟩ := hΦ
        have hBB2 := hBB.symm
        subst hBB2
        clear hB
        refine ⟨JOk.yes (JOk.top) (Yx.val (ld Try.underlying80 rfl rfl rfl) (show _ = Value.slice (some ⟨bn, 0, none⟩) now.length cn from rfl)), ?_⟩
        refine Dx.done (by kernel_rfl) ?_
        refine Xx.bn ?_
        refine Xx.tn (k8 _ _ _ _ ?_)
        have hol : (outF now s.1 (ix * 64) (toF now mask s.2.1 s.2.2 ix)).length = o2.length := by
          have := congrArg List.length (copy_out (now := now) (out := s.1) hsn htl.1 htl.2 rfl)
          rw [← ho2, u8s_len] at this
          rw [← this]
          have h9 := ho2l.2
          simp only [List.length_append, List.length_take, List.length_drop, u8s_len]
          omega
        refine Cx.region ?_
        refine Lx.y (Yx.val (add rfl rfl (by first | exact wrap64 (by omega) (by omega) | rfl)) (show _ = i64 ((j + 1 : Nat) : Int) from rfl)) rfl ?_
        refine Lx.y (mv rfl) rfl ?_
        refine Lx.nil ?_
        have e1 : (lostStep now mask s ix).1 = outF now s.1 (ix * 64) (toF now mask s.2.1 s.2.2 ix) := rfl
        have e2 : (lostStep now mask s ix).2.1 = s.2.1 + 1 := rfl
        exact Xx.againK ⟨j + 1, lostStep now mask s ix, A2, c2, ⟨by omega, by rw [foldl_step _ _ _ _ hjl, ← hs, hix], outF_len hsn htl.1, by show s.2.1 + 1 = _; omega⟩, rfl, rfl, rfl, (by rw [e1, e2, htr, hol]; simp only [star_left (sbuf 5 1 A2 _ _ _)])⟩ (by omega) (Sub.consE (s := 9) rfl (by rw [e1, hol]) (Sub.cons (s := 25) rfl (Sub.cons (s := 0) rfl (Sub.cons (s := 1) rfl (Sub.cons (s := 2) rfl (Sub.cons (s := 3) rfl (Sub.cons (s := 8) rfl (Sub.cons (s := 15) rfl (Sub.cons (s := 16) rfl (Sub.cons (s := 17) rfl (Sub.cons (s := 18) rfl (Sub.cons (s := 19) rfl (Sub.cons (s := 20) rfl (Sub.cons (s := 21) rfl (Sub.cons (s := 22) rfl (Sub.cons (s := 23) rfl (Sub.cons (s := 24) rfl (Sub.nil _))))))))))))))))))
  · skip
    obtain rfl : j = loose.length := by have h9 : ¬ (j : Int) < (loose.length : Int) := h7; omega
    rw [List.take_length] at hs
    refine Cx.exit ?_
    refine Xx.te ?_
    refine Xx.te ?_
    refine Xx.bh ?_
    refine Xx.tn (k3 _ _ _ _ ?_)
    refine Cx.seq (fun K20 k20 => ?_)
    refine Cx.region ?_
    refine Lx.y (mv rfl) rfl ?_
    refine Lx.y (asg rfl) rfl ?_
    refine Lx.nil ?_
    refine Xx.tn (k20 _ _ _ _ ?_)
    refine Cx.ret ?_
    have hs9 : s = lostF now sure loose mask bit torn := hs
    subst hs9
    exact Xx.ret1 rfl rfl ⟨rfl, A, c, rfl, rfl⟩ (Frag.le_refl _) (by ac_rfl)
end DkD
end Go.Proofs.Ytgcebieihmlaoaa
