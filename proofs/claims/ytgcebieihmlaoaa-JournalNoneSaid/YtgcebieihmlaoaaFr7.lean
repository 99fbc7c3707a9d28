/-
  A frame is found again; the law of the greatest bodies.
-/
import Derived.Test.YtgcebieihmlaoaaProg
import Derived.Test.YtgcebieihmlaoaaSlj
import Derived.Test.YtgcebieihmlaoaaFr6
namespace Go.Proofs.Ytgcebieihmlaoaa
open Go.SL Go.RowKit
set_option linter.unusedVariables false
set_option linter.unusedSimpArgs false
set_option maxRecDepth 100000
open Fr1 Fr2 Fr3 Fr4 Fr5 Fr6
namespace Fr7
theorem ti5 : TI Try.prog 5 [.int .u8 0] 1 1 := TI.of (by kernel_rfl) rfl rfl

theorem toB_nat (x : Nat) : (toB (x : Nat)).toNat = x % 256 := by
  have h : (toB ((x : Nat) : Int)).toNat = (((x : Nat) : Int) % 256).toNat % 256 := by simp [toB]
  rw [h]; omega
theorem bit_bW (b : UInt8) (i : Nat) : (bW b).getLsbD i = (decide (i < 32) && b.toNat.testBit i) := by
  unfold bW
  have : BitVec.ofInt 32 ((b.toNat : Nat) : Int) = BitVec.ofNat 32 b.toNat := by simp
  rw [this, BitVec.getLsbD_ofNat]
theorem numL_four (n : BitVec 32) (r : List UInt8) : numL (fourL n ++ r) = n := by
  have h0 : (fourL n ++ r).getD 0 0 = toB (n.toNat : Nat) := rfl
  have h1 : (fourL n ++ r).getD 1 0 = toB ((n >>> 8).toNat : Nat) := rfl
  have h2 : (fourL n ++ r).getD 2 0 = toB ((n >>> 16).toNat : Nat) := rfl
  have h3 : (fourL n ++ r).getD 3 0 = toB ((n >>> 24).toNat : Nat) := rfl
  unfold numL
  rw [h0, h1, h2, h3]
  apply BitVec.eq_of_getLsbD_eq
  intro i hi
  have hm : ∀ x j : Nat, (x % 256).testBit j = (decide (j < 8) && x.testBit j) := fun x j => Nat.testBit_mod_two_pow x 8 j
  simp only [BitVec.getLsbD_or, BitVec.getLsbD_shiftLeft, bit_bW, toB_nat, hm, BitVec.toNat_ushiftRight, Nat.testBit_shiftRight]
  have hn : n.getLsbD i = n.toNat.testBit i := rfl
  rw [hn]
  by_cases c8 : i < 8
  · simp [c8, hi, show i < 16 by omega, show i < 24 by omega]
  · by_cases c16 : i < 16
    · simp [c8, hi, c16, show i < 24 by omega, show i - 8 < 8 by omega, show i - 8 < 32 by omega, show 8 + (i - 8) = i by omega]
    · by_cases c24 : i < 24
      · simp [c8, hi, c16, c24, show ¬ i - 8 < 8 by omega, show i - 16 < 8 by omega, show i - 16 < 32 by omega, show 16 + (i - 16) = i by omega]
      · simp [c8, hi, c16, c24, show ¬ i - 8 < 8 by omega, show ¬ i - 16 < 8 by omega, show i - 24 < 8 by omega, show i - 24 < 32 by omega, show 24 + (i - 24) = i by omega]
/-- the frame at a place, by what stands from there on -/
def nextT (t : List UInt8) (a : Nat) : Option Fm :=
  if t.length < 12 then none
  else if 65536 < (numL t).toNat then none
  else if ¬ numL (t.drop 4) = crc (t.take 4) then none
  else if t.length < 12 + (numL t).toNat then none
  else some ⟨a + 12, (t.drop 12).take (numL t).toNat, decide (numL (t.drop 8) = crc ((t.drop 12).take (numL t).toNat))⟩
theorem nextF_eq (l : List UInt8) (a : Nat) (ha : a ≤ l.length) : nextF l a = nextT (l.drop a) a := by
  have e1 : (l.take (a + 4)).drop a = (l.drop a).take 4 := by rw [List.drop_take]; congr 1; omega
  have e2 : ∀ n, (l.take (a + 12 + n)).drop (a + 12) = ((l.drop a).drop 12).take n := fun n => by rw [List.drop_take, List.drop_drop]; congr 1; omega
  unfold nextF nextT
  rw [e1, e2, List.drop_drop, List.drop_drop, List.length_drop]
  have c1 : ((l.length : Int) - a < 12) ↔ (l.length - a < 12) := by omega
  have c2 : ((65536 : Int) < ((numL (l.drop a)).toNat : Nat)) ↔ (65536 < (numL (l.drop a)).toNat) := by omega
  by_cases d1 : l.length - a < 12
  · rw [if_pos (c1.2 d1), if_pos d1]
  · rw [if_neg (fun h => d1 (c1.1 h)), if_neg d1]
    by_cases d2 : 65536 < (numL (l.drop a)).toNat
    · rw [if_pos (c2.2 d2), if_pos d2]
    · rw [if_neg (fun h => d2 (c2.1 h)), if_neg d2]
      by_cases d3 : ¬ numL (l.drop (a + 4)) = crc ((l.drop a).take 4)
      · rw [if_pos d3, if_pos d3]
      · rw [if_neg d3, if_neg d3]
        by_cases d4 : l.length - a < 12 + (numL (l.drop a)).toNat
        · rw [if_pos (by omega), if_pos d4]
        · rw [if_neg (by omega), if_neg d4, List.drop_drop]
theorem nextT_frame (l q : List UInt8) (a : Nat) (hl : l.length ≤ 65536) : nextT (headL l ++ (l ++ q)) a = some ⟨a + 12, l, true⟩ := by
  generalize hn : BitVec.ofInt 32 ((l.length : Nat) : Int) = n
  have hnn : n.toNat = l.length := by rw [← hn]; simp; omega
  have hh : headL l ++ (l ++ q) = fourL n ++ (fourL (crc (fourL n)) ++ (fourL (crc l) ++ (l ++ q))) := by unfold headL; rw [hn]; simp
  have t4 : (headL l ++ (l ++ q)).take 4 = fourL n := by rw [hh]; rfl
  have d4 : (headL l ++ (l ++ q)).drop 4 = fourL (crc (fourL n)) ++ (fourL (crc l) ++ (l ++ q)) := by rw [hh]; rfl
  have d8 : (headL l ++ (l ++ q)).drop 8 = fourL (crc l) ++ (l ++ q) := by rw [hh]; rfl
  have d12 : (headL l ++ (l ++ q)).drop 12 = l ++ q := by rw [hh]; rfl
  have m0 : numL (headL l ++ (l ++ q)) = n := by rw [hh]; exact numL_four _ _
  unfold nextT
  rw [t4, d4, d8, d12, m0, numL_four, numL_four, hnn, if_neg (by simp), if_neg (by omega), if_neg (by simp), if_neg (by simp)]
  simp
theorem nextF_frame (p l q : List UInt8) (hl : l.length ≤ 65536) : nextF (p ++ (headL l ++ (l ++ q))) p.length = some ⟨p.length + 12, l, true⟩ := by
  rw [nextF_eq _ _ (by simp), List.drop_left]
  exact nextT_frame l q _ hl
theorem nextF_end (s : List UInt8) : nextF s s.length = none := by
  unfold nextF; rw [if_pos (by omega)]
theorem scan_one (l : List UInt8) (hl : l.length ≤ 65536) : scanL (headL l ++ l) = [⟨12, l, true⟩] := by
  have h1 : nextF (headL l ++ l) 0 = some ⟨12, l, true⟩ := by simpa using nextF_frame [] l [] hl
  have h2 : nextF (headL l ++ l) (12 + l.length) = none := by
    have := nextF_end (headL l ++ l)
    simpa using this
  unfold scanL
  have e1 : nx (headL l ++ l) 0 = ⟨12, l, true⟩ := by unfold nx; rw [h1]; rfl
  rw [scanF, if_pos (by rw [h1]; rfl), e1]
  obtain ⟨m, hm⟩ : ∃ m, (headL l ++ l).length = m + 1 := ⟨11 + l.length, by simp; omega⟩
  rw [hm, scanF, if_neg (by rw [h2]; simp)]
theorem and3 (n : Int) : ∃ r : Nat, r ≤ 3 ∧ bAnd .i64 n 3 = ((r : Nat) : Int) := by
  refine ⟨(BitVec.ofInt 64 n &&& BitVec.ofInt 64 3).toNat, ?_, ?_⟩
  · rw [BitVec.toNat_and]; exact Nat.and_le_right
  · have h : (BitVec.ofInt 64 n &&& BitVec.ofInt 64 3).toNat ≤ 3 := by rw [BitVec.toNat_and]; exact Nat.and_le_right
    show IntKind.i64.wrap (((BitVec.ofInt 64 n &&& BitVec.ofInt 64 3).toNat : Nat) : Int) = _
    exact wrap64 (by omega) (by omega)
theorem u8s_rep (k : Nat) : u8s (List.replicate k 0) = List.replicate k (.int .u8 0) := by simp [u8s]
theorem MakeY_ct (l : List UInt8) (B : Frag) (hl : l.length ≤ 65536) : CtP Try.prog 59 [str l] B (.tuple #[str (headL l ++ l), i64 0]) := by
  have := Make_ct l B (Nat.le_trans hl (by decide))
  unfold makeV at this
  rw [if_neg (by omega)] at this
  exact this
theorem MakeN_ct (l : List UInt8) (B : Frag) (hl : l.length ≤ 1048576) (h : 65536 < l.length) : CtP Try.prog 59 [str l] B (.tuple #[str [], i64 3]) := by
  have := Make_ct l B (Nat.le_trans hl (by decide))
  unfold makeV at this
  rw [if_pos (by omega)] at this
  exact this
theorem ScanOne_ct (l : List UInt8) (B : Frag) (hl : l.length ≤ 65536) : CtB Try.prog 58 [str (headL l ++ l)] B (fun v B' => ∃ b cs et fz c o, v = .tuple #[.slice (some ⟨b, o, none⟩) 1 c, i64 ((12 + l.length : Nat) : Int)] ∧ B' b = some (.cells (List.toArray cs) et fz) ∧ cs[o + 1]? = some (str l) ∧ cs[o + 2]? = some (.bool true) ∧ 1 ≤ c) :=
  (Scan_ct (headL l ++ l) B (by simp; omega)).mono fun v B' ⟨A, c, h1, ⟨h2, h3⟩, h4⟩ => by
    rw [scan_one l hl] at h1 h2 h3 h4
    rcases h3 with ⟨_, h3⟩ | ⟨b, o, cs, et, fz, rfl, h5, h6⟩
    · simp at h3
    · refine ⟨b, cs, et, fz, c, o, h1, h5, ?_, ?_, h4⟩
      · have := congrArg (·[1]?) h6
        simpa [flatF, List.getElem?_take, List.getElem?_drop] using this
      · have := congrArg (·[2]?) h6
        simpa [flatF, List.getElem?_take, List.getElem?_drop] using this
end Fr7
end Go.Proofs.Ytgcebieihmlaoaa
