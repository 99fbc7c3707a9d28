/-
  Texts of this seat, one behind the other: RwE, Slw, Slx, Slz, RwF, BtS, RwG, RwH, RwI, RwJ.
-/
import Derived.Test.YtdidpocakipinaaGreatDoorProg
import Derived.Deep.AppendSrc
import Derived.Lib.UnsafeStr
import Derived.Test.YtdidpocakipinaaGreatDoorMl5

/-
  An index is made.
-/
namespace Go.Proofs.YtdidpocakipinaaGreatDoor
open Go.SL Go.RowKit
set_option linter.unusedVariables false
set_option linter.unusedSimpArgs false
set_option maxRecDepth 100000
open Ke1 Ke3 Ke4 Ke5 Ke6 Ke7 Ke8 Ke9 KeA KeB KeC KeD KeE KeF KeG KeI RgA RgB BtB BtC BtD BtE BtG BtX BtH BtI BtF BtJ BtK BtL BtM BtN BtO BtR BtY BtZ DrA DrB DrC DrD DrE DrF RwA RwB RwC RwD
namespace RwE
theorem sz25 : (Tryz.prog.info? 25).map (·.size) = some 6 := by kernel_rfl
theorem sz36 : (Tryz.prog.info? 36).map (·.size) = some 8 := by kernel_rfl
theorem ti36 : TI Tryz.prog 36 [.int .u64 0, .int .u64 0, .int .i64 0, .bool false, .int .i64 0, str [], .slice none 0 0, .slice none 0 0] 8 104 := TI.of (by kernel_rfl) rfl rfl
theorem fo36_0 : FO Tryz.prog 36 0 0 1 false := FO.of Tryz.underlying36 rfl rfl (by kernel_rfl) Tryz.underlying34 rfl rfl
theorem fo36_2 : FO Tryz.prog 36 2 2 6 true := FO.of Tryz.underlying36 rfl rfl (by kernel_rfl) Tryz.underlying25 rfl rfl
theorem fo87_0 : FO Tryz.prog 87 0 0 1 false := FO.of Tryz.underlying87 rfl rfl (by kernel_rfl) Tryz.underlying82 rfl rfl
theorem fo87_2 : FO Tryz.prog 87 2 2 1 false := FO.of Tryz.underlying87 rfl rfl (by kernel_rfl) Tryz.underlying85 rfl rfl

theorem keys_snoc {g : Dc → List UInt8} {xs : List Dc} {y : Dc} (k : List UInt8) : (k = g y ∨ ∃ x ∈ xs, k = g x) ↔ ∃ x ∈ xs ++ [y], k = g x := by
  constructor
  · rintro (h | ⟨x, hx, h⟩)
    · exact ⟨y, by simp, h⟩
    · exact ⟨x, by simp [hx], h⟩
  · rintro ⟨x, hx, h⟩
    rcases List.mem_append.1 hx with hx | hx
    · exact .inr ⟨x, hx, h⟩
    · rw [List.mem_singleton.1 hx] at h; exact .inl h
theorem keys_perm {g : Dc → List UInt8} {xs ys : List Dc} (hp : xs.Perm ys) (k : List UInt8) : (∃ x ∈ xs, k = g x) ↔ ∃ x ∈ ys, k = g x :=
  ⟨fun ⟨y, hy, h⟩ => ⟨y, hp.mem_iff.1 hy, h⟩, fun ⟨y, hy, h⟩ => ⟨y, hp.mem_iff.2 hy, h⟩⟩
/-- where the tree of a field lies -/
def lookX (f : List UInt8) (xs : List Ix) : Option Addr := (xs.find? (fun x => decide (x.f = f))).map fun x => ⟨x.tb, 0, none⟩
theorem lookX_get (f : List UInt8) (xs : List Ix) : (gget f (xs.map ikv)).getD (.pointer none) = .pointer (lookX f xs) := by
  induction xs with
  | nil => rfl
  | cons x xs ih =>
    have e : gget f ((x :: xs).map ikv) = if f = x.f then some (.pointer (some ⟨x.tb, 0, none⟩)) else gget f (xs.map ikv) := rfl
    rw [e]
    unfold lookX
    by_cases h : x.f = f
    · rw [if_pos h.symm, List.find?_cons_of_pos (by simp [h])]; rfl
    · rw [if_neg (fun z => h z.symm), List.find?_cons_of_neg (by simp [h])]; exact ih
theorem lookX_none {f : List UInt8} {xs : List Ix} : (lookX f xs).isNone = decide (f ∉ xs.map (·.f)) := by
  unfold lookX
  cases h : xs.find? (fun x => decide (x.f = f)) with
  | none =>
    have := List.find?_eq_none.1 h
    refine (decide_eq_true ?_).symm
    intro hm
    obtain ⟨x, hx, e⟩ := List.mem_map.1 hm
    have := this x hx
    simp [e] at this
  | some x =>
    have h1 := List.mem_of_find?_eq_some h
    have h2 := List.find?_some h
    refine (decide_eq_false ?_).symm
    intro hm
    exact hm (List.mem_map.2 ⟨x, h1, by simpa using h2⟩)
theorem NewT_ct (B : Frag) : Ct Tryz.prog 34 [] B 1 (fun v B' H' => B' = B ∧ ∃ tb c, v = .pointer (some ⟨tb, 0, none⟩) ∧ H' = tre tb 0 c ∧ TK 0 c (fun _ => False)) := by
  refine ctTo (New_ct B) rfl ?_
  rintro v B' H' ⟨rfl, tb, c, rfl, rfl, h1, h2⟩
  exact ⟨rfl, tb, c, rfl, rfl, tk_new h1 h2 (fun _ h => h)⟩

set_option maxHeartbeats 4000000 in
theorem RAdd_ct (T : Tb) (f : List UInt8) (B : Frag) (hT : TabOk B T) (hM : MaxLenIn B) (hlen : T.ds.length ≤ 60) : Ct Tryz.prog 17 [.pointer (some ⟨T.b, 0, none⟩), str f] B (tab T) (fun r B' H' => B' = B ∧ ∃ T', r = .bool (decide (f ∉ T.xs.map (·.f))) ∧ H' = tab T' ∧ TabOk B' T' ∧ T'.b = T.b ∧ T'.ds = T.ds ∧ T'.xs.map (·.f) = if f ∈ T.xs.map (·.f) then T.xs.map (·.f) else T.xs.map (·.f) ++ [f]) := by
  refine Ct.of_body Tryz.func17 rfl (nt := 44) rfl (by kernel_rfl) rfl ?_
  intro N0 w0 R
  unfold tab
  simp only [star_assoc]
  refine Cx.seq (fun K1 k1 => ?_)
  refine Cx.region ?_
  refine Lx.y (asg rfl) rfl ?_
  refine Lx.nil ?_
  refine Xx.tn (k1 _ _ _ _ ?_)
  refine Cx.seq (fun K2 k2 => ?_)
  refine Cx.seq (fun K3 k3 => ?_)
  refine Cx.region ?_
  refine Lx.y (mv rfl) rfl ?_
  refine Lx.y (Yx.ff (eqNilP Tryz.underlying31 rfl rfl) rfl) rfl ?_
  refine Lx.y (mv rfl) rfl ?_
  refine Lx.gT rfl rfl rfl ?_
  refine Lx.y (mv rfl) rfl ?_
  refine Lx.gT rfl rfl rfl ?_
  refine Lx.y (nilc rfl) rfl ?_
  refine Lx.gT rfl rfl rfl ?_
  refine Lx.y (fa' fo87_2 rfl) rfl ?_
  refine Lx.gT rfl rfl rfl ?_
  refine Lx.y (ld Tryz.underlying85 rfl rfl rfl) rfl ?_
  refine Lx.gT rfl rfl rfl ?_
  refine Lx.y (mv rfl) rfl ?_
  refine Lx.gT rfl rfl rfl ?_
  refine Lx.y (lkL (κ := List UInt8) (k := f) MapL.own Tryz.underlying85 Tryz.underlying9 Tryz.zeroValue83 rfl rfl (lookX_get f T.xs)) rfl ?_
  refine Lx.gT rfl rfl rfl ?_
  refine Lx.y (neNilP Tryz.underlying83 rfl rfl) rfl ?_
  refine Lx.y (pickF rfl rfl) rfl ?_
  refine Lx.nil ?_
  refine Xx.tn (k3 _ _ _ _ ?_)
  refine Cx.condB rfl (fun h4 => ?_) (fun h4 => ?_)
  · skip
    have hn := h4
    have hno : decide (f ∉ T.xs.map (·.f)) = false := by rw [← lookX_none]; simpa using hn
    refine Cx.seq (fun K5 k5 => ?_)
    refine Cx.region ?_
    refine Lx.y (asg rfl) rfl ?_
    refine Lx.nil ?_
    refine Xx.tn (k5 _ _ _ _ ?_)
    refine Cx.ret ?_
    refine Xx.tr ?_
    exact Xx.ret1 rfl rfl ⟨rfl, T, by rw [hno], rfl, hT, rfl, rfl, (by rw [if_pos (by simpa using hno)])⟩ (Frag.le_refl _) (by ac_rfl)
  · skip
    have hn := h4
    have hno : decide (f ∉ T.xs.map (·.f)) = true := by rw [← lookX_none]; simpa using hn
    have hfn := of_decide_eq_true hno
    refine Cx.skip ?_
    refine Xx.tn (k2 _ _ _ _ ?_)
    refine Cx.seq (fun K6 k6 => ?_)
    refine Cx.region ?_
    refine Lx.c rfl rfl rfl (NewT_ct _) ((one_star _).symm) rfl ?_
    rintro v B1 H1 ⟨hBB, tb, c0, rfl, rfl, htk0⟩ hB1
    have hBB2 := hBB.symm
    subst hBB2
    clear hB1
    refine Lx.y (asg rfl) rfl ?_
    refine Lx.nil ?_
    refine Xx.tn (k6 _ _ _ _ ?_)
    refine Cx.seq (fun K7 k7 => ?_)
    refine Cx.seq (fun K8 k8 => ?_)
    refine Cx.region ?_
    refine Lx.y (mv rfl) rfl ?_
    refine Lx.y (nilc rfl) rfl ?_
    refine Lx.y (fa' fo87_0 rfl) rfl ?_
    refine Lx.y (ld Tryz.underlying82 rfl rfl rfl) rfl ?_
    refine Xx.openGF (κ := BitVec 64) (kv := dkv) T.db fun Z c9 hs hZ => ?_
    have hZl : Z.length = T.ds.length := by rw [← hZ, List.length_map]
    refine Lx.o (rgG (κ := BitVec 64) Tryz.underlying82 rfl) rfl (fun v B' H' hΦ hB => ?_)
    obtain ⟨it, rfl, hBB, rfl⟩ := hΦ
    have hBB2 := hBB.symm
    subst hBB2
    clear hB
    refine Lx.nil ?_
    refine Xx.tn (k8 _ _ _ _ ?_)
    refine Cx.block ?_
    refine Cx.loopK (Sub.cons (s := 0) rfl (Sub.cons (s := 1) rfl (Sub.cons (s := 4) rfl (Sub.cons (s := 5) rfl (Sub.cons (s := 8) rfl (Sub.cons (s := 9) rfl (Sub.cons (s := 10) rfl (Sub.cons (s := 11) rfl (Sub.cons (s := 12) rfl (Sub.cons (s := 13) rfl (Sub.cons (s := 14) rfl (Sub.cons (s := 15) rfl (Sub.cons (s := 16) rfl (Sub.cons (s := 17) rfl (Sub.cons (s := 18) rfl (Sub.cons (s := 19) rfl (Sub.cons (s := 20) rfl (Sub.cons (s := 21) rfl (Sub.cons (s := 22) rfl (Sub.cons (s := 23) rfl (Sub.cons (s := 24) rfl (Sub.nil _)))))))))))))))))))))) (fun m ρ' B' H' => ∃ (dz : List (Dc × Nat)) (d3 : Nat) (c3 : C), (GVisF Z dz ∧ TK d3 c3 (fun k => ∃ x ∈ dz.map (·.1), k = keyD f x)) ∧ m = Z.length - dz.length ∧ ρ' = [] ∧ B = B' ∧ blk it (gitObj T.db c9 (dz.map (gz dkv))) * (blk T.db (gObj (Z.map (gz dkv)) c9) * (tre tb d3 c3 * (tre T.ob T.od T.oc * (gmap T.xb (T.xs.map ikv) * (ixs T.xs * (rowT T * R)))))) = H') ⟨[], 0, c0, ⟨GVisF.nil Z, htk0.congr (fun k => by simp)⟩, rfl, rfl, rfl, by ac_rfl⟩ (Sub.cons (s := 0) rfl (Sub.cons (s := 1) rfl (Sub.cons (s := 4) rfl (Sub.cons (s := 5) rfl (Sub.cons (s := 8) rfl (Sub.cons (s := 9) rfl (Sub.cons (s := 10) rfl (Sub.cons (s := 11) rfl (Sub.cons (s := 12) rfl (Sub.cons (s := 13) rfl (Sub.cons (s := 14) rfl (Sub.cons (s := 15) rfl (Sub.cons (s := 16) rfl (Sub.cons (s := 17) rfl (Sub.cons (s := 18) rfl (Sub.cons (s := 19) rfl (Sub.cons (s := 20) rfl (Sub.cons (s := 21) rfl (Sub.cons (s := 22) rfl (Sub.cons (s := 23) rfl (Sub.cons (s := 24) rfl (Sub.nil _)))))))))))))))))))))) ?_
    rintro m ρ' B' H' ⟨dz, d3, c3, ⟨hv, htk⟩, rfl, rfl, rfl, rfl⟩
    refine Cx.seq (fun K9 k9 => ?_)
    refine Cx.region ?_
    refine Lx.o (nxGF hs hv rfl) rfl (fun v B' H' hΦ hB => ?_)
    obtain ⟨o, dz2, rfl, ha, hBB, rfl⟩ := hΦ
    have hBB2 := hBB.symm
    subst hBB2
    clear hB
    refine Lx.y (ext rfl (gnx0 _)) rfl ?_
    refine Lx.nil ?_
    refine Xx.tn (k9 _ _ _ _ ?_)
    refine Cx.seq (fun K10 k10 => ?_)
    refine Cx.condB rfl (fun h11 => ?_) (fun h11 => ?_)
    · skip
      obtain ⟨z, rfl⟩ : ∃ z, o = some z := by
        cases o with
        | none => exact absurd h11 (by simp)
        | some z => exact ⟨z, rfl⟩
      obtain ⟨rfl, hzZ, hzn⟩ := ha
      have hv2 := hv.step hzZ hzn
      have hvl := hv2.len
      rw [List.length_append, List.length_singleton] at hvl
      have hlx := htk.len
      rw [List.length_map] at hlx
      have hzx : z.1 ∈ T.ds := by rw [← hZ]; exact List.mem_map.2 ⟨z, hzZ, rfl⟩
      obtain ⟨Ap, cp, An, cn, hsh⟩ := cells_shape (hT.docs _ hzx)
      obtain ⟨hval, hchk, hbyt⟩ := hT.docs _ hzx
      rw [show z.1.cs = vcs z.1.v Ap cp An cn by unfold Dc.cells at hsh; injection hsh with _ h8; injection h8] at hval
      refine Cx.skip ?_
      refine Xx.tn (k10 _ _ _ _ ?_)
      refine Cx.block ?_
      refine Cx.seq (fun K12 k12 => ?_)
      refine Cx.region ?_
      refine Lx.y (entGF hs hzZ rfl) rfl ?_
      refine Lx.y (ext rfl rfl) rfl ?_
      refine Lx.new (allocO ti36) rfl (fun b7 => ?_)
      refine Lx.st (stA (d := .bool) (cs' := z.1.cells) sz36 rfl rfl (by rw [hsh]; rfl) (by rw [hsh]; rfl) (by rw [hsh]; show 0 + 8 ≤ 8; omega) (st_all rfl (by rw [hsh]; rfl))) ?_
      refine Lx.nil ?_
      refine Xx.tn (k12 _ _ _ _ ?_)
      refine Cx.drawn (by kernel_rfl) ?_
      refine Dx.p (i := 0) rfl (by kernel_rfl) (mv rfl) rfl ?_
      refine Dx.p (i := 1) rfl (by kernel_rfl) (fa' fo36_2 rfl) rfl ?_
      refine Dx.r (i := 2) rfl (by kernel_rfl) (ldA Tryz.underlying25 rfl sz25 rfl (Cells.own (n := 6) PickB.eq (show (z.1.cells.drop 2).take 6 = vcs z.1.v Ap cp An cn by rw [hsh]; rfl)) rfl) rfl ?_
      refine Dx.p (i := 3) rfl (by kernel_rfl) (mv rfl) rfl ?_
      refine Dx.p (i := 5) rfl (by kernel_rfl) (fa' fo36_0 rfl) rfl ?_
      refine Dx.r (i := 6) rfl (by kernel_rfl) (ld Tryz.underlying34 rfl rfl rfl) rfl ?_
      refine Dx.one (i := 4) (by kernel_rfl) ?_
      refine Dstep.o (i := 4) rfl (Ox.cb rfl rfl rfl (RgA.Get_ct 2 z.1.v f 1 _ _ hval hchk)) rfl (fun v B' H' hΦ hB => ?_)
      obtain ⟨rfl, hΦ⟩ := hΦ
      obtain ⟨hBB, cs9, rfl, hg9⟩ := hΦ
      have hBB2 := hBB.symm
      subst hBB2
      clear hB
      refine ⟨JOk.yes (JOk.edge (JOk.top) (by kernel_rfl)) (ld Tryz.underlying34 rfl rfl rfl), ?_⟩
      refine Dx.one (i := 7) (by kernel_rfl) ?_
      refine Dstep.o (i := 7) rfl (Ox.cb rfl rfl rfl (Pair_ct 3 (getV z.1.v f) z.1.n _ _ hg9 hM (by have h9 : (bytesF 3 (getV z.1.v f)).length ≤ (bytesF 4 z.1.v).length + 1 := getV_bytes (d := 2) f hchk; omega))) rfl (fun v B' H' hΦ hB => ?_)
      obtain ⟨rfl, rfl, hBB⟩ := hΦ; have hBB2 := hBB.symm; subst hBB2; clear hB
      refine ⟨JOk.edge (JOk.yes (JOk.top) (ldA Tryz.underlying25 rfl sz25 rfl (Cells.own (n := 6) PickB.eq (show (z.1.cells.drop 2).take 6 = vcs z.1.v Ap cp An cn by rw [hsh]; rfl)) rfl)) (by kernel_rfl), ?_⟩
      refine Dx.one (i := 8) (by kernel_rfl) ?_
      refine Dstep.o (i := 8) rfl (Ox.call rfl rfl rfl (PutT_ct d3 c3 tb (keyF 3 (getV z.1.v f) ++ numL z.1.n) _ htk (by omega)) (Pick.eq)) rfl (fun v B' H' hΦ hB => ?_)
      obtain ⟨_, rfl, hΦ⟩ := hΦ
      obtain ⟨hBB, d4, c4, t4, rfl, rfl, htk4⟩ := hΦ
      have hBB2 := hBB.symm
      subst hBB2
      clear hB
      skip
      refine ⟨JOk.yes (JOk.yes (JOk.top) (ldA Tryz.underlying25 rfl sz25 rfl (Cells.own (n := 6) PickB.eq (show (z.1.cells.drop 2).take 6 = vcs z.1.v Ap cp An cn by rw [hsh]; rfl)) rfl)) (ld Tryz.underlying34 rfl rfl rfl), ?_⟩
      refine Dx.done (by kernel_rfl) ?_
      refine Xx.bn ?_
      refine Xx.dropB b7 ?_
      exact Xx.againK ⟨dz ++ [z], d4, c4, ⟨hv2, htk4.congr (fun k => by rw [List.map_append, List.map_singleton]; exact keys_snoc (g := keyD f) (y := z.1) k)⟩, rfl, rfl, rfl, (by ac_rfl)⟩ (by rw [List.length_append, List.length_singleton]; omega) (Sub.cons (s := 0) rfl (Sub.cons (s := 1) rfl (Sub.cons (s := 4) rfl (Sub.cons (s := 5) rfl (Sub.cons (s := 8) rfl (Sub.cons (s := 9) rfl (Sub.cons (s := 10) rfl (Sub.cons (s := 11) rfl (Sub.cons (s := 12) rfl (Sub.cons (s := 13) rfl (Sub.cons (s := 14) rfl (Sub.cons (s := 15) rfl (Sub.cons (s := 16) rfl (Sub.cons (s := 17) rfl (Sub.cons (s := 18) rfl (Sub.cons (s := 19) rfl (Sub.cons (s := 20) rfl (Sub.cons (s := 21) rfl (Sub.cons (s := 22) rfl (Sub.cons (s := 23) rfl (Sub.cons (s := 24) rfl (Sub.nil _))))))))))))))))))))))
    · skip
      obtain rfl : o = none := by
        cases o with
        | none => rfl
        | some z => exact absurd h11 (by simp)
      obtain ⟨rfl, hall⟩ := ha
      have hp := hv.all hs hall
      rw [hZ] at hp
      refine Cx.exit ?_
      refine Xx.te ?_
      refine Xx.te ?_
      refine Xx.bh ?_
      refine Xx.tn (k7 _ _ _ _ ?_)
      refine Cx.seq (fun K13 k13 => ?_)
      refine Xx.dropB it (Xx.closeGF (κ := BitVec 64) T.db hs hZ ?_)
      refine Cx.region ?_
      refine Lx.y (mv rfl) rfl ?_
      refine Lx.y (nilc rfl) rfl ?_
      refine Lx.y (fa' fo87_2 rfl) rfl ?_
      refine Lx.y (ld Tryz.underlying85 rfl rfl rfl) rfl ?_
      refine Lx.y (mv rfl) rfl ?_
      refine Lx.y (mv rfl) rfl ?_
      refine Lx.o0 (stG (κ := List UInt8) (k := f) (v := .pointer (some ⟨tb, 0, none⟩)) Tryz.underlying85 Tryz.underlying9 rfl rfl rfl) (fun v B' H' hΦ hB => ?_)
      obtain ⟨hBB, rfl⟩ := hΦ
      have hBB2 := hBB.symm
      subst hBB2
      clear hB
      rw [show gset f (Value.pointer (some ⟨tb, 0, none⟩)) (T.xs.map ikv) = (T.xs ++ [(⟨f, tb, d3, c3⟩ : Ix)]).map ikv from gset_new (kv := ikv) (ky := fun x => x.f) (x := ⟨f, tb, d3, c3⟩) ikv_k (fun y hy e => hfn (List.mem_map.2 ⟨y, hy, e⟩))]
      refine Lx.nil ?_
      refine Xx.tn (k13 _ _ _ _ ?_)
      refine Cx.seq (fun K14 k14 => ?_)
      refine Cx.region ?_
      refine Lx.y (asg rfl) rfl ?_
      refine Lx.nil ?_
      refine Xx.tn (k14 _ _ _ _ ?_)
      refine Cx.ret ?_
      exact Xx.ret1 rfl rfl ⟨rfl, ⟨T.b, T.db, T.xb, T.ob, T.od, T.oc, T.ds, T.xs ++ [(⟨f, tb, d3, c3⟩ : Ix)]⟩, by rw [hno], rfl, ⟨hT.docs, hT.nd, hT.ord, by rw [List.map_append, List.nodup_append]; exact ⟨hT.nf, by simp, fun a ha b hb e => by rw [List.map_singleton, List.mem_singleton] at hb; subst hb; exact hfn (e ▸ ha)⟩, fun x hx => by rcases List.mem_append.1 hx with h9 | h9; exact hT.idx x h9; rw [List.mem_singleton.1 h9]; exact htk.congr (keys_perm hp)⟩, rfl, rfl, by rw [if_neg hfn, List.map_append]; rfl⟩ (Frag.le_refl _) (by rw [ixs_app]; simp only [ixs, star_one]; ac_rfl)
end RwE
end Go.Proofs.YtdidpocakipinaaGreatDoor

/-
  max of two numbers; zeros put behind a buffer; copy into a buffer's part, and out of one.
-/
namespace Go.SL
open Go.RowKit
set_option linter.unusedVariables false
set_option linter.unusedSimpArgs false
section
variable {P : Program} {ρ : Sl} {S : World → Prop} {ty t t2 : TypeId} {x y : Operand} {v : Value}
end
section
variable {e : Env} {ds : List Deferred} {ρ : Sl} {B : Frag} {H R : HP} {t tx et et' ty tyx : TypeId} {x y : Operand} {nl nd c nx cx : Nat} {xs news : List Value} {A Ax : Option Addr} {z : Value} {bytes : Nat}
end
end Go.SL

/-
  A text put behind a buffer, or over a part of it.
-/
namespace Go.SL
open Go.RowKit
set_option linter.unusedVariables false
set_option linter.unusedSimpArgs false
section
variable {e : Env} {ds : List Deferred} {ρ : Sl} {B : Frag} {H R : HP} {t tx et ty : TypeId} {x y : Operand}
end
section
variable {e : Env} {ds : List Deferred} {ρ : Sl} {B : Frag} {H R : HP} {t tx et et' ty tyx : TypeId} {x y : Operand} {nl nd c : Nat} {xs news : List Value} {A : Option Addr} {l : List UInt8}
end
end Go.SL

/-
  The bytes of a slice as a text without a copy: the slice is let go.
-/
namespace Go.SL
open Go.RowKit
set_option linter.unusedVariables false
set_option linter.unusedSimpArgs false
section
variable {P : Program} {ρ : Sl} {S : World → Prop} {ty t t2 et : TypeId} {x y : Operand} {A : Option Addr} {n c : Nat}
variable {e : Env} {ds : List Deferred} {B : Frag} {H R : HP} {l : List UInt8}
end
end Go.SL

/-
  A table that is only read; a document got; how many there are; the number that a key ends with.
-/
namespace Go.Proofs.YtdidpocakipinaaGreatDoor
open Go.SL Go.RowKit
set_option linter.unusedVariables false
set_option linter.unusedSimpArgs false
set_option maxRecDepth 100000
open Ke1 Ke3 Ke4 Ke5 Ke6 Ke7 Ke8 Ke9 KeA KeB KeC KeD KeE KeF KeG KeI RgA RgB BtB BtC BtD BtE BtG BtX BtH BtI BtF BtJ BtK BtL BtM BtN BtO BtR BtY BtZ DrA DrB DrC DrD DrE DrF RwA RwB RwC RwD RwE
namespace RwF
theorem sz25 : (Tryz.prog.info? 25).map (·.size) = some 6 := by kernel_rfl
theorem sz36 : (Tryz.prog.info? 36).map (·.size) = some 8 := by kernel_rfl
theorem ti36 : TI Tryz.prog 36 [.int .u64 0, .int .u64 0, .int .i64 0, .bool false, .int .i64 0, str [], .slice none 0 0, .slice none 0 0] 8 104 := TI.of (by kernel_rfl) rfl rfl
theorem fo36_2 : FO Tryz.prog 36 2 2 6 true := FO.of Tryz.underlying36 rfl rfl (by kernel_rfl) Tryz.underlying25 rfl rfl
theorem fo87_0 : FO Tryz.prog 87 0 0 1 false := FO.of Tryz.underlying87 rfl rfl (by kernel_rfl) Tryz.underlying82 rfl rfl

def treB (B : Frag) (tb d : Nat) (c : C) : Prop := (∃ fz, B tb = some (.cells [pt c, i64 ((io (d + 1) c).length : Nat)].toArray 115 fz)) ∧ TrB B (d + 1) c
/-- a table that is only read -/
def RtB (B : Frag) (T : Tb) : Prop :=
  (∃ fz, B T.b = some (.cells [.map (some T.db), .pointer (some ⟨T.ob, 0, none⟩), .map (some T.xb)].toArray 87 fz)) ∧
  (∃ M c, GStp M c ∧ gkvs M = T.ds.map dkv ∧ B T.db = some (gObj M c)) ∧
  (∃ M c, GStp M c ∧ gkvs M = T.xs.map ikv ∧ B T.xb = some (gObj M c)) ∧
  treB B T.ob T.od T.oc ∧ ∀ x ∈ T.xs, treB B x.tb x.d x.c
theorem treB.mono {B B' : Frag} (hB : B.le B') {tb d : Nat} {c : C} (h : treB B tb d c) : treB B' tb d c := ⟨let ⟨fz, h1⟩ := h.1; ⟨fz, hB _ _ h1⟩, h.2.mono hB⟩
theorem RtB.mono {B B' : Frag} (hB : B.le B') {T : Tb} (h : RtB B T) : RtB B' T := by
  obtain ⟨⟨fz, h1⟩, ⟨M, c, h2, h3, h4⟩, ⟨M', c', h5, h6, h7⟩, h8, h9⟩ := h
  exact ⟨⟨fz, hB _ _ h1⟩, ⟨M, c, h2, h3, hB _ _ h4⟩, ⟨M', c', h5, h6, hB _ _ h7⟩, h8.mono hB, fun x hx => (h9 x hx).mono hB⟩
theorem tre_ro {B k : Frag} {tb d : Nat} {c : C} (hok : Ok 90 (d + 1) c) (h : tre tb d c k) (ha : k.apart B) : treB (Frag.un B k) tb d c := by
  obtain ⟨k1, m1, d1, e1, h1, h2⟩ := h
  have l1 := un_le (B := B) e1 d1
  exact ⟨⟨(0, 0), l1.1 _ _ (row_ro h1 (ap_left ha e1))⟩, (tr_ro _ _ _ h2 (ap_right ha e1 d1) hok.fit).mono l1.2⟩
theorem ixs_ro {B : Frag} : ∀ (xs : List Ix) (k : Frag), ixs xs k → k.apart B → (∀ x ∈ xs, Ok 90 (x.d + 1) x.c) → ∀ x ∈ xs, treB (Frag.un B k) x.tb x.d x.c := by
  intro xs
  induction xs with
  | nil => intro k _ _ _ x hx; cases hx
  | cons y xs ih =>
    rintro k ⟨k1, k2, hd, e, h1, h2⟩ ha hf x hx
    have hl := un_le (B := B) e hd
    rcases List.mem_cons.1 hx with rfl | hx
    · exact (tre_ro (hf x (by simp)) h1 (ap_left ha e)).mono hl.1
    · exact (ih k2 h2 (ap_right ha e hd) (fun q hq => hf q (by simp [hq])) x hx).mono hl.2
theorem map_ro {κ : Type} [DecidableEq κ] [MKey κ] {B k : Frag} {b : Nat} {l : List (κ × Value)} (h : gmap b l k) (ha : k.apart B) : ∃ M c, GStp M c ∧ gkvs M = l ∧ Frag.un B k b = some (gObj M c) := by
  obtain ⟨T, c, hs, hl, hb⟩ := h
  have e : k = Frag.one b (gObj T c) := hb
  subst e
  exact ⟨T, c, hs, hl, Frag.un_right ha (by simp [Frag.one])⟩
/-- a table lent -/
theorem tab_ro {B B0 k : Frag} {T : Tb} (hT : TabOk B0 T) (h : tab T k) (ha : k.apart B) : RtB (Frag.un B k) T := by
  obtain ⟨k1, m1, d1, e1, h1, k2, m2, d2, e2, h2, k3, m3, d3, e3, h3, k4, m4, d4, e4, h4, h5⟩ := h
  have a1 := ap_right ha e1 d1
  have a2 := ap_right a1 e2 d2
  have a3 := ap_right a2 e3 d3
  have l1 := un_le (B := B) e1 d1
  have l2 := un_le (B := B) e2 d2
  have l3 := un_le (B := B) e3 d3
  have l4 := un_le (B := B) e4 d4
  obtain ⟨M, c, g1, g2, g3⟩ := map_ro h2 (ap_left a1 e2)
  obtain ⟨M', c', g4, g5, g6⟩ := map_ro h4 (ap_left a3 e4)
  refine ⟨⟨(0, 0), l1.1 _ _ (row_ro h1 (ap_left ha e1))⟩, ⟨M, c, g1, g2, l1.2 _ _ (l2.1 _ _ g3)⟩, ⟨M', c', g4, g5, l1.2 _ _ (l2.2 _ _ (l3.2 _ _ (l4.1 _ _ g6)))⟩, ?_, fun x hx => ?_⟩
  · exact (tre_ro hT.ord.1.1 h3 (ap_left a2 e3)).mono (Frag.le_trans l3.1 (Frag.le_trans l2.2 l1.2))
  · exact (ixs_ro T.xs _ h5 (ap_right a3 e4 d4) (fun y hy => (hT.idx y hy).1.1) x hx).mono (Frag.le_trans l4.2 (Frag.le_trans l3.2 (Frag.le_trans l2.2 l1.2)))
theorem V0_val {B : Frag} : ValR B 4 V0 (vcs V0 none 0 none 0) := V0_R (d := 3)
theorem V0_byt : (bytesF 4 V0).length ≤ 1024 := by
  have : bytesF 4 V0 = [toB 0] := by unfold bytesF; rw [if_neg (by decide), if_neg (by decide), if_neg (by decide), if_neg (by decide)]; rfl
  rw [this]; decide
/-- what is got: the document, or nothing -/
theorem look_ok {B : Frag} (n : BitVec 64) {ds : List Dc} (h : ∀ d ∈ ds, DOk B d) (hn : (ds.map (·.n)).Nodup) : ∃ d0 : Dc, lookD n ds = d0.cells ∧ DOk B d0 ∧ (∀ d ∈ ds, d.n = n → d0 = d) ∧ ((¬ ∃ d ∈ ds, d.n = n) → d0.n = 0 ∧ d0.v = V0) := by
  by_cases hx : ∃ d ∈ ds, d.n = n
  · obtain ⟨d, hd, e, hl⟩ := look_some hx
    exact ⟨d, hl, h d hd, fun d' hd' e' => map_inj (·.n) hn hd hd' (e.trans e'.symm), fun hno => (hno hx).elim⟩
  · exact ⟨⟨0, 0, V0, vcs V0 none 0 none 0⟩, look_none hx, ⟨V0_val, V0_check (by decide), V0_byt⟩, fun d hd e => (hx ⟨d, hd, e⟩).elim, fun _ => ⟨rfl, rfl⟩⟩

set_option maxHeartbeats 2000000 in
theorem RGet_ro (T : Tb) (n : BitVec 64) (B : Frag) (hT : TabOk B T) (hR : RtB B T) : CtB Tryz.prog 15 [.pointer (some ⟨T.b, 0, none⟩), u64 n] B (fun r B' => ∃ d0 : Dc, r = .tuple #[.agg d0.cells.toArray, .bool (decide (∃ d ∈ T.ds, d.n = n))] ∧ (∀ d ∈ T.ds, d.n = n → d0.n = d.n ∧ d0.ver = d.ver ∧ d0.v = d.v) ∧ DOk B' d0) := by
  obtain ⟨hlk1, hlk2⟩ := look_get n T.ds
  obtain ⟨d0, hd0, hok0, hsame0, hnone0⟩ := look_ok n hT.docs hT.nd
  obtain ⟨Ap, cp, An, cn, hsh⟩ := cells_shape hok0
  obtain ⟨hval, hchk, hbyt⟩ := hok0
  rw [show d0.cs = vcs d0.v Ap cp An cn by unfold Dc.cells at hsh; injection hsh with _ h8; injection h8] at hval
  obtain ⟨⟨fz, hrow⟩, ⟨Md, cd, hsd, hld, hBd⟩, _⟩ := hR
  refine CtB.of_body Tryz.func15 rfl (nt := 26) rfl (by kernel_rfl) rfl ?_
  intro N0 w0 R
  refine Cx.seq (fun K1 k1 => ?_)
  refine Cx.region ?_
  refine Lx.new (allocO ti36) rfl (fun b4 => ?_)
  refine Lx.y (asg rfl) rfl ?_
  refine Lx.nil ?_
  refine Xx.tn (k1 _ _ _ _ ?_)
  refine Cx.seq (fun K2 k2 => ?_)
  refine Cx.seq (fun K3 k3 => ?_)
  refine Cx.region ?_
  refine Lx.y (mv rfl) rfl ?_
  refine Lx.y (Yx.ff (eqNilP Tryz.underlying31 rfl rfl) rfl) rfl ?_
  refine Lx.nil ?_
  refine Xx.tn (k3 _ _ _ _ ?_)
  refine Cx.condF rfl ?_
  refine Cx.skip ?_
  refine Xx.tn (k2 _ _ _ _ ?_)
  refine Cx.seq (fun K4 k4 => ?_)
  refine Cx.region ?_
  refine Lx.y (mv rfl) rfl ?_
  refine Lx.y (nilc rfl) rfl ?_
  refine Lx.y (fa' fo87_0 rfl) rfl ?_
  refine Lx.y (ldB Tryz.underlying82 rfl rfl hrow rfl) rfl ?_
  refine Lx.y (mv rfl) rfl ?_
  refine Lx.y (lkL2 (κ := BitVec 64) (k := n) (MapL.ro hBd hsd hld) Tryz.underlying82 Tryz.underlying34 Tryz.zeroValue36 rfl rfl hlk1 hlk2) rfl ?_
  refine Lx.y (mv rfl) rfl ?_
  refine Lx.y (ext rfl rfl) rfl ?_
  refine Lx.y (ext rfl rfl) rfl ?_
  refine Lx.new (allocO ti36) rfl (fun b6 => ?_)
  refine Lx.st (stA (d := .bool) (cs' := d0.cells) sz36 rfl (show _ = some (Value.agg d0.cells.toArray) by rw [← hd0]; rfl) (by rw [hsh]; rfl) (by rw [hsh]; rfl) (by rw [hsh]; show 0 + 8 ≤ 8; omega) (st_all rfl (by rw [hsh]; rfl))) ?_
  refine Lx.y (asg rfl) rfl ?_
  refine Lx.nil ?_
  refine Xx.tn (k4 _ _ _ _ ?_)
  refine Cx.seq (fun K5 k5 => ?_)
  refine Cx.region ?_
  refine Lx.y (fa' fo36_2 rfl) rfl ?_
  refine Lx.y (ldA Tryz.underlying25 rfl sz25 rfl (Cells.own (n := 6) PickB.eq (show (d0.cells.drop 2).take 6 = vcs d0.v Ap cp An cn by rw [hsh]; rfl)) rfl) rfl ?_
  refine Lx.cb rfl rfl rfl (Clone_ct 4 d0.v _ 1 _ hval hchk) rfl ?_
  rintro r2 B5 ⟨cs2, rfl, hval2⟩ hB5
  obtain ⟨Ap2, cp2, An2, cn2, rfl⟩ := ValR.shape hval2
  refine Lx.y (fa' fo36_2 rfl) rfl ?_
  refine Lx.st (stA (d := .bool) (cs' := u64 d0.n :: u64 d0.ver :: vcs d0.v Ap2 cp2 An2 cn2) sz25 rfl rfl rfl rfl (by rw [hsh]; show 2 + 6 ≤ 8; omega) (by rw [hsh]; rfl)) ?_
  refine Lx.nil ?_
  refine Xx.tn (k5 _ _ _ _ ?_)
  refine Cx.seq (fun K7 k7 => ?_)
  refine Cx.region ?_
  refine Lx.y (ldA Tryz.underlying36 rfl sz36 rfl (Cells.own (n := 8) PickB.eq (show ((u64 d0.n :: u64 d0.ver :: vcs d0.v Ap2 cp2 An2 cn2).drop 0).take 8 = u64 d0.n :: u64 d0.ver :: vcs d0.v Ap2 cp2 An2 cn2 from rfl)) rfl) rfl ?_
  refine Lx.y (mv rfl) rfl ?_
  refine Lx.st (stA (d := .bool) (cs' := u64 d0.n :: u64 d0.ver :: vcs d0.v Ap2 cp2 An2 cn2) sz36 rfl rfl rfl rfl (by show 0 + 8 ≤ 8; omega) rfl) ?_
  refine Lx.y (asg rfl) rfl ?_
  refine Lx.nil ?_
  refine Xx.tn (k7 _ _ _ _ ?_)
  refine Cx.ret ?_
  refine Xx.dropB b6 ?_
  exact Xx.rBc rfl Tryz.underlying36 rfl sz36 rfl rfl rfl ⟨⟨d0.n, d0.ver, d0.v, vcs d0.v Ap2 cp2 An2 cn2⟩, rfl, fun d hd hn => (by rw [hsame0 d hd hn]; exact ⟨rfl, rfl, rfl⟩), hval2, hchk, hbyt⟩ hB5

set_option maxHeartbeats 1000000 in
theorem RLen_ro (T : Tb) (B : Frag) (hR : RtB B T) : CtP Tryz.prog 20 [.pointer (some ⟨T.b, 0, none⟩)] B (i64 ((T.ds.length : Nat) : Int)) := by
  obtain ⟨⟨fz, hrow⟩, ⟨Md, cd, hsd, hld, hBd⟩, _⟩ := hR
  refine CtB.of_body Tryz.func20 rfl (nt := 10) rfl (by kernel_rfl) rfl ?_
  intro N0 w0 R
  refine Cx.seq (fun K1 k1 => ?_)
  refine Cx.region ?_
  refine Lx.y (asg rfl) rfl ?_
  refine Lx.nil ?_
  refine Xx.tn (k1 _ _ _ _ ?_)
  refine Cx.seq (fun K2 k2 => ?_)
  refine Cx.seq (fun K3 k3 => ?_)
  refine Cx.region ?_
  refine Lx.y (mv rfl) rfl ?_
  refine Lx.y (Yx.ff (eqNilP Tryz.underlying31 rfl rfl) rfl) rfl ?_
  refine Lx.nil ?_
  refine Xx.tn (k3 _ _ _ _ ?_)
  refine Cx.condF rfl ?_
  refine Cx.skip ?_
  refine Xx.tn (k2 _ _ _ _ ?_)
  refine Cx.seq (fun K4 k4 => ?_)
  refine Cx.region ?_
  refine Lx.y (mv rfl) rfl ?_
  refine Lx.y (nilc rfl) rfl ?_
  refine Lx.y (fa' fo87_0 rfl) rfl ?_
  refine Lx.y (ldB Tryz.underlying82 rfl rfl hrow rfl) rfl ?_
  refine Lx.y (Yx.val (lenL (MapL.ro hBd hsd hld) Tryz.underlying82 rfl) (show _ = i64 ((T.ds.length : Nat) : Int) by rw [List.length_map])) rfl ?_
  refine Lx.y (asg rfl) rfl ?_
  refine Lx.nil ?_
  refine Xx.tn (k4 _ _ _ _ ?_)
  refine Cx.ret ?_
  exact Xx.rB1 rfl rfl ⟨rfl, rfl⟩ (Frag.le_refl _) rfl
end RwF
end Go.Proofs.YtdidpocakipinaaGreatDoor

/-
  The keys of a tree that are in a span: the walk of the iterator, and of what counts them.
-/
namespace Go.Proofs.YtdidpocakipinaaGreatDoor
open Go.SL Go.RowKit
set_option linter.unusedVariables false
set_option linter.unusedSimpArgs false
set_option maxRecDepth 100000
open Ke1 Ke3 Ke4 Ke5 Ke6 Ke7 Ke8 Ke9 KeA KeB KeC KeD KeE KeF KeG KeI RgA BtB BtC BtD BtE BtG BtH BtI BtF BtJ BtK BtL BtM BtN BtQ BtR BtX
namespace BtS
theorem sz48 : (Tryz.prog.info? 48).map (·.size) = some 2 := by kernel_rfl
theorem fo48_0 : FO Tryz.prog 48 0 0 1 false := FO.of Tryz.underlying48 rfl rfl (by kernel_rfl) Tryz.underlying9 rfl rfl
theorem fo48_1 : FO Tryz.prog 48 1 1 1 false := FO.of Tryz.underlying48 rfl rfl (by kernel_rfl) Tryz.underlying9 rfl rfl
theorem fo115_0 : FO Tryz.prog 115 0 0 1 false := FO.of Tryz.underlying115 rfl rfl (by kernel_rfl) Tryz.underlying110 rfl rfl

theorem From_it : ∀ (d : Nat) (nd : C) (lo : Str8) (b1 b2 : Nat) (B : Frag), TrB B d nd → Ok 90 d nd → Ord (io d nd) → FromIt d nd lo b1 b2 B := by
  intro d
  induction d with
  | zero => intro nd lo b1 b2 B h; exact h.elim
  | succ d ih => intro nd lo b1 b2 B h1 h2 h3; exact From_step d (fun nd lo b1 b2 B => ih nd lo b1 b2 B) nd lo b1 b2 B h1 h2 h3
def hasB (lo hi k : Str8) : Bool := !bless k lo && (decide (hi = []) || bless k hi)
def inS (lo hi : Str8) (l : List (Str8 × Str8)) : List (Str8 × Str8) := l.filter fun p => hasB lo hi p.1
theorem inS_from (lo hi : Str8) (l : List (Str8 × Str8)) : inS lo hi (fromL lo l) = inS lo hi l := by
  unfold inS fromL
  rw [List.filter_filter]
  refine congrArg (fun f => List.filter f l) (funext fun p => ?_)
  unfold hasB
  cases bless p.1 lo <;> simp
theorem inS_app (lo hi : Str8) (a b : List (Str8 × Str8)) : inS lo hi (a ++ b) = inS lo hi a ++ inS lo hi b := List.filter_append ..
theorem inS_all {lo hi : Str8} {l : List (Str8 × Str8)} (h : ∀ p ∈ l, hasB lo hi p.1 = true) : inS lo hi l = l := List.filter_eq_self.2 h
theorem inS_cons {lo hi : Str8} {p : Str8 × Str8} {l : List (Str8 × Str8)} (h : hasB lo hi p.1 = true) : inS lo hi (p :: l) = p :: inS lo hi l := by
  unfold inS; simp [List.filter_cons, h]
/-- behind the first key that is not in the span there is none -/
theorem inS_stop {lo hi : Str8} {x : Str8 × Str8} {post : List (Str8 × Str8)} (ho : Ord (x :: post)) (hx : bless x.1 lo = false) (hn : hasB lo hi x.1 = false) : inS lo hi (x :: post) = [] := by
  unfold inS
  rw [List.filter_eq_nil_iff]
  obtain ⟨h1, _⟩ := List.pairwise_cons.1 ho
  have hh : decide (hi = []) = false ∧ bless x.1 hi = false := by
    unfold hasB at hn
    rw [hx] at hn
    simpa using hn
  intro p hp
  rcases List.mem_cons.1 hp with rfl | hp
  · rw [hn]; decide
  · unfold hasB
    rw [hh.1]
    cases hb : bless p.1 hi with
    | false => simp
    | true => have := bless_trans (h1 p hp) hb; rw [hh.2] at this; cases this
theorem ord_from {lo : Str8} {l : List (Str8 × Str8)} (h : Ord l) : Ord (fromL lo l) := List.Pairwise.filter _ h
theorem from_mem {lo : Str8} {l : List (Str8 × Str8)} {p : Str8 × Str8} (h : p ∈ fromL lo l) : bless p.1 lo = false := by
  have := (List.mem_filter.1 h).2; simpa using this

set_option maxHeartbeats 1000000 in
theorem Has_ct (lo hi k : Str8) (B : Frag) : CtP Tryz.prog 89 [.agg [str lo, str hi].toArray, str k] B (.bool (hasB lo hi k)) := by
  refine CtB.of_body Tryz.func89 rfl (nt := 20) rfl (by kernel_rfl) rfl ?_
  intro N0 w0 R
  refine Cx.seq (fun K1 k1 => ?_)
  refine Cx.region ?_
  refine Lx.new (boxA rfl) rfl (fun b2 => ?_)
  refine Lx.y (asg rfl) rfl ?_
  refine Lx.nil ?_
  refine Xx.tn (k1 _ _ _ _ ?_)
  refine Cx.seq (fun K2 k2 => ?_)
  refine Cx.region ?_
  refine Lx.y (mv rfl) rfl ?_
  refine Lx.y (fa' fo48_0 rfl) rfl ?_
  refine Lx.y (ld Tryz.underlying9 rfl rfl rfl) rfl ?_
  refine Lx.y (geqS rfl rfl) rfl ?_
  refine Lx.y (mv rfl) rfl ?_
  refine Xx.ifB (t := 9) rfl (fun h3 => ?_) (fun h3 => ?_)
  · skip
    have g1 := h3
    refine Lx.gT rfl rfl rfl ?_
    refine Lx.y (fa' fo48_1 rfl) rfl ?_
    refine Lx.gT rfl rfl rfl ?_
    refine Lx.y (ld Tryz.underlying9 rfl rfl rfl) rfl ?_
    refine Lx.gT rfl rfl rfl ?_
    refine Lx.y (eqS rfl rfl) rfl ?_
    refine Lx.gT rfl rfl rfl ?_
    refine Lx.y (mv rfl) rfl ?_
    refine Xx.ifD (t := 13) rfl (fun h4 => ?_) (fun h4 => ?_)
    · skip
      have g2 := h4
      refine Lx.gF rfl rfl rfl rfl ?_
      refine Lx.gF rfl rfl rfl rfl ?_
      refine Lx.gF rfl rfl rfl rfl ?_
      refine Lx.gF rfl rfl rfl rfl ?_
      refine Lx.gT rfl rfl rfl ?_
      refine Lx.y (pickT rfl rfl) rfl ?_
      refine Lx.y (pickT rfl rfl) rfl ?_
      refine Lx.y (asg rfl) rfl ?_
      refine Lx.nil ?_
      refine Xx.tn (k2 _ _ _ _ ?_)
      refine Cx.ret ?_
      exact Xx.dropB b2 (Xx.rB1 rfl rfl ⟨congrArg Value.bool (by unfold hasB; simp_all), rfl⟩ (Frag.le_refl _) rfl)
    · skip
      have g2 := h4
      refine Lx.gT rfl rfl rfl ?_
      refine Lx.y (mv rfl) rfl ?_
      refine Lx.gT rfl rfl rfl ?_
      refine Lx.y (fa' fo48_1 rfl) rfl ?_
      refine Lx.gT rfl rfl rfl ?_
      refine Lx.y (ld Tryz.underlying9 rfl rfl rfl) rfl ?_
      refine Lx.gT rfl rfl rfl ?_
      refine Lx.y (lssS rfl rfl) rfl ?_
      refine Lx.gT rfl rfl rfl ?_
      refine Lx.y (pickF rfl rfl) rfl ?_
      refine Lx.y (pickT rfl rfl) rfl ?_
      refine Lx.y (asg rfl) rfl ?_
      refine Lx.nil ?_
      refine Xx.tn (k2 _ _ _ _ ?_)
      refine Cx.ret ?_
      exact Xx.dropB b2 (Xx.rB1 rfl rfl ⟨congrArg Value.bool (by unfold hasB; simp_all), rfl⟩ (Frag.le_refl _) rfl)
  · skip
    have g1 := h3
    refine Lx.gF rfl rfl rfl rfl ?_
    refine Lx.gF rfl rfl rfl rfl ?_
    refine Lx.gF rfl rfl rfl rfl ?_
    refine Lx.gF rfl rfl rfl rfl ?_
    refine Lx.gU rfl rfl rfl rfl ?_
    refine Lx.gU rfl rfl rfl rfl ?_
    refine Lx.gU rfl rfl rfl rfl ?_
    refine Lx.gU rfl rfl rfl rfl ?_
    refine Lx.gF rfl rfl rfl rfl ?_
    refine Lx.y (pickF rfl rfl) rfl ?_
    refine Lx.y (asg rfl) rfl ?_
    refine Lx.nil ?_
    refine Xx.tn (k2 _ _ _ _ ?_)
    refine Cx.ret ?_
    exact Xx.dropB b2 (Xx.rB1 rfl rfl ⟨congrArg Value.bool (by unfold hasB; simp_all), rfl⟩ (Frag.le_refl _) rfl)

set_option maxHeartbeats 4000000 in
theorem Range_it (d : Nat) (nd : C) (tb : Nat) (n : Int) (fz : Nat × Nat) (lo hi : Str8) (B : Frag) (hT : B tb = some (.cells [pt nd, i64 n].toArray 115 fz)) (hR : TrB B (d + 1) nd) (hok : Ok 90 (d + 1) nd) (ho : Ord (io (d + 1) nd)) (b1 b2 : Nat) (h1 : B b1 = some (.cells [.pointer (some ⟨tb, 0, none⟩)].toArray 83 (0, 0))) (h2 : B b2 = some (.cells [str lo, str hi].toArray 48 (0, 0))) : It Tryz.prog 87 [.pointer (some ⟨b1, 0, none⟩), .pointer (some ⟨b2, 0, none⟩)] kv (inS lo hi (io (d + 1) nd)) B 1 := by
  refine ⟨Go.SL.enters_of Tryz.func87 rfl (by kernel_rfl), fun lp J Jx hy Bz Hz hBz hJ0 => ?_⟩
  have h1 := hBz _ _ h1
  have h2 := hBz _ _ h2
  have hT := hBz _ _ hT
  have hR2 := hR.mono hBz
  have hxs0 := inS_from lo hi (io (d + 1) nd)
  refine Ct.of_bodyM Tryz.func87 rfl (nt := 28) rfl (by kernel_rfl) rfl ?_
  intro N0 w0 R
  rw [one_star]
  refine Cx.seq (fun K1 k1 => ?_)
  refine Cx.region ?_
  refine Lx.new (boxO rfl rfl) rfl (fun b3 => ?_)
  refine Lx.nil ?_
  refine Xx.tn (k1 _ _ _ _ ?_)
  refine Cx.seq (fun K2 k2 => ?_)
  refine Cx.seq (fun K3 k3 => ?_)
  refine Cx.region ?_
  refine Lx.y (ldB Tryz.underlying83 rfl rfl (by first | exact h1 | exact hB _ _ h1) rfl) rfl ?_
  refine Lx.y (Yx.ff (eqNilP Tryz.underlying83 rfl rfl) rfl) rfl ?_
  refine Lx.nil ?_
  refine Xx.tn (k3 _ _ _ _ ?_)
  refine Cx.condF rfl ?_
  refine Cx.skip ?_
  refine Xx.tn (k2 _ _ _ _ ?_)
  refine Cx.seq (fun K4 k4 => ?_)
  refine Cx.drawn (by kernel_rfl) ?_
  refine Dx.r (i := 0) rfl (by kernel_rfl) (ldB Tryz.underlying83 rfl rfl (by first | exact h1 | exact hB _ _ h1) rfl) rfl ?_
  refine Dx.p (i := 1) rfl (by kernel_rfl) (nilc rfl) rfl ?_
  refine Dx.p (i := 2) rfl (by kernel_rfl) (fa' fo115_0 rfl) rfl ?_
  refine Dx.r (i := 3) rfl (by kernel_rfl) (ldB Tryz.underlying110 rfl rfl (by first | exact hT | exact hB _ _ hT) rfl) rfl ?_
  refine Dx.p (i := 4) rfl (by kernel_rfl) (fa' fo48_0 rfl) rfl ?_
  refine Dx.r (i := 5) rfl (by kernel_rfl) (ldB Tryz.underlying9 rfl rfl (by first | exact h2 | exact hB _ _ h2) rfl) rfl ?_
  refine Dx.one (i := 6) (by kernel_rfl) ?_
  refine Dstep.o (i := 6) rfl (Ox.call rfl rfl rfl (From_ct nd lo _) ((one_star _).symm)) rfl (fun v B' H' hΦ hB => ?_)
  obtain ⟨_, rfl, hΦ⟩ := hΦ
  obtain ⟨hBB, b4, b5, rfl, rfl⟩ := hΦ
  have hBB2 := hBB.symm
  subst hBB2
  refine ⟨JOk.edge (JOk.edge (JOk.yes (JOk.top) (ldB Tryz.underlying83 rfl rfl (by first | exact h1 | exact hB _ _ h1) rfl)) (by kernel_rfl)) (by kernel_rfl), ?_⟩
  refine Dx.done (by kernel_rfl) ?_
  refine Xx.tn (k4 _ _ _ _ ?_)
  refine Cx.block ?_
  refine Cx.rangeK (σ := _) (Sub.cons (s := 2) rfl (Sub.cons (s := 3) rfl (Sub.nil _))) rfl rfl (From_it (d + 1) nd lo b4 b5 Bz hR2 hok ho) (show _ = (row b4 110 [pt nd] * row b5 9 [str lo]) * ((row b3 89 [.func (.yield lp) #[] #[]] * Hz) * R) by ac_rfl) rfl (fun _ => rfl) (fun pre B' H' => ∃ Hj, J pre B' Hj ∧ (∀ p ∈ pre, hasB lo hi p.1 = true) ∧ H' = row b3 89 [.func (.yield lp) #[] #[]] * Hj) (fun cd pre B' H' => cd = .ret ∧ ∃ Hj, H' = row b3 89 [.func (.yield lp) #[] #[]] * Hj ∧ (J (inS lo hi (io (d + 1) nd)) B' Hj ∨ ∃ pre post, (inS lo hi (io (d + 1) nd)) = pre ++ post ∧ Jx pre B' Hj)) (fun pre x B1 ρ' B' H' => ∃ Hj, ρ' = [(4, str x.1), (5, str x.2)] ∧ B' = B1 ∧ J pre B' Hj ∧ (∀ p ∈ pre, hasB lo hi p.1 = true) ∧ H' = row b3 89 [.func (.yield lp) #[] #[]] * Hj) (⟨Hz, hJ0, fun _ hp => absurd hp List.not_mem_nil, rfl⟩) ?_ ?_ ?_ ?_
  · rintro lz Nz wz pre x post B1 H1 F K hxs hB1 hJ hK
    obtain ⟨Hj, hJj, hall, rfl⟩ := hJ
    refine Cx.seq (fun K5 k5 => ?_)
    refine Cx.region ?_
    refine Lx.y (asg rfl) rfl ?_
    refine Lx.nil ?_
    refine Xx.tn (k5 _ _ _ _ ?_)
    refine Cx.region ?_
    refine Lx.y (asg rfl) rfl ?_
    refine Lx.nil ?_
    refine Xx.tn ?_
    exact Xx.sub (hK _ _ _ ⟨Hj, rfl, rfl, hJj, hall, rfl⟩ (Frag.le_refl _)) (Sub.cons (s := 4) rfl (Sub.cons (s := 5) rfl (Sub.cons (s := 2) rfl (Sub.cons (s := 3) rfl (Sub.nil _)))))
  · rintro lz Nz wz pre x post B1 F ρ' B' H' hxs hB1 hBx hAS
    obtain ⟨Hj, rfl, hBB, hJj, hall, rfl⟩ := hAS
    subst hBB
    rename Frag => B6
    clear hBx
    simp only [star_assoc]
    have hb2 := hB1 _ _ h2
    have hxp : (inS lo hi (io (d + 1) nd)) = pre ++ inS lo hi (x :: post) := by rw [← hxs0, hxs, inS_app, inS_all hall]
    have hox : Ord (x :: post) := by have := ord_from (lo := lo) ho; rw [hxs] at this; exact Ord.right this
    have hxl : bless x.1 lo = false := from_mem (l := (io (d + 1) nd)) (by rw [hxs]; simp)
    refine Cx.block ?_
    refine Cx.seq (fun K6 k6 => ?_)
    refine Cx.region ?_
    refine Lx.y (ldA Tryz.underlying48 rfl sz48 rfl (Cells.base (n := 2) hb2 rfl) rfl) rfl ?_
    refine Lx.y (mv rfl) rfl ?_
    refine Lx.cp rfl rfl rfl (Has_ct lo hi x.1 _) rfl ?_
    refine Lx.y (not' rfl) rfl ?_
    refine Lx.y (mv rfl) rfl ?_
    refine Xx.ifB (t := 21) rfl (fun h7 => ?_) (fun h7 => ?_)
    · skip
      have hout : hasB lo hi x.1 = false := by simpa using h7
      refine Lx.gF rfl rfl rfl rfl ?_
      refine Lx.gF rfl rfl rfl rfl ?_
      refine Lx.gF rfl rfl rfl rfl ?_
      refine Lx.gF rfl rfl rfl rfl ?_
      refine Lx.gF rfl rfl rfl rfl ?_
      refine Lx.y (pickT rfl rfl) rfl ?_
      refine Lx.nil ?_
      refine Xx.tn (k6 _ _ _ _ ?_)
      refine Cx.condT rfl ?_
      refine Cx.ret ?_
      refine Xx.br ?_
      exact Xx.rqr ⟨rfl, Hj, rfl, .inl (by rw [hxp, inS_stop hox hxl hout, List.append_nil]; exact hJj)⟩ (Frag.le_refl _) (by ac_rfl)
    · skip
      have hin : hasB lo hi x.1 = true := by simpa using h7
      refine Lx.gT rfl rfl rfl ?_
      refine Lx.y (ld Tryz.underlying89 rfl rfl rfl) rfl ?_
      refine Lx.gT rfl rfl rfl ?_
      refine Lx.y (mv rfl) rfl ?_
      refine Lx.gT rfl rfl rfl ?_
      refine Lx.y (mv rfl) rfl ?_
      refine Lx.gT rfl rfl rfl ?_
      refine Lx.yield rfl rfl (hy pre x (inS lo hi post) B6 Hj (by rw [hxp, inS_cons hin]) (Frag.le_trans hBz hB1) hJj) (star_left _ _ _) rfl ?_
      rintro t B7 H7 hΦ hB7
      refine Lx.gT rfl rfl rfl ?_
      refine Lx.y (not' rfl) rfl ?_
      refine Lx.y (pickF rfl rfl) rfl ?_
      refine Lx.nil ?_
      refine Xx.tn (k6 _ _ _ _ ?_)
      refine Cx.condB rfl (fun h8 => ?_) (fun h8 => ?_)
      · skip
        obtain ⟨_, hΦ⟩ : t = false ∧ Jx (pre ++ [x]) B7 H7 := by simpa [show t = false by simpa using h8] using hΦ
        refine Cx.ret ?_
        refine Xx.br ?_
        exact Xx.rqr ⟨rfl, _, rfl, .inr ⟨_, inS lo hi post, by rw [hxp, inS_cons hin]; simp, hΦ⟩⟩ hB7 (by ac_rfl)
      · skip
        obtain ⟨_, hΦ⟩ : t = true ∧ J (pre ++ [x]) B7 H7 := by simpa [show t = true by simpa using h8] using hΦ
        refine Cx.skip ?_
        refine Xx.bn ?_
        exact Xx.rqn ⟨_, hΦ, fun p hp => by rcases List.mem_append.1 hp with h | h; exact hall p h; rw [List.mem_singleton.1 h]; exact hin, rfl⟩ hB7 (by ac_rfl)
  · rintro D B' H' hBx hJ
    obtain ⟨Hc, hJc, hall, rfl⟩ := hJ
    simp only [star_assoc]
    refine Xx.dropB b4 (Xx.dropB b5 ?_)
    refine Xx.bn ?_
    refine Xx.dropB b3 ?_
    exact Xx.eM [D] rfl (fun a w f _ => results_none rfl _ _ _) ⟨Hc, (one_star _).symm, .inl (by rw [← hxs0, inS_all hall]; exact hJc)⟩ hBx (by rw [marks_cons, marks_nil, star_one]; ac_rfl)
  · rintro D c pre post B' H' hxs hBx hJx
    obtain ⟨rfl, Hc, rfl, hJc⟩ := hJx
    simp only [star_assoc]
    refine Cx.ret ?_
    refine Xx.br ?_
    refine Xx.dropB b3 (Xx.dropB b4 (Xx.dropB b5 ?_))
    exact Xx.rM (Ds := [D]) (fun a w f _ => results_none rfl _ _ _) ⟨Hc, (one_star _).symm, hJc⟩ hBx (by rw [marks_cons, marks_nil, star_one]; ac_rfl)
end BtS
end Go.Proofs.YtdidpocakipinaaGreatDoor

/-
  The documents of an index, in order: what hands them out.
-/
namespace Go.Proofs.YtdidpocakipinaaGreatDoor
open Go.SL Go.RowKit
set_option linter.unusedVariables false
set_option linter.unusedSimpArgs false
set_option maxRecDepth 100000
open Ke1 Ke3 Ke4 Ke5 Ke6 Ke7 Ke8 Ke9 KeA KeB KeC KeD KeE KeF KeG KeI RgA RgB BtB BtC BtD BtE BtG BtX BtH BtI BtF BtJ BtK BtL BtM BtN BtO BtR BtY BtZ DrA DrB DrC DrD DrE DrF RwA RwB BtQ BtS RwC RwD RwE RwF
namespace RwG
theorem sz5 : (Tryz.prog.info? 5).map (·.size) = some 1 := by kernel_rfl
theorem sz9 : (Tryz.prog.info? 9).map (·.size) = some 1 := by kernel_rfl
theorem sz25 : (Tryz.prog.info? 25).map (·.size) = some 6 := by kernel_rfl
theorem sz36 : (Tryz.prog.info? 36).map (·.size) = some 8 := by kernel_rfl
theorem sz48 : (Tryz.prog.info? 48).map (·.size) = some 2 := by kernel_rfl
theorem ti48 : TI Tryz.prog 48 [str [], str []] 2 32 := TI.of (by kernel_rfl) rfl rfl
theorem fo87_1 : FO Tryz.prog 87 1 1 1 false := FO.of Tryz.underlying87 rfl rfl (by kernel_rfl) Tryz.underlying83 rfl rfl
theorem fo87_2 : FO Tryz.prog 87 2 2 1 false := FO.of Tryz.underlying87 rfl rfl (by kernel_rfl) Tryz.underlying85 rfl rfl
theorem pl48 : PL Tryz.prog 48 [(0, 1), (1, 1)] := PL.of Tryz.underlying48 (by kernel_rfl)

theorem num_step (n : BitVec 64) {i : Nat} (h : i < 8) : ((n >>> (8 * (8 - i))) <<< 8) ||| BitVec.ofInt 64 (((numB n i).toNat : Nat) : Int) = n >>> (8 * (7 - i)) := by
  obtain ⟨k, hk⟩ : ∃ k, k = 8 * (7 - i) := ⟨_, rfl⟩
  rw [show 8 * (8 - i) = k + 8 by omega, ← hk]
  unfold numB
  rw [← hk]
  have e : (toB (((n >>> k).toNat : Nat) : Int)).toNat = (n >>> k).toNat % 2 ^ 8 := by
    unfold toB
    rw [UInt8.toNat_ofNat']
    omega
  rw [e, BitVec.ofInt_natCast]
  apply BitVec.eq_of_getLsbD_eq
  intro j hj
  simp only [BitVec.getLsbD_or, BitVec.getLsbD_shiftLeft, BitVec.getLsbD_ushiftRight, BitVec.getLsbD_ofNat, Nat.testBit_mod_two_pow, BitVec.toNat_ushiftRight, Nat.testBit_shiftRight, hj, decide_true, Bool.true_and]
  by_cases hj8 : j < 8
  · simp [hj8, BitVec.getLsbD]
  · simp [hj8, show k + 8 + (j - 8) = k + j by omega]
theorem num_zero (n : BitVec 64) : n >>> (8 * (8 - 0)) = 0 := by
  apply BitVec.eq_of_toNat_eq
  rw [BitVec.toNat_ushiftRight, Nat.shiftRight_eq_div_pow]
  have := n.isLt
  simp; omega

theorem num_cell {n : BitVec 64} {i c : Nat} (h : i < 8) : (cells (numL n) c)[0 + i * 1]? = some (.int .u8 (((numB n i).toNat : Nat) : Int)) := by
  rw [cells_get (by simpa using h)]
  unfold numL
  simp [List.getD, h]

set_option maxHeartbeats 1000000 in
theorem number_ct (p : List UInt8) (n : BitVec 64) (B : Frag) (hp : p.length ≤ 4611686018427387904) : CtP Tryz.prog 70 [str (p ++ numL n)] B (u64 n) := by
  have hl : (p ++ numL n).length = p.length + 8 := by simp
  have hdr : (p ++ numL n).drop p.length = numL n := List.drop_left
  refine CtB.of_body Tryz.func70 rfl (nt := 24) rfl (by kernel_rfl) rfl ?_
  intro N0 w0 R
  refine Cx.seq (fun K1 k1 => ?_)
  refine Cx.region ?_
  refine Lx.y (asg rfl) rfl ?_
  refine Lx.nil ?_
  refine Xx.tn (k1 _ _ _ _ ?_)
  refine Cx.seq (fun K2 k2 => ?_)
  refine Cx.region ?_
  refine Lx.y (asg rfl) rfl ?_
  refine Lx.nil ?_
  refine Xx.tn (k2 _ _ _ _ ?_)
  refine Cx.seq (fun K3 k3 => ?_)
  refine Cx.seq (fun K4 k4 => ?_)
  refine Cx.region ?_
  refine Lx.y (mv rfl) rfl ?_
  refine Lx.y (mv rfl) rfl ?_
  refine Lx.y (lenS Tryz.underlying9 rfl) rfl ?_
  refine Lx.y (Yx.val (sub rfl rfl (show IntKind.i64.wrap _ = ((p.length : Nat) : Int) by rw [wrap64 (by rw [hl]; omega) (by rw [hl]; omega), hl]; omega)) (show _ = i64 ((p.length : Nat) : Int) from rfl)) rfl ?_
  refine Lx.y (Yx.val (sl1S Tryz.underlying9 rfl rfl (Int.toNat_natCast _) (by omega) (by rw [hl]; omega)) (show _ = str (numL n) by rw [hdr])) rfl ?_
  refine Lx.o (s2bO Tryz.underlying9 Tryz.underlying106 Tryz.underlying5 rfl) rfl (fun v B' H' hΦ hB => ?_)
  obtain ⟨b9, c9, rfl, hc9, hBB, rfl⟩ := hΦ
  subst hBB
  rename Frag => B
  clear hB
  refine Lx.y (Yx.val (lenV (ty' := 0) Tryz.underlying106 rfl) (show _ = i64 ((8 : Nat) : Int) from rfl)) rfl ?_
  refine Lx.y (mv rfl) rfl ?_
  refine Lx.nil ?_
  refine Xx.tn (k4 _ _ _ _ ?_)
  refine Cx.block ?_
  refine Cx.loopK (Sub.cons (s := 0) rfl (Sub.cons (s := 2) rfl (Sub.cons (s := 6) rfl (Sub.cons (s := 7) rfl (Sub.cons (s := 8) rfl (Sub.cons (s := 9) rfl (Sub.cons (s := 10) rfl (Sub.cons (s := 11) rfl (Sub.cons (s := 12) rfl (Sub.nil _)))))))))) (fun m ρ' B' H' => ∃ (i : Nat), (i ≤ 8) ∧ m = 8 - i ∧ ρ' = [(3, u64 (n >>> (8 * (8 - i)))), (13, i64 i)] ∧ B = B' ∧ blk b9 (.cells (cells (numL n) c9).toArray 5 (c9, c9 + 1)) * R = H') ⟨0, Nat.zero_le _, rfl, rfl, rfl, rfl⟩ (Sub.consE (s := 3) rfl (by rw [num_zero]; rfl) (Sub.cons (s := 13) rfl (Sub.cons (s := 0) rfl (Sub.cons (s := 2) rfl (Sub.cons (s := 6) rfl (Sub.cons (s := 7) rfl (Sub.cons (s := 8) rfl (Sub.cons (s := 9) rfl (Sub.cons (s := 10) rfl (Sub.cons (s := 11) rfl (Sub.cons (s := 12) rfl (Sub.nil _)))))))))))) ?_
  rintro m ρ' B' H' ⟨i, hi, rfl, rfl, rfl, rfl⟩
  refine Cx.seq (fun K5 k5 => ?_)
  refine Cx.region ?_
  refine Lx.y (lss rfl rfl) rfl ?_
  refine Lx.nil ?_
  refine Xx.tn (k5 _ _ _ _ ?_)
  refine Cx.seq (fun K6 k6 => ?_)
  refine Cx.condD rfl (fun h7 => ?_) (fun h7 => ?_)
  · skip
    have hi8 := h7
    have hi8 : i < 8 := by omega
    refine Cx.skip ?_
    refine Xx.tn (k6 _ _ _ _ ?_)
    refine Cx.seq (fun K8 k8 => ?_)
    refine Cx.block ?_
    refine Cx.seq (fun K9 k9 => ?_)
    refine Cx.region ?_
    refine Lx.y (ia Tryz.underlying106 sz5 rfl rfl (Int.toNat_natCast _) (by omega) (by show ((i : Nat) : Int) < ((numL n).length : Nat); rw [numL_len]; omega)) rfl ?_
    refine Lx.y (ld (v := .int .u8 (((numB n i).toNat : Nat) : Int)) Tryz.underlying5 rfl rfl (num_cell hi8)) rfl ?_
    refine Lx.y (asg rfl) rfl ?_
    refine Lx.nil ?_
    refine Xx.tn (k9 _ _ _ _ ?_)
    refine Cx.region ?_
    refine Lx.y (mv rfl) rfl ?_
    refine Lx.y (shlW64 (c := 8) rfl rfl rfl) rfl ?_
    refine Lx.y (mv rfl) rfl ?_
    refine Lx.y (cvW64 rfl Tryz.underlying5 Tryz.underlying34) rfl ?_
    refine Lx.y (orW64 rfl rfl) rfl ?_
    refine Lx.y (asg rfl) rfl ?_
    refine Lx.nil ?_
    refine Xx.bn ?_
    refine Xx.tn (k8 _ _ _ _ ?_)
    refine Cx.region ?_
    refine Lx.y (Yx.val (add rfl rfl (by first | exact wrap64 (by omega) (by omega) | rfl)) (show _ = i64 ((i + 1 : Nat) : Int) from rfl)) rfl ?_
    refine Lx.y (mv rfl) rfl ?_
    refine Lx.nil ?_
    exact Xx.againK ⟨i + 1, by omega, rfl, rfl, rfl, rfl⟩ (by omega) (Sub.consE (s := 3) rfl (by rw [show 8 * (8 - (i + 1)) = 8 * (7 - i) by omega]; exact congrArg u64 (num_step n hi8)) (Sub.cons (s := 13) rfl (Sub.cons (s := 0) rfl (Sub.cons (s := 2) rfl (Sub.cons (s := 6) rfl (Sub.cons (s := 7) rfl (Sub.cons (s := 8) rfl (Sub.cons (s := 9) rfl (Sub.cons (s := 10) rfl (Sub.cons (s := 11) rfl (Sub.cons (s := 12) rfl (Sub.nil _))))))))))))
  · skip
    have hi8 := h7
    obtain rfl : i = 8 := by omega
    refine Cx.exit ?_
    refine Xx.te ?_
    refine Xx.te ?_
    refine Xx.bh ?_
    refine Xx.tn (k3 _ _ _ _ ?_)
    refine Cx.seq (fun K10 k10 => ?_)
    refine Cx.region ?_
    refine Lx.y (mv rfl) rfl ?_
    refine Lx.y (asg rfl) rfl ?_
    refine Lx.nil ?_
    refine Xx.tn (k10 _ _ _ _ ?_)
    refine Cx.ret ?_
    refine Xx.dropB b9 ?_
    exact Xx.rB1 rfl rfl ⟨by rw [show 8 * (8 - 8) = 0 from rfl]; rfl, rfl⟩ (Frag.le_refl _) rfl

/-- what docsOf hands back -/
def DoV (B : Frag) (rp tp : Option Addr) (lo hi : List UInt8) (v : Value) : Prop := ∃ b1 b2 b3, v = .func (.func 68) #[] [.pointer (some ⟨b1, 0, none⟩), .pointer (some ⟨b2, 0, none⟩), .pointer (some ⟨b3, 0, none⟩)].toArray ∧ B b1 = some (.cells [.pointer rp].toArray 31 (0, 0)) ∧ B b2 = some (.cells [.pointer tp].toArray 83 (0, 0)) ∧ B b3 = some (.cells [str lo, str hi].toArray 48 (0, 0))

set_option maxHeartbeats 1000000 in
theorem docsOf_ct (rp tp : Option Addr) (lo hi : List UInt8) (B : Frag) : CtB Tryz.prog 43 [.pointer rp, .pointer tp, .agg [str lo, str hi].toArray] B (fun v B' => DoV B' rp tp lo hi v) := by
  refine CtB.of_body Tryz.func43 rfl (nt := 8) rfl (by kernel_rfl) rfl ?_
  intro N0 w0 R
  refine Cx.seq (fun K1 k1 => ?_)
  refine Cx.region ?_
  refine Lx.new (boxO rfl rfl) rfl (fun b1 => ?_)
  refine Lx.new (boxO rfl rfl) rfl (fun b2 => ?_)
  refine Lx.new (boxA rfl) rfl (fun b3 => ?_)
  refine Lx.y (asg rfl) rfl ?_
  refine Lx.nil ?_
  refine Xx.tn (k1 _ _ _ _ ?_)
  refine Cx.seq (fun K2 k2 => ?_)
  refine Cx.region ?_
  refine Lx.y (mkf rfl rfl) rfl ?_
  refine Lx.y (asg rfl) rfl ?_
  refine Lx.nil ?_
  refine Xx.tn (k2 _ _ _ _ ?_)
  refine Cx.ret ?_
  refine Xx.freezeB b1 fun B2 hB2 hb1 => ?_
  refine Xx.freezeB b2 fun B3 hB3 hb2 => ?_
  refine Xx.freezeB b3 fun B4 hB4 hb3 => ?_
  exact Xx.rB1 rfl rfl ⟨b1, b2, b3, rfl, hB4 _ _ (hB3 _ _ hb1), hB4 _ _ hb2, hb3⟩ (Frag.le_trans hB2 (Frag.le_trans hB3 hB4)) rfl

set_option maxHeartbeats 1000000 in
theorem RRange_ro (T : Tb) (f lo hi : List UInt8) (B : Frag) (hR : RtB B T) : CtB Tryz.prog 19 [.pointer (some ⟨T.b, 0, none⟩), str f, .agg [str lo, str hi].toArray] B (fun v B' => DoV B' (some ⟨T.b, 0, none⟩) (lookX f T.xs) lo hi v) := by
  obtain ⟨⟨fz, hrow⟩, _, ⟨Mx, cx, hsx, hlx, hBx⟩, _⟩ := hR
  refine CtB.of_body Tryz.func19 rfl (nt := 18) rfl (by kernel_rfl) rfl ?_
  intro N0 w0 R
  refine Cx.seq (fun K1 k1 => ?_)
  refine Cx.region ?_
  refine Lx.new (boxA rfl) rfl (fun b0 => ?_)
  refine Lx.y (asg rfl) rfl ?_
  refine Lx.nil ?_
  refine Xx.tn (k1 _ _ _ _ ?_)
  refine Cx.seq (fun K2 k2 => ?_)
  refine Cx.seq (fun K3 k3 => ?_)
  refine Cx.region ?_
  refine Lx.y (mv rfl) rfl ?_
  refine Lx.y (Yx.ff (eqNilP Tryz.underlying31 rfl rfl) rfl) rfl ?_
  refine Lx.nil ?_
  refine Xx.tn (k3 _ _ _ _ ?_)
  refine Cx.condF rfl ?_
  refine Cx.skip ?_
  refine Xx.tn (k2 _ _ _ _ ?_)
  refine Cx.seq (fun K4 k4 => ?_)
  refine Cx.drawn (by kernel_rfl) ?_
  refine Dx.p (i := 0) rfl (by kernel_rfl) (mv rfl) rfl ?_
  refine Dx.p (i := 1) rfl (by kernel_rfl) (mv rfl) rfl ?_
  refine Dx.p (i := 2) rfl (by kernel_rfl) (nilc rfl) rfl ?_
  refine Dx.p (i := 3) rfl (by kernel_rfl) (fa' fo87_2 rfl) rfl ?_
  refine Dx.r (i := 4) rfl (by kernel_rfl) (ldB Tryz.underlying85 rfl rfl (by first | exact hrow | exact hB _ _ hrow) rfl) rfl ?_
  refine Dx.p (i := 5) rfl (by kernel_rfl) (mv rfl) rfl ?_
  refine Dx.r (i := 6) rfl (by kernel_rfl) (lkL (κ := List UInt8) (k := f) (by first | exact MapL.ro hBx hsx hlx | exact MapL.ro (hB _ _ hBx) hsx hlx) Tryz.underlying85 Tryz.underlying9 Tryz.zeroValue83 rfl rfl (lookX_get f T.xs)) rfl ?_
  refine Dx.r (i := 7) rfl (by kernel_rfl) (ldA Tryz.underlying48 rfl sz48 rfl (Cells.own (n := 2) PickB.eq rfl) rfl) rfl ?_
  refine Dx.one (i := 8) (by kernel_rfl) ?_
  refine Dstep.o (i := 8) rfl (Ox.cb rfl rfl rfl (docsOf_ct _ _ _ _ _)) rfl (fun v B' H' hΦ hB => ?_)
  obtain ⟨rfl, hΦ⟩ := hΦ
  have hDo := hΦ
  refine ⟨JOk.edge (JOk.edge (JOk.yes (JOk.top) (ldB Tryz.underlying85 rfl rfl (by first | exact hrow | exact hB _ _ hrow) rfl)) (by kernel_rfl)) (by kernel_rfl), ?_⟩
  refine Dx.p (i := 9) rfl (by kernel_rfl) (asg rfl) rfl ?_
  refine Dx.done (by kernel_rfl) ?_
  refine Xx.tn (k4 _ _ _ _ ?_)
  refine Cx.ret ?_
  refine Xx.dropB b0 ?_
  exact Xx.rB1 rfl rfl hDo hB rfl
end RwG
end Go.Proofs.YtdidpocakipinaaGreatDoor

/-
  The documents of an index, in order: the walk of the iterator.
-/
namespace Go.Proofs.YtdidpocakipinaaGreatDoor
open Go.SL Go.RowKit
set_option linter.unusedVariables false
set_option linter.unusedSimpArgs false
set_option maxRecDepth 100000
open Ke1 Ke3 Ke4 Ke5 Ke6 Ke7 Ke8 Ke9 KeA KeB KeC KeD KeE KeF KeG KeI RgA RgB BtB BtC BtD BtE BtG BtX BtH BtI BtF BtJ BtK BtL BtM BtN BtO BtR BtY BtZ DrA DrB DrC DrD DrE DrF RwA RwB BtQ BtS RwC RwD RwE RwF RwG
namespace RwH
theorem sz9 : (Tryz.prog.info? 9).map (·.size) = some 1 := by kernel_rfl
theorem sz25 : (Tryz.prog.info? 25).map (·.size) = some 6 := by kernel_rfl
theorem sz36 : (Tryz.prog.info? 36).map (·.size) = some 8 := by kernel_rfl
theorem sz48 : (Tryz.prog.info? 48).map (·.size) = some 2 := by kernel_rfl
theorem ti36 : TI Tryz.prog 36 [.int .u64 0, .int .u64 0, .int .i64 0, .bool false, .int .i64 0, str [], .slice none 0 0, .slice none 0 0] 8 104 := TI.of (by kernel_rfl) rfl rfl

theorem _root_.Go.SL.Xx.less {e : Env} {ds : List Deferred} {K : Act → World → Prop} {ρ : Sl} {B B0 : Frag} {H : HP} (h : B0.le B) (k : Xx e ds K ρ B0 H) : Xx e ds K ρ B H := fun a w f b s => k a w f b (s.less h)
def rcv (x : Dc) : List Value := [.agg x.cells.toArray]
/-- what may have been handed out so far: the first of these documents; the last one just now -/
def DAdm (ts : List Dc) (l : List Dc) (B : Frag) : Prop := (∃ post, ts.map Dc.abs = l.map Dc.abs ++ post) ∧ ∀ x, l.getLast? = some x → DOk B x
def DFn (ts : List Dc) (l : List Dc) : Prop := l.map Dc.abs = ts.map Dc.abs
theorem take_abs {ts l : List Dc} {n : Nat} {d0 : Dc} (h : n < ts.length) (hl : l.map Dc.abs = (ts.take n).map Dc.abs) (hd : Dc.abs d0 = Dc.abs ts[n]) : (l ++ [d0]).map Dc.abs = (ts.take (n + 1)).map Dc.abs := by
  rw [List.map_append, hl, List.take_succ_eq_append_getElem h, List.map_append]; simp [hd]

set_option maxHeartbeats 4000000 in
theorem Docs_it (T : Tb) (tb d : Nat) (c : C) (g : Dc → List UInt8) (lo hi : List UInt8) (ts : List Dc) (B : Frag) (hT : TabOk B T) (hR : RtB B T) (hTB : treB B tb d c) (hok : Tr90 d c) (hts : ∀ x ∈ ts, x ∈ T.ds) (hk : ts.map g = (inS lo hi (io (d + 1) c)).map (·.1)) (hg : ∀ x ∈ T.ds, ∃ q, g x = q ++ numL x.n ∧ q.length ≤ 4611686018427387904) (b1 b2 b3 : Nat) (h1 : B b1 = some (.cells [.pointer (some ⟨T.b, 0, none⟩)].toArray 31 (0, 0))) (h2 : B b2 = some (.cells [.pointer (some ⟨tb, 0, none⟩)].toArray 83 (0, 0))) (h3 : B b3 = some (.cells [str lo, str hi].toArray 48 (0, 0))) : ItG Tryz.prog 68 [.pointer (some ⟨b1, 0, none⟩), .pointer (some ⟨b2, 0, none⟩), .pointer (some ⟨b3, 0, none⟩)] rcv (DAdm ts) (DFn ts) B 1 := by
  refine ⟨(Go.SL.enters_of Tryz.func68 rfl (by kernel_rfl)), fun lp J Jx hy Bz Hz hBz hJ0 => ?_⟩
  have h1 := hBz _ _ h1
  have h2 := hBz _ _ h2
  have h3 := hBz _ _ h3
  have hT := hT.mono hBz
  have hR := hR.mono hBz
  obtain ⟨⟨fzt, hTB1⟩, hTB2⟩ := hTB.mono hBz
  have htl : ts.length = (inS lo hi (io (d + 1) c)).length := by have := congrArg List.length hk; simpa using this
  refine Ct.of_bodyM Tryz.func68 rfl (nt := 30) rfl (by kernel_rfl) rfl ?_
  intro N0 w0 R
  rw [one_star]
  refine Cx.seq (fun K1 k1 => ?_)
  refine Cx.region ?_
  refine Lx.new (boxO rfl rfl) rfl (fun b4 => ?_)
  refine Lx.nil ?_
  refine Xx.tn (k1 _ _ _ _ ?_)
  refine Cx.seq (fun K2 k2 => ?_)
  refine Cx.seq (fun K3 k3 => ?_)
  refine Cx.region ?_
  refine Lx.y (ldB Tryz.underlying31 rfl rfl (by first | exact h1 | exact hB _ _ h1) rfl) rfl ?_
  refine Lx.y (Yx.ff (eqNilP Tryz.underlying31 rfl rfl) rfl) rfl ?_
  refine Lx.y (mv rfl) rfl ?_
  refine Lx.gT rfl rfl rfl ?_
  refine Lx.y (ldB Tryz.underlying83 rfl rfl (by first | exact h2 | exact hB _ _ h2) rfl) rfl ?_
  refine Lx.gT rfl rfl rfl ?_
  refine Lx.y (Yx.ff (eqNilP Tryz.underlying83 rfl rfl) rfl) rfl ?_
  refine Lx.y (pickF rfl rfl) rfl ?_
  refine Lx.nil ?_
  refine Xx.tn (k3 _ _ _ _ ?_)
  refine Cx.condF rfl ?_
  refine Cx.skip ?_
  refine Xx.tn (k2 _ _ _ _ ?_)
  refine Cx.seq (fun K4 k4 => ?_)
  refine Cx.region ?_
  refine Lx.y (ldB Tryz.underlying83 rfl rfl (by first | exact h2 | exact hB _ _ h2) rfl) rfl ?_
  refine Lx.y (ldA Tryz.underlying48 rfl sz48 rfl (Cells.base (n := 2) h3 rfl) rfl) rfl ?_
  refine Lx.cb rfl rfl rfl (Range_ct (some ⟨tb, 0, none⟩) lo hi _) rfl ?_
  rintro v6 B6 ⟨b5, b6, rfl, hb5, hb6⟩ hB6
  refine Lx.nil ?_
  refine Xx.tn (k4 _ _ _ _ ?_)
  refine Cx.block ?_
  refine Cx.rangeK (σ := _) (Sub.cons (s := 1) rfl (Sub.cons (s := 4) rfl (Sub.nil _))) rfl rfl (Range_it d c tb (((io (d + 1) c).length : Nat) : Int) fzt lo hi B6 (hB6 _ _ hTB1) (hTB2.mono hB6) hok.1 hok.2.2.1 b5 b6 hb5 hb6) (show _ = 1 * ((row b4 93 [.func (.yield lp) #[] #[]] * Hz) * R) by rw [one_star]; ac_rfl) rfl (fun _ => rfl) (fun pre B' H' => ∃ l Hj B0, l.map Dc.abs = (ts.take pre.length).map Dc.abs ∧ Bz.le B0 ∧ B0.le B' ∧ J l B0 Hj ∧ H' = row b4 93 [.func (.yield lp) #[] #[]] * Hj) (fun cd pre B' H' => cd = .ret ∧ ∃ l Hj B0, Bz.le B0 ∧ B0.le B' ∧ Jx l B0 Hj ∧ H' = row b4 93 [.func (.yield lp) #[] #[]] * Hj) (fun pre x B1 ρ' B' H' => ∃ l Hj B0, ρ' = [(5, str x.1)] ∧ B' = B1 ∧ l.map Dc.abs = (ts.take pre.length).map Dc.abs ∧ Bz.le B0 ∧ B0.le B1 ∧ J l B0 Hj ∧ H' = row b4 93 [.func (.yield lp) #[] #[]] * Hj) (⟨[], Hz, Bz, rfl, Frag.le_refl _, hB6, hJ0, rfl⟩) ?_ ?_ ?_ ?_
  · rintro lz Nz wz pre x post B1 H1 F K hxs hB1 hJ hK
    obtain ⟨l, Hj, B0, hl, hz0, h01, hJj, rfl⟩ := hJ
    refine Cx.region ?_
    refine Lx.y (asg rfl) rfl ?_
    refine Lx.nil ?_
    refine Xx.tn ?_
    exact Xx.sub (hK _ _ _ ⟨l, Hj, B0, rfl, rfl, hl, hz0, h01, hJj, rfl⟩ (Frag.le_refl _)) (Sub.cons (s := 5) rfl (Sub.cons (s := 1) rfl (Sub.cons (s := 4) rfl (Sub.nil _))))
  · rintro lz Nz wz pre x post B1 F ρ' B' H' hxs hB1 hBx hAS
    obtain ⟨l, Hj, B0, rfl, hBB, hl, hz0, h01, hJj, rfl⟩ := hAS
    have hBB2 := hBB.symm
    subst hBB2
    clear hBx
    simp only [star_assoc]
    have hlt : pre.length < ts.length := by rw [htl, hxs]; simp
    obtain ⟨dx, hdx⟩ : ∃ dx, dx = ts[pre.length] := ⟨_, rfl⟩
    have hdm := hts _ (List.getElem_mem hlt)
    rw [← hdx] at hdm
    obtain ⟨q, hq, hql⟩ := hg dx hdm
    have hxk : x.1 = q ++ numL dx.n := by
      rw [← hq]
      have h9 : (ts.map g)[pre.length]? = (((inS lo hi (io (d + 1) c))).map (·.1))[pre.length]? := by rw [hk]
      rw [List.getElem?_map, List.getElem?_eq_getElem hlt, List.getElem?_map, hxs, List.getElem?_append_right (Nat.le_refl _), Nat.sub_self] at h9
      have h8 : g ts[pre.length] = x.1 := by simpa using h9
      rw [hdx]; exact h8.symm
    obtain ⟨xk, xw⟩ := x
    simp only at hxk
    subst hxk
    refine Cx.block ?_
    refine Cx.seq (fun K6 k6 => ?_)
    refine Cx.drawn (by kernel_rfl) ?_
    refine Dx.r (i := 0) rfl (by kernel_rfl) (ldB Tryz.underlying31 rfl rfl (by first | exact hB1 _ _ (hB6 _ _ h1) | exact hB _ _ (hB1 _ _ (hB6 _ _ h1))) rfl) rfl ?_
    refine Dx.p (i := 1) rfl (by kernel_rfl) (mv rfl) rfl ?_
    refine Dx.two (i := 2) (j := 7) (by kernel_rfl) ?_ ?_
    · skip
      refine Dstep.o (i := 2) rfl (Ox.cb rfl rfl rfl (number_ct q dx.n _ hql)) rfl (fun v B' H' hΦ hB => ?_)
      obtain ⟨rfl, rfl, hBB⟩ := hΦ; have hBB2 := hBB.symm; subst hBB2; clear hB
      refine ⟨JOk.yes (JOk.top) (ldB Tryz.underlying31 rfl rfl (by first | exact hB1 _ _ (hB6 _ _ h1) | exact hB _ _ (hB1 _ _ (hB6 _ _ h1))) rfl), ?_⟩
      refine Dx.two (i := 3) (j := 7) (by kernel_rfl) ?_ ?_
      · skip
        refine Dstep.o (i := 3) rfl (Ox.cb rfl rfl rfl (RGet_ro T dx.n _ (hT.mono (Frag.le_trans hB6 hB1)) (hR.mono (Frag.le_trans hB6 hB1)))) rfl (fun v B' H' hΦ hB => ?_)
        obtain ⟨rfl, hΦ⟩ := hΦ
        obtain ⟨dy, rfl, hsame, hdok⟩ := hΦ
        obtain ⟨B8, he8⟩ : ∃ B8, B8 = B' := ⟨_, rfl⟩
        subst he8
        have hB8 := hB
        obtain ⟨y1, y2, y3⟩ := hsame dx hdm rfl
        have hya : Dc.abs dy = Dc.abs dx := by unfold Dc.abs; rw [y1, y2, y3]
        obtain ⟨Ap, cp, An, cn, hsh⟩ := cells_shape hdok
        refine ⟨JOk.edge (JOk.top) (by kernel_rfl), ?_⟩
        refine Dx.p (i := 4) rfl (by kernel_rfl) (mv rfl) rfl ?_
        refine Dx.p (i := 5) rfl (by kernel_rfl) (ext rfl rfl) rfl ?_
        refine Dx.p (i := 6) rfl (by kernel_rfl) (ext rfl rfl) rfl ?_
        refine Dx.one (i := 7) (by kernel_rfl) ?_
        refine Dstep.o (i := 7) rfl (allocO ti36) rfl (fun v B' H' hΦ hB => ?_)
        obtain ⟨b7, rfl, hBB, rfl⟩ := hΦ; have hBB2 := hBB.symm; subst hBB2; clear hB
        refine ⟨JOk.yes (JOk.top) (ldB Tryz.underlying31 rfl rfl (by first | exact hB1 _ _ (hB6 _ _ h1) | exact hB _ _ (hB1 _ _ (hB6 _ _ h1))) rfl), ?_⟩
        refine Dx.one (i := 8) (by kernel_rfl) ?_
        refine Dstep.o0 (i := 8) rfl (stA (d := .bool) (cs' := dy.cells) sz36 rfl rfl (by rw [hsh]; rfl) (by rw [hsh]; rfl) (by rw [hsh]; show 0 + 8 ≤ 8; omega) (st_all rfl (by rw [hsh]; rfl))) (fun v B' H' hΦ hB => ?_)
        obtain ⟨hBB, rfl⟩ := hΦ; have hBB2 := hBB.symm; subst hBB2; clear hB v
        refine ⟨JOk.edge (JOk.top) (by kernel_rfl), ?_⟩
        refine Dx.p (i := 9) rfl (by kernel_rfl) (asg rfl) rfl ?_
        refine Dx.done (by kernel_rfl) ?_
        refine Xx.tn (k6 _ _ _ _ ?_)
        refine Cx.seq (fun K7 k7 => ?_)
        refine Cx.region ?_
        refine Lx.y (ld Tryz.underlying93 rfl rfl rfl) rfl ?_
        refine Lx.y (ldA Tryz.underlying36 rfl sz36 rfl (Cells.own (n := 8) PickB.eq (show (dy.cells.drop 0).take 8 = dy.cells by rw [hsh]; rfl)) (by rw [hsh]; rfl)) rfl ?_
        refine Lx.yield rfl rfl (hy l dy B0 B8 Hj ⟨⟨(ts.drop (pre.length + 1)).map Dc.abs, by rw [take_abs hlt hl (by rw [← hdx]; exact hya), ← List.map_append, List.take_append_drop]⟩, fun x hx => by rw [List.getLast?_append] at hx; simp at hx; rw [← hx]; exact hdok⟩ (Frag.le_trans hBz hz0) (Frag.le_trans h01 hB8) hJj) (show _ = Hj * (row b7 36 dy.cells * (row b4 93 [.func (.yield lp) #[] #[]] * F)) by ac_rfl) rfl ?_
        rintro t B9 H9 hΦ hB9
        refine Lx.y (not' rfl) rfl ?_
        refine Lx.nil ?_
        refine Xx.tn (k7 _ _ _ _ ?_)
        refine Cx.condB rfl (fun h8 => ?_) (fun h8 => ?_)
        · skip
          obtain ⟨_, hΦ⟩ : t = false ∧ Jx (l ++ [dy]) B9 H9 := by simpa [show t = false by simpa using h8] using hΦ
          refine Cx.ret ?_
          refine Xx.br ?_
          refine Xx.dropB b7 ?_
          exact Xx.rqr ⟨rfl, l ++ [dy], _, _, Frag.le_trans hz0 (Frag.le_trans h01 (Frag.le_trans hB8 hB9)), Frag.le_refl _, hΦ, rfl⟩ (Frag.le_trans hB8 hB9) (by ac_rfl)
        · skip
          obtain ⟨_, hΦ⟩ : t = true ∧ J (l ++ [dy]) B9 H9 := by simpa [show t = true by simpa using h8] using hΦ
          refine Cx.skip ?_
          refine Xx.bn ?_
          refine Xx.dropB b7 ?_
          exact Xx.rqn ⟨l ++ [dy], _, _, by rw [List.length_append, List.length_singleton]; exact take_abs hlt hl (by rw [← hdx]; exact hya), Frag.le_trans hz0 (Frag.le_trans h01 (Frag.le_trans hB8 hB9)), Frag.le_refl _, hΦ, rfl⟩ (Frag.le_trans hB8 hB9) (by ac_rfl)
      refine Dstep.o (i := 7) rfl (allocO ti36) rfl (fun v B' H' hΦ hB => ?_)
      obtain ⟨b7, rfl, hBB, rfl⟩ := hΦ; have hBB2 := hBB.symm; subst hBB2; clear hB
      refine ⟨JOk.yes (JOk.top) (ldB Tryz.underlying31 rfl rfl (by first | exact hB1 _ _ (hB6 _ _ h1) | exact hB _ _ (hB1 _ _ (hB6 _ _ h1))) rfl), ?_⟩
      refine Dx.one (i := 3) (by kernel_rfl) ?_
      refine Dstep.o (i := 3) rfl (Ox.cb rfl rfl rfl (RGet_ro T dx.n _ (hT.mono (Frag.le_trans hB6 hB1)) (hR.mono (Frag.le_trans hB6 hB1)))) rfl (fun v B' H' hΦ hB => ?_)
      obtain ⟨rfl, hΦ⟩ := hΦ
      obtain ⟨dy, rfl, hsame, hdok⟩ := hΦ
      obtain ⟨B8, he8⟩ : ∃ B8, B8 = B' := ⟨_, rfl⟩
      subst he8
      have hB8 := hB
      obtain ⟨y1, y2, y3⟩ := hsame dx hdm rfl
      have hya : Dc.abs dy = Dc.abs dx := by unfold Dc.abs; rw [y1, y2, y3]
      obtain ⟨Ap, cp, An, cn, hsh⟩ := cells_shape hdok
      refine ⟨JOk.edge (JOk.top) (by kernel_rfl), ?_⟩
      refine Dx.p (i := 4) rfl (by kernel_rfl) (mv rfl) rfl ?_
      refine Dx.p (i := 5) rfl (by kernel_rfl) (ext rfl rfl) rfl ?_
      refine Dx.p (i := 6) rfl (by kernel_rfl) (ext rfl rfl) rfl ?_
      refine Dx.one (i := 8) (by kernel_rfl) ?_
      refine Dstep.o0 (i := 8) rfl (stA (d := .bool) (cs' := dy.cells) sz36 rfl rfl (by rw [hsh]; rfl) (by rw [hsh]; rfl) (by rw [hsh]; show 0 + 8 ≤ 8; omega) (st_all rfl (by rw [hsh]; rfl))) (fun v B' H' hΦ hB => ?_)
      obtain ⟨hBB, rfl⟩ := hΦ; have hBB2 := hBB.symm; subst hBB2; clear hB v
      refine ⟨JOk.edge (JOk.top) (by kernel_rfl), ?_⟩
      refine Dx.p (i := 9) rfl (by kernel_rfl) (asg rfl) rfl ?_
      refine Dx.done (by kernel_rfl) ?_
      refine Xx.tn (k6 _ _ _ _ ?_)
      refine Cx.seq (fun K9 k9 => ?_)
      refine Cx.region ?_
      refine Lx.y (ld Tryz.underlying93 rfl rfl rfl) rfl ?_
      refine Lx.y (ldA Tryz.underlying36 rfl sz36 rfl (Cells.own (n := 8) PickB.eq (show (dy.cells.drop 0).take 8 = dy.cells by rw [hsh]; rfl)) (by rw [hsh]; rfl)) rfl ?_
      refine Lx.yield rfl rfl (hy l dy B0 B8 Hj ⟨⟨(ts.drop (pre.length + 1)).map Dc.abs, by rw [take_abs hlt hl (by rw [← hdx]; exact hya), ← List.map_append, List.take_append_drop]⟩, fun x hx => by rw [List.getLast?_append] at hx; simp at hx; rw [← hx]; exact hdok⟩ (Frag.le_trans hBz hz0) (Frag.le_trans h01 hB8) hJj) (show _ = Hj * (row b7 36 dy.cells * (row b4 93 [.func (.yield lp) #[] #[]] * F)) by ac_rfl) rfl ?_
      rintro t B9 H9 hΦ hB9
      refine Lx.y (not' rfl) rfl ?_
      refine Lx.nil ?_
      refine Xx.tn (k9 _ _ _ _ ?_)
      refine Cx.condB rfl (fun h10 => ?_) (fun h10 => ?_)
      · skip
        obtain ⟨_, hΦ⟩ : t = false ∧ Jx (l ++ [dy]) B9 H9 := by simpa [show t = false by simpa using h10] using hΦ
        refine Cx.ret ?_
        refine Xx.br ?_
        refine Xx.dropB b7 ?_
        exact Xx.rqr ⟨rfl, l ++ [dy], _, _, Frag.le_trans hz0 (Frag.le_trans h01 (Frag.le_trans hB8 hB9)), Frag.le_refl _, hΦ, rfl⟩ (Frag.le_trans hB8 hB9) (by ac_rfl)
      · skip
        obtain ⟨_, hΦ⟩ : t = true ∧ J (l ++ [dy]) B9 H9 := by simpa [show t = true by simpa using h10] using hΦ
        refine Cx.skip ?_
        refine Xx.bn ?_
        refine Xx.dropB b7 ?_
        exact Xx.rqn ⟨l ++ [dy], _, _, by rw [List.length_append, List.length_singleton]; exact take_abs hlt hl (by rw [← hdx]; exact hya), Frag.le_trans hz0 (Frag.le_trans h01 (Frag.le_trans hB8 hB9)), Frag.le_refl _, hΦ, rfl⟩ (Frag.le_trans hB8 hB9) (by ac_rfl)
    refine Dstep.o (i := 7) rfl (allocO ti36) rfl (fun v B' H' hΦ hB => ?_)
    obtain ⟨b7, rfl, hBB, rfl⟩ := hΦ; have hBB2 := hBB.symm; subst hBB2; clear hB
    refine ⟨JOk.yes (JOk.top) (ldB Tryz.underlying31 rfl rfl (by first | exact hB1 _ _ (hB6 _ _ h1) | exact hB _ _ (hB1 _ _ (hB6 _ _ h1))) rfl), ?_⟩
    refine Dx.one (i := 2) (by kernel_rfl) ?_
    refine Dstep.o (i := 2) rfl (Ox.cb rfl rfl rfl (number_ct q dx.n _ hql)) rfl (fun v B' H' hΦ hB => ?_)
    obtain ⟨rfl, rfl, hBB⟩ := hΦ; have hBB2 := hBB.symm; subst hBB2; clear hB
    refine ⟨JOk.yes (JOk.top) (ldB Tryz.underlying31 rfl rfl (by first | exact hB1 _ _ (hB6 _ _ h1) | exact hB _ _ (hB1 _ _ (hB6 _ _ h1))) rfl), ?_⟩
    refine Dx.one (i := 3) (by kernel_rfl) ?_
    refine Dstep.o (i := 3) rfl (Ox.cb rfl rfl rfl (RGet_ro T dx.n _ (hT.mono (Frag.le_trans hB6 hB1)) (hR.mono (Frag.le_trans hB6 hB1)))) rfl (fun v B' H' hΦ hB => ?_)
    obtain ⟨rfl, hΦ⟩ := hΦ
    obtain ⟨dy, rfl, hsame, hdok⟩ := hΦ
    obtain ⟨B8, he8⟩ : ∃ B8, B8 = B' := ⟨_, rfl⟩
    subst he8
    have hB8 := hB
    obtain ⟨y1, y2, y3⟩ := hsame dx hdm rfl
    have hya : Dc.abs dy = Dc.abs dx := by unfold Dc.abs; rw [y1, y2, y3]
    obtain ⟨Ap, cp, An, cn, hsh⟩ := cells_shape hdok
    refine ⟨JOk.edge (JOk.top) (by kernel_rfl), ?_⟩
    refine Dx.p (i := 4) rfl (by kernel_rfl) (mv rfl) rfl ?_
    refine Dx.p (i := 5) rfl (by kernel_rfl) (ext rfl rfl) rfl ?_
    refine Dx.p (i := 6) rfl (by kernel_rfl) (ext rfl rfl) rfl ?_
    refine Dx.one (i := 8) (by kernel_rfl) ?_
    refine Dstep.o0 (i := 8) rfl (stA (d := .bool) (cs' := dy.cells) sz36 rfl rfl (by rw [hsh]; rfl) (by rw [hsh]; rfl) (by rw [hsh]; show 0 + 8 ≤ 8; omega) (st_all rfl (by rw [hsh]; rfl))) (fun v B' H' hΦ hB => ?_)
    obtain ⟨hBB, rfl⟩ := hΦ; have hBB2 := hBB.symm; subst hBB2; clear hB v
    refine ⟨JOk.edge (JOk.top) (by kernel_rfl), ?_⟩
    refine Dx.p (i := 9) rfl (by kernel_rfl) (asg rfl) rfl ?_
    refine Dx.done (by kernel_rfl) ?_
    refine Xx.tn (k6 _ _ _ _ ?_)
    refine Cx.seq (fun K11 k11 => ?_)
    refine Cx.region ?_
    refine Lx.y (ld Tryz.underlying93 rfl rfl rfl) rfl ?_
    refine Lx.y (ldA Tryz.underlying36 rfl sz36 rfl (Cells.own (n := 8) PickB.eq (show (dy.cells.drop 0).take 8 = dy.cells by rw [hsh]; rfl)) (by rw [hsh]; rfl)) rfl ?_
    refine Lx.yield rfl rfl (hy l dy B0 B8 Hj ⟨⟨(ts.drop (pre.length + 1)).map Dc.abs, by rw [take_abs hlt hl (by rw [← hdx]; exact hya), ← List.map_append, List.take_append_drop]⟩, fun x hx => by rw [List.getLast?_append] at hx; simp at hx; rw [← hx]; exact hdok⟩ (Frag.le_trans hBz hz0) (Frag.le_trans h01 hB8) hJj) (show _ = Hj * (row b7 36 dy.cells * (row b4 93 [.func (.yield lp) #[] #[]] * F)) by ac_rfl) rfl ?_
    rintro t B9 H9 hΦ hB9
    refine Lx.y (not' rfl) rfl ?_
    refine Lx.nil ?_
    refine Xx.tn (k11 _ _ _ _ ?_)
    refine Cx.condB rfl (fun h12 => ?_) (fun h12 => ?_)
    · skip
      obtain ⟨_, hΦ⟩ : t = false ∧ Jx (l ++ [dy]) B9 H9 := by simpa [show t = false by simpa using h12] using hΦ
      refine Cx.ret ?_
      refine Xx.br ?_
      refine Xx.dropB b7 ?_
      exact Xx.rqr ⟨rfl, l ++ [dy], _, _, Frag.le_trans hz0 (Frag.le_trans h01 (Frag.le_trans hB8 hB9)), Frag.le_refl _, hΦ, rfl⟩ (Frag.le_trans hB8 hB9) (by ac_rfl)
    · skip
      obtain ⟨_, hΦ⟩ : t = true ∧ J (l ++ [dy]) B9 H9 := by simpa [show t = true by simpa using h12] using hΦ
      refine Cx.skip ?_
      refine Xx.bn ?_
      refine Xx.dropB b7 ?_
      exact Xx.rqn ⟨l ++ [dy], _, _, by rw [List.length_append, List.length_singleton]; exact take_abs hlt hl (by rw [← hdx]; exact hya), Frag.le_trans hz0 (Frag.le_trans h01 (Frag.le_trans hB8 hB9)), Frag.le_refl _, hΦ, rfl⟩ (Frag.le_trans hB8 hB9) (by ac_rfl)
  · rintro D B' H' hBx hJ
    obtain ⟨l, Hc, B0, hl, hz0, h01, hJc, rfl⟩ := hJ
    simp only [star_assoc]
    refine Xx.bn ?_
    refine Xx.less h01 (Xx.dropB b4 ?_)
    exact Xx.eM [D] rfl (fun a w f _ => results_none rfl _ _ _) ⟨Hc, (one_star _).symm, .inl ⟨l, by unfold DFn; rw [hl, ← htl, List.take_length], hJc⟩⟩ hz0 (by simp only [marks_cons, marks_nil, star_one, one_star]; ac_rfl)
  · rintro D c pre post B' H' hxs hBx hJx
    obtain ⟨rfl, l, Hc, B0, hz0, h01, hJc, rfl⟩ := hJx
    simp only [star_assoc]
    refine Cx.ret ?_
    refine Xx.br ?_
    refine Xx.less h01 (Xx.dropB b4 ?_)
    exact Xx.rM (Ds := [D]) (fun a w f _ => results_none rfl _ _ _) ⟨Hc, (one_star _).symm, .inr ⟨l, hJc⟩⟩ hz0 (by simp only [marks_cons, marks_nil, star_one, one_star]; ac_rfl)
end RwH
end Go.Proofs.YtdidpocakipinaaGreatDoor

/-
  Awake; the law of nil tables.
-/
namespace Go.Proofs.YtdidpocakipinaaGreatDoor
open Go.SL Go.RowKit
set_option linter.unusedVariables false
set_option linter.unusedSimpArgs false
set_option maxRecDepth 100000
open Ke1 Ke3 Ke4 Ke5 Ke6 Ke7 Ke8 Ke9 KeA KeB KeC KeD KeE KeF KeG KeI RgA RgB BtB BtC BtD BtE BtG BtX BtH BtI BtF BtJ BtK BtL BtM BtN BtO BtR BtY BtZ DrA DrB DrC DrD DrE DrF RwA RwB BtQ BtS RwC RwD RwE RwF RwG RwH
namespace RwI
theorem sz3 : (Tryz.prog.info? 3).map (·.size) = some 1 := by kernel_rfl
theorem sz9 : (Tryz.prog.info? 9).map (·.size) = some 1 := by kernel_rfl
theorem sz25 : (Tryz.prog.info? 25).map (·.size) = some 6 := by kernel_rfl
theorem sz36 : (Tryz.prog.info? 36).map (·.size) = some 8 := by kernel_rfl
theorem sz48 : (Tryz.prog.info? 48).map (·.size) = some 2 := by kernel_rfl
theorem ti3 : TI Tryz.prog 3 [.int .i64 0] 1 8 := TI.of (by kernel_rfl) rfl rfl
theorem ti9 : TI Tryz.prog 9 [str []] 1 16 := TI.of (by kernel_rfl) rfl rfl
theorem ti25 : TI Tryz.prog 25 [.int .i64 0, .bool false, .int .i64 0, str [], .slice none 0 0, .slice none 0 0] 6 88 := TI.of (by kernel_rfl) rfl rfl
theorem ti36 : TI Tryz.prog 36 [.int .u64 0, .int .u64 0, .int .i64 0, .bool false, .int .i64 0, str [], .slice none 0 0, .slice none 0 0] 8 104 := TI.of (by kernel_rfl) rfl rfl
theorem ti48 : TI Tryz.prog 48 [str [], str []] 2 32 := TI.of (by kernel_rfl) rfl rfl
theorem fo36_0 : FO Tryz.prog 36 0 0 1 false := FO.of Tryz.underlying36 rfl rfl (by kernel_rfl) Tryz.underlying34 rfl rfl
theorem pl36 : PL Tryz.prog 36 [(0, 1), (1, 1), (2, 6)] := PL.of Tryz.underlying36 (by kernel_rfl)
theorem pl48 : PL Tryz.prog 48 [(0, 1), (1, 1)] := PL.of Tryz.underlying48 (by kernel_rfl)

theorem leaf_ok {n : Int} {d : Nat} {deep : Int} (h : deep ≤ 8) : checkF (d + 1) (V.mk 2 false n [] [] []) deep = 0 :=
  chk6 (by omega) (fun z => by
    rcases z with z | z | z
    · exact absurd z (by show ¬ (2 : Int) < 0; decide)
    · exact absurd z (by show ¬ (6 : Int) < 2; decide)
    · exact z ⟨.inr rfl, .inl rfl, .inr (.inr rfl), .inr (.inr rfl), .inr rfl⟩) (by show ¬ 32 < 0; decide) (namesB_yes ⟨fun i hi => absurd hi (by show ¬ i < 0; omega), fun z => absurd z (by show ¬ (2 : Int) = 6; decide)⟩) fun k hk => absurd hk (by show ¬ k < 0; omega)
theorem VA_names (n : Int) : NamesP (VA n) := by
  refine ⟨fun i hi => ?_, fun _ => rfl⟩
  have hi2 : i < 1 := hi
  obtain rfl : i = 0 := by omega
  exact ⟨⟨fun k hk => by have : k < 1 := hk; obtain rfl : k = 0 := by omega
                         exact .inl (show LP (([97] : List UInt8).getD 0 0) by decide), show 1 ≤ ([97] : List UInt8).length by decide, show ([97] : List UInt8).length ≤ 16 by decide⟩, fun z => absurd z (by decide)⟩

theorem VA_check4 (n : Int) : checkF 4 (VA n) 1 = 0 := by
  refine chk6 (by decide) (fun z => ?_) (by show ¬ 32 < 1; decide) (namesB_yes (VA_names n)) fun k hk => ?_
  · rcases z with z | z | z
    · exact absurd z (by show ¬ (6 : Int) < 0; decide)
    · exact absurd z (by show ¬ (6 : Int) < 6; decide)
    · exact z ⟨.inr rfl, .inr rfl, .inr (.inr rfl), .inr (.inl rfl), .inl rfl⟩
  · have hk2 : k < 1 := hk
    match k, hk2 with
    | 0, _ => exact leaf_ok (by decide)
theorem freezeP {e : Env} {ds : List Deferred} {K : Act → World → Prop} {ρ : Sl} {B : Frag} {p R : HP} (h : ∀ k : Frag, p k → k.apart B → Xx e ds K ρ (Frag.un B k) R) : Xx e ds K ρ B (p * R) := fun a w f b s => by
  obtain ⟨k, hk, hap, s', _⟩ := s.lend
  exact h k hk hap a w f b s'
theorem freeze_tab {e : Env} {ds : List Deferred} {K : Act → World → Prop} {ρ : Sl} {B : Frag} {R : HP} {T : Tb} (hT : TabOk B T) (h : ∀ B', B.le B' → RtB B' T → Xx e ds K ρ B' R) : Xx e ds K ρ B (tab T * R) :=
  freezeP fun k hk ha => h _ (Frag.le_un B k) (tab_ro hT hk ha)
theorem look_x {f : List UInt8} {xs : List Ix} (h : f ∈ xs.map (·.f)) : ∃ x ∈ xs, x.f = f ∧ lookX f xs = some ⟨x.tb, 0, none⟩ := by
  unfold lookX
  cases hf : xs.find? (fun x => decide (x.f = f)) with
  | none =>
    obtain ⟨x, hx, e⟩ := List.mem_map.1 h
    have := List.find?_eq_none.1 hf x hx
    simp [e] at this
  | some x => exact ⟨x, List.mem_of_find?_eq_some hf, by have := List.find?_some hf; simpa using this, rfl⟩
/-- the documents whose keys these are -/
theorem docs_list {g : Dc → List UInt8} {ds : List Dc} : ∀ (l : List (List UInt8 × List UInt8)), (∀ p ∈ l, ∃ x ∈ ds, p.1 = g x) → ∃ ts : List Dc, (∀ x ∈ ts, x ∈ ds) ∧ ts.map g = l.map (·.1) := by
  intro l
  induction l with
  | nil => intro _; exact ⟨[], fun x h => (by cases h), rfl⟩
  | cons p l ih =>
    intro h
    obtain ⟨x, hx, e⟩ := h p (by simp)
    obtain ⟨ts, h1, h2⟩ := ih fun q hq => h q (by simp [hq])
    exact ⟨x :: ts, fun y hy => by rcases List.mem_cons.1 hy with rfl | hy; exact hx; exact h1 y hy, by rw [List.map_cons, List.map_cons, h2, e]⟩
theorem tk_list {d : Nat} {c : C} {g : Dc → List UInt8} {ds : List Dc} (h : TK d c (fun k => ∃ x ∈ ds, k = g x)) (lo hi : List UInt8) : ∃ ts : List Dc, (∀ x ∈ ts, x ∈ ds) ∧ ts.map g = (inS lo hi (io (d + 1) c)).map (·.1) :=
  docs_list _ fun p hp => (h.2.2 p.1).1 (List.mem_map.2 ⟨p, (List.mem_filter.1 hp).1, rfl⟩)
theorem inS_whole (l : List (List UInt8 × List UInt8)) : inS [] [] l = l := inS_all fun p _ => by unfold BtS.hasB; rw [bless_nil]; rfl
/-- all documents of a table, by an index: each once -/
theorem all_len {d : Nat} {c : C} {g : Dc → List UInt8} {ds ts : List Dc} (h : TK d c (fun k => ∃ x ∈ ds, k = g x)) (hg : ∀ a b, g a = g b → a.n = b.n) (hn : (ds.map (·.n)).Nodup) (ht : ts.map g = (io (d + 1) c).map (·.1)) : ts.length = ds.length := by
  have h1 : (ts.map g).Nodup := by rw [ht]; exact ord_nodup h.1.2.2.1
  have h2 : (ds.map g).Nodup := by
    have : ds.Nodup := nodup_of_map _ hn
    rw [List.nodup_iff_pairwise_ne, List.pairwise_map]
    rw [List.nodup_iff_pairwise_ne, List.pairwise_map] at hn
    exact hn.imp fun hab e => hab (hg _ _ e)
  have a1 := nodup_len (ts.map g) (ds.map g) h1 fun k hk => by
    rw [ht] at hk
    obtain ⟨x, hx, rfl⟩ := (h.2.2 k).1 hk
    exact List.mem_map.2 ⟨x, hx, rfl⟩
  have a2 := nodup_len (ds.map g) (ts.map g) h2 fun k hk => by
    obtain ⟨x, hx, rfl⟩ := List.mem_map.1 hk
    rw [ht]; exact (h.2.2 _).2 ⟨x, hx, rfl⟩
  simp at a1 a2; omega
theorem getV_R {B : Frag} {d : Nat} {v : V} {deep : Int} {cs : List Value} (f : List UInt8) (h : ValR B (d + 2) v cs) (hok : checkF (d + 2) v deep = 0) : ∃ cs', ValR B (d + 1) (getV v f) cs' := by
  by_cases hf : f ∈ v.names
  · obtain ⟨_, h1, _, _, e⟩ := getV_in hok hf
    obtain ⟨_, _, _, _, _, _, _, _, _, _, hps⟩ := h
    obtain ⟨_, _, _, _, _, xs, _, _, _, hv⟩ := hps _ h1
    rw [e]; exact ⟨xs, hv⟩
  · rw [getV_out hf]; exact ⟨_, V0_R⟩
theorem keyD_tail {B : Frag} {f : List UInt8} {x : Dc} (h : DOk B x) : ∃ q, keyD f x = q ++ numL x.n ∧ q.length ≤ 4611686018427387904 := by
  obtain ⟨hv0, hchk, hbyt⟩ := h
  obtain ⟨cs9, hg⟩ : ∃ cs9, ValR B 3 (getV x.v f) cs9 := getV_R (d := 2) f hv0 hchk
  have h9 : (bytesF 3 (getV x.v f)).length ≤ (bytesF 4 x.v).length + 1 := getV_bytes (d := 2) f hchk
  have h8 := keyF_len _ _ _ _ hg
  exact ⟨keyF 3 (getV x.v f), rfl, by omega⟩

set_option maxHeartbeats 4000000 in
theorem awake_ct (B : Frag) (hM : MaxLenIn B) : CtB Tryz.prog 10 [] B (fun v _ => v = .bool true) := by
  refine CtB.of_bodyM Tryz.func10 rfl (nt := 35) rfl (by kernel_rfl) rfl ?_
  intro N0 w0 R
  refine Cx.seq (fun K1 k1 => ?_)
  refine Cx.region ?_
  refine Lx.y (asg rfl) rfl ?_
  refine Lx.nil ?_
  refine Xx.tn (k1 _ _ _ _ ?_)
  refine Cx.seq (fun K2 k2 => ?_)
  refine Cx.region ?_
  refine Lx.c rfl rfl rfl (RNew_ct _) ((one_star _).symm) rfl ?_
  rintro v B1 H1 ⟨hBB, T, rfl, rfl, hds, hxs, hT⟩ hB1
  have hBB2 := hBB.symm
  subst hBB2
  clear hB1
  refine Lx.y (asg rfl) rfl ?_
  refine Lx.nil ?_
  refine Xx.tn (k2 _ _ _ _ ?_)
  refine Cx.seq (fun K3 k3 => ?_)
  refine Cx.region ?_
  refine Lx.y (mv rfl) rfl ?_
  refine Lx.bsl (bsl1 Tryz.underlying23 ti9 rfl rfl rfl (by decide)) rfl (fun bn => ?_)
  refine Lx.cp rfl rfl rfl (Int_ct _ _) rfl ?_
  refine Lx.bsl (bslA Tryz.underlying22 ti25 rfl rfl (by decide)) rfl (fun bp => ?_)
  refine Xx.freezeB bn fun B1 hB1 hBn => ?_
  refine Xx.freezeB bp fun B2 hB2 hBp => ?_
  refine Lx.cb rfl rfl rfl (Struct1_ct 1 bn bp _ _ _ _ _ (by decide) (by decide) (hB2 _ _ hBn) hBp) rfl ?_
  rintro v B3 ⟨cs3, rfl, hv3⟩ hB3
  obtain ⟨Ap, cp, An, cn, rfl⟩ := ValR.shape hv3
  have hB03 := Frag.le_trans hB1 (Frag.le_trans hB2 hB3)
  refine Lx.y (bld ti36 pl36 rfl rfl) rfl ?_
  refine Lx.c rfl rfl rfl (RPut_ct T 3#64 0#64 (VA 1) _ _ (hT.mono hB03) (hM.mono hB03) (by rw [hds]; decide) (ValR.le hv3 (by decide)) (VA_check4 1) (by decide +kernel)) (Pick.eq) rfl ?_
  rintro r4 B4 H4 ⟨rfl, T2, rfl, hT2, hb2, hds2, hxs2⟩ hB4
  have hB04 := Frag.le_trans hB03 hB4
  rw [← hb2]
  rw [hds] at hds2
  have hl2 : T2.ds.length = 1 := by have := congrArg List.length hds2; simpa [dropD] using this
  rw [hxs] at hxs2
  refine Lx.nil ?_
  refine Xx.tn (k3 _ _ _ _ ?_)
  refine Cx.seq (fun K5 k5 => ?_)
  refine Cx.region ?_
  refine Lx.new (allocO ti3) rfl (fun b2 => ?_)
  refine Lx.st (stO Tryz.underlying3 sz3 rfl rfl rfl (by decide) rfl) ?_
  refine Lx.nil ?_
  refine Xx.tn (k5 _ _ _ _ ?_)
  refine Cx.seq (fun K6 k6 => ?_)
  refine Cx.seq (fun K7 k7 => ?_)
  refine Cx.region ?_
  refine Lx.y (mv rfl) rfl ?_
  refine Lx.c rfl rfl rfl (RAdd_ct T2 [97] _ hT2 (hM.mono hB04) (by omega)) (Pick.eq) rfl ?_
  rintro r5 B5 H5 ⟨hBB, T3, rfl, rfl, hT3, hb3, hds3, hxs3⟩ hB5
  have hBB2 := hBB.symm
  subst hBB2
  clear hB5
  rw [← hb3]
  have hx2 : T2.xs.map (·.f) = [] := by simpa using hxs2
  have hx3 : T3.xs.map (·.f) = [[97]] := by rw [hxs3, hx2]; rfl
  refine Lx.y (Yx.ff (not' rfl) (by rw [hx2]; rfl)) rfl ?_
  refine Lx.y (mv rfl) rfl ?_
  refine Lx.gT rfl rfl rfl ?_
  refine Lx.y (mv rfl) rfl ?_
  refine Lx.gT rfl rfl rfl ?_
  refine Lx.c rfl rfl rfl (RAdd_ct T3 [97] _ hT3 (hM.mono hB04) (by rw [hds3]; omega)) (Pick.eq) rfl ?_
  rintro r6 B6 H6 ⟨hBB, T4, rfl, rfl, hT4, hb4, hds4, hxs4⟩ hB6
  have hBB2 := hBB.symm
  subst hBB2
  clear hB6
  rw [← hb4]
  have hx4 : T4.xs.map (·.f) = [[97]] := by rw [hxs4, hx3]; rfl
  have hdd : T4.ds.map Dc.abs = [(3#64, 0#64, VA 1)] := by rw [hds4, hds3, hds2]; rfl
  have hl4 : T4.ds.length = 1 := by rw [hds4, hds3]; exact hl2
  refine Lx.y (pickF rfl rfl) rfl ?_
  refine Lx.nil ?_
  refine Xx.tn (k7 _ _ _ _ ?_)
  refine Cx.condB rfl (fun h8 => ?_) (fun h8 => ?_)
  · skip
    exact absurd h8 (by rw [hx3]; decide)
  · skip
    refine Cx.skip ?_
    refine Xx.tn (k6 _ _ _ _ ?_)
    refine Cx.seq (fun K9 k9 => ?_)
    refine Cx.seq (fun K10 k10 => ?_)
    refine Xx.perm (H' := tab T4 * (row b2 3 [i64 0] * R)) ?_ (by ac_rfl)
    refine freeze_tab hT4 fun B7 hB7 hR => ?_
    obtain ⟨x0, hx0, hxf0, hlx0⟩ := look_x (f := [97]) (xs := T4.xs) (by rw [hx4]; simp)
    have htk0 := hT4.idx x0 hx0
    rw [hxf0] at htk0
    obtain ⟨ts, hts, htk⟩ := tk_list htk0 [] []
    have htl : ts.length = 1 := by rw [inS_whole] at htk; rw [all_len htk0 (fun a b => keyD_n) hT4.nd htk]; exact hl4
    obtain ⟨t0, rfl⟩ := List.length_eq_one_iff.1 htl
    have ht0 : Dc.abs t0 = (3#64, 0#64, VA 1) := by
      have h9 : Dc.abs t0 ∈ T4.ds.map Dc.abs := List.mem_map.2 ⟨t0, hts t0 (by simp), rfl⟩
      rw [hdd] at h9; simpa using h9
    refine Cx.region ?_
    refine Lx.y (mv rfl) rfl ?_
    refine Lx.y (bld ti48 pl48 rfl rfl) rfl ?_
    refine Lx.cb rfl rfl rfl (RRange_ro T4 [97] [] [] _ hR) rfl ?_
    rintro v8 B8 ⟨c1, c2, c3, rfl, hc1, hc2, hc3⟩ hB8
    rw [hlx0] at hc2
    have hB78 := Frag.le_trans hB7 hB8
    refine Lx.nil ?_
    refine Xx.tn (k10 _ _ _ _ ?_)
    refine Cx.block ?_
    refine Cx.rangeG (σ := _) (Sub.cons (s := 2) rfl (Sub.nil _)) rfl rfl (Docs_it T4 x0.tb x0.d x0.c (keyD [97]) [] [] [t0] B8 (hT4.mono hB78) (hR.mono hB8) ((hR.2.2.2.2 x0 hx0).mono hB8) htk0.1 hts htk (fun y hy => keyD_tail (hT4.docs y hy)) c1 c2 c3 hc1 hc2 hc3) ((one_star _).symm) rfl (fun _ => rfl) (fun pre B' H' => H' = row b2 3 [i64 ((3 * pre.length : Nat) : Int)]) (fun _ _ _ _ => False) (fun pre x B1 ρ' B' H' => ∃ ba, pre = [] ∧ x.n = 3#64 ∧ ρ' = [(3, .pointer (some ⟨ba, 0, none⟩))] ∧ B' = B1 ∧ H' = row ba 36 x.cells * row b2 3 [i64 0]) (rfl) ?_ ?_ ?_ ?_
    · rintro lz Nz wz pre x B0 B1 H1 F K hxs hB0 hB01 hJ hK
      subst hJ
      obtain ⟨⟨post, hpo⟩, hlast⟩ := hxs
      have hxok := hlast x (by simp)
      obtain ⟨Ap, cp, An, cn, hsh⟩ := cells_shape hxok
      obtain rfl : pre = [] := by
        have := congrArg List.length hpo
        simp at this
        exact List.length_eq_zero_iff.1 (by omega)
      have hxa : Dc.abs x = (3#64, 0#64, VA 1) := by rw [← ht0]; simp at hpo; exact hpo.1.symm
      have hx3n : x.n = 3#64 := congrArg Prod.fst hxa
      refine Cx.region ?_
      refine Lx.new (allocO ti36) rfl (fun ba => ?_)
      refine Lx.st (stA (d := .bool) (cs' := x.cells) sz36 rfl rfl (by rw [hsh]; rfl) (by rw [hsh]; rfl) (by rw [hsh]; show 0 + 8 ≤ 8; omega) (st_all rfl (by rw [hsh]; rfl))) ?_
      refine Lx.nil ?_
      refine Xx.tn ?_
      exact Xx.perm (Xx.sub (hK _ _ (row ba 36 x.cells * row b2 3 [i64 0]) ⟨ba, rfl, hx3n, rfl, rfl, rfl⟩ (Frag.le_refl _)) (Sub.cons (s := 3) rfl (Sub.cons (s := 2) rfl (Sub.nil _)))) (by rw [star_assoc]; rfl)
    · rintro lz Nz wz pre x B1 F ρ' B' H' hxs hB1 hBx hAS
      obtain ⟨ba, rfl, hx3n, rfl, hBB, rfl⟩ := hAS
      have hBB2 := hBB.symm
      subst hBB2
      simp only [star_assoc]
      refine Cx.block ?_
      refine Cx.region ?_
      refine Lx.y (ld Tryz.underlying3 rfl rfl rfl) rfl ?_
      refine Lx.y (fa' fo36_0 rfl) rfl ?_
      refine Lx.y (Yx.val (ld Tryz.underlying34 rfl rfl rfl) (show _ = u64 3#64 by rw [← hx3n])) rfl ?_
      refine Lx.y (cvI rfl Tryz.underlying34 Tryz.underlying3 (by first | exact wrap64 (by omega) (by omega) | rfl)) rfl ?_
      refine Lx.y (Yx.val (add rfl rfl (show IntKind.i64.wrap _ = ((3 : Nat) : Int) from rfl)) (show _ = i64 ((3 : Nat) : Int) from rfl)) rfl ?_
      refine Lx.st (stO Tryz.underlying3 sz3 rfl rfl rfl (by simp) rfl) ?_
      refine Lx.nil ?_
      refine Xx.bn ?_
      refine Xx.dropB ba ?_
      exact Xx.rqn rfl hBx rfl
    · rintro D xs B' H' hxs hBx hJ
      subst hJ
      have hxl : xs.length = 1 := by have := congrArg List.length hxs; simpa using this
      refine Xx.bn ?_
      refine Xx.tn (k9 _ _ _ _ ?_)
      refine Cx.seq (fun K12 k12 => ?_)
      refine Cx.region ?_
      refine Lx.y (ld Tryz.underlying3 rfl rfl rfl) rfl ?_
      refine Lx.y (Yx.tt (eqI rfl rfl) (decide_eq_true (by rw [hxl]; rfl))) rfl ?_
      refine Lx.y (mv rfl) rfl ?_
      refine Lx.gT rfl rfl rfl ?_
      refine Lx.y (mv rfl) rfl ?_
      refine Lx.gT rfl rfl rfl ?_
      refine Lx.cp rfl rfl rfl (RLen_ro T4 _ (hR.mono (Frag.le_trans hB8 hBx))) rfl ?_
      refine Lx.gT rfl rfl rfl ?_
      refine Lx.y (Yx.tt (eqI rfl rfl) (decide_eq_true (by rw [hl4]; rfl))) rfl ?_
      refine Lx.y (pickT rfl rfl) rfl ?_
      refine Lx.y (asg rfl) rfl ?_
      refine Lx.nil ?_
      refine Xx.tn (k12 _ _ _ _ ?_)
      refine Cx.ret ?_
      refine Xx.dropB b2 ?_
      exact Xx.rBM (Ds := [D]) (res1 rfl rfl) rfl (Frag.le_trans hB04 (Frag.le_trans hB78 hBx)) (by simp only [marks_cons, marks_nil, star_one, one_star])
    · rintro D c pre B' H' hBx hJx
      exact hJx.elim
end RwI
end Go.Proofs.YtdidpocakipinaaGreatDoor

/-
  The law of nil tables.
-/
namespace Go.Proofs.YtdidpocakipinaaGreatDoor
open Go.SL Go.RowKit
set_option linter.unusedVariables false
set_option linter.unusedSimpArgs false
set_option maxRecDepth 100000
open Ke1 Ke3 Ke4 Ke5 Ke6 Ke7 Ke8 Ke9 KeA KeB KeC KeD KeE KeF KeG KeI RgA RgB BtB BtC BtD BtE BtG BtX BtH BtI BtF BtJ BtK BtL BtM BtN BtO BtR BtY BtZ DrA DrB DrC DrD DrE DrF RwA RwB BtQ BtS RwC RwD RwE RwF RwG RwH RwI
namespace RwJ
theorem sz3 : (Tryz.prog.info? 3).map (·.size) = some 1 := by kernel_rfl
theorem sz9 : (Tryz.prog.info? 9).map (·.size) = some 1 := by kernel_rfl
theorem sz25 : (Tryz.prog.info? 25).map (·.size) = some 6 := by kernel_rfl
theorem sz36 : (Tryz.prog.info? 36).map (·.size) = some 8 := by kernel_rfl
theorem sz48 : (Tryz.prog.info? 48).map (·.size) = some 2 := by kernel_rfl
theorem ti3 : TI Tryz.prog 3 [.int .i64 0] 1 8 := TI.of (by kernel_rfl) rfl rfl
theorem ti36 : TI Tryz.prog 36 [.int .u64 0, .int .u64 0, .int .i64 0, .bool false, .int .i64 0, str [], .slice none 0 0, .slice none 0 0] 8 104 := TI.of (by kernel_rfl) rfl rfl
theorem ti48 : TI Tryz.prog 48 [str [], str []] 2 32 := TI.of (by kernel_rfl) rfl rfl
theorem pl36 : PL Tryz.prog 36 [(0, 1), (1, 1), (2, 6)] := PL.of Tryz.underlying36 (by kernel_rfl)
theorem pl48 : PL Tryz.prog 48 [(0, 1), (1, 1)] := PL.of Tryz.underlying48 (by kernel_rfl)

end RwJ
end Go.Proofs.YtdidpocakipinaaGreatDoor
