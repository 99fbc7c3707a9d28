/-
  The numbers of a disk's files, in order.
-/
import Derived.Test.YtgcebieihmlaoaaProg
import Derived.Test.YtgcebieihmlaoaaSlj
import Derived.Test.YtgcebieihmlaoaaDkB
import Derived.Test.YtgcebieihmlaoaaShelf
namespace Go.Proofs.Ytgcebieihmlaoaa
open Go.SL Go.RowKit
set_option linter.unusedVariables false
set_option linter.unusedSimpArgs false
set_option maxRecDepth 100000
open DkA DkB
namespace DkC
theorem sz3 : (Try.prog.info? 3).map (·.size) = some 1 := by kernel_rfl
theorem sz5 : (Try.prog.info? 5).map (·.size) = some 1 := by kernel_rfl
theorem sz25 : (Try.prog.info? 25).map (·.size) = some 3 := by kernel_rfl
theorem sz39 : (Try.prog.info? 39).map (·.size) = some 1 := by kernel_rfl
theorem ti3 : TI Try.prog 3 [.int .i64 0] 1 8 := TI.of (by kernel_rfl) rfl rfl
theorem fo97_0 : FO Try.prog 97 0 0 1 false := FO.of Try.underlying97 rfl rfl (by kernel_rfl) Try.underlying94 rfl rfl

def kint (n : Int) : List Value := [i64 n]
theorem intsN (l : List Int) : (ints l).length = l.length := by simp [ints]

set_option maxHeartbeats 2000000 in
theorem Keys_it (fs : List Fi) (mb b1 : Nat) (B : Frag) : ItA Try.prog 74 [.pointer (some ⟨b1, 0, none⟩)] kint (fun xs : List Int => xs.length ≤ fs.length) (fun xs : List Int => xs.Perm (fs.map (·.m.n))) B (row b1 94 [.map (some mb)] * imap mb (fs.map fkv)) := by
  refine ⟨Go.SL.enters_of Try.func74 rfl (by kernel_rfl), fun lp J Jx hy B1 H1 hB1 hJ0 => ?_⟩
  refine Ct.of_bodyM Try.func74 rfl (nt := 14) rfl (by kernel_rfl) rfl ?_
  intro N0 w0 R
  simp only [star_assoc]
  refine Cx.seq (fun K1 k1 => ?_)
  refine Cx.region ?_
  refine Lx.y (ld Try.underlying94 rfl rfl rfl) rfl ?_
  refine Xx.openF mb fun Z c hS hZ => ?_
  refine Lx.o (rgM Try.underlying94 rfl) rfl (fun v B' H' hΦ hB => ?_)
  obtain ⟨it, rfl, hBB, rfl⟩ := hΦ
  have hBB2 := hBB.symm
  subst hBB2
  clear hB
  refine Lx.nil ?_
  refine Xx.tn (k1 _ _ _ _ ?_)
  refine Cx.block ?_
  refine Cx.loopK (Sub.cons (s := 0) rfl (Sub.cons (s := 1) rfl (Sub.cons (s := 4) rfl (Sub.cons (s := 5) rfl (Sub.nil _))))) (fun m ρ' B' H' => ∃ (dz : List (Fi × Nat)) (B2 : Frag) (H2 : HP), (VisF Z dz ∧ J (dz.map (·.1.m.n)) B2 H2 ∧ B1.le B2) ∧ m = Z.length - dz.length ∧ ρ' = [] ∧ B2 = B' ∧ blk it (itObj mb c (dz.map (mz fkv))) * (blk mb (mapObj (Z.map (mz fkv)) c) * (row b1 94 [.map (some mb)] * (H2 * R))) = H') ⟨[], _, _, ⟨VisF.nil Z, hJ0, Frag.le_refl _⟩, rfl, rfl, rfl, by ac_rfl⟩ (Sub.cons (s := 0) rfl (Sub.cons (s := 1) rfl (Sub.cons (s := 4) rfl (Sub.cons (s := 5) rfl (Sub.nil _))))) ?_
  rintro m ρ' B' H' ⟨dz, B2, H2, ⟨hv, hJ, hB2⟩, rfl, rfl, rfl, rfl⟩
  refine Cx.seq (fun K2 k2 => ?_)
  refine Cx.region ?_
  refine Lx.o (nxF hS hv rfl) rfl (fun v B' H' hΦ hB => ?_)
  obtain ⟨o, dz2, rfl, ha, hBB, rfl⟩ := hΦ
  have hBB2 := hBB.symm
  subst hBB2
  clear hB
  refine Lx.y (ext rfl (nx0 _)) rfl ?_
  refine Lx.nil ?_
  refine Xx.tn (k2 _ _ _ _ ?_)
  refine Cx.seq (fun K3 k3 => ?_)
  refine Cx.condB rfl (fun h4 => ?_) (fun h4 => ?_)
  · skip
    obtain ⟨z, rfl⟩ : ∃ z, o = some z := by
      cases o with
      | none => exact absurd h4 (by simp)
      | some z => exact ⟨z, rfl⟩
    obtain ⟨rfl, hzZ, hzn⟩ := ha
    have hv2 := hv.step hzZ hzn
    have hvl := hv2.len
    rw [List.length_append, List.length_singleton] at hvl
    have hZl : Z.length = fs.length := by rw [← hZ, List.length_map]
    refine Cx.skip ?_
    refine Xx.tn (k3 _ _ _ _ ?_)
    refine Cx.block ?_
    refine Cx.seq (fun K5 k5 => ?_)
    refine Cx.region ?_
    refine Lx.y (entF hS hzZ rfl) rfl ?_
    refine Lx.y (ext rfl rfl) rfl ?_
    refine Lx.y (asg rfl) rfl ?_
    refine Lx.nil ?_
    refine Xx.tn (k5 _ _ _ _ ?_)
    refine Cx.seq (fun K6 k6 => ?_)
    refine Cx.region ?_
    refine Lx.y (mv rfl) rfl ?_
    refine Lx.y (mv rfl) rfl ?_
    refine Lx.yield rfl rfl (hy (dz.map (·.1.m.n)) z.1.m.n B2 H2 (by show (dz.map (·.1.m.n) ++ [z.1.m.n]).length ≤ fs.length; rw [List.length_append, List.length_map, List.length_singleton]; omega) (Frag.le_trans hB1 hB2) hJ) (show _ = H2 * (blk it (itObj mb c ((dz ++ [z]).map (mz fkv))) * (blk mb (mapObj (Z.map (mz fkv)) c) * (row b1 94 [.map (some mb)] * R))) by ac_rfl) rfl ?_
    rintro t B7 H7 hΦ hB7
    refine Lx.y (not' rfl) rfl ?_
    refine Lx.nil ?_
    refine Xx.tn (k6 _ _ _ _ ?_)
    refine Cx.condB rfl (fun h7 => ?_) (fun h7 => ?_)
    · skip
      obtain ⟨_, hΦ⟩ : t = false ∧ Jx (dz.map (·.1.m.n) ++ [z.1.m.n]) B7 H7 := by simpa [show t = false by simpa using h7] using hΦ
      refine Cx.ret ?_
      refine Xx.br ?_
      refine Xx.tr ?_
      refine Xx.br ?_
      refine Xx.closeF mb hS hZ (Xx.dropB it ?_)
      exact Xx.rM (Ds := []) (fun a w f _ => results_none rfl _ _ _) ⟨H7, rfl, .inr ⟨_, hΦ⟩⟩ (Frag.le_trans hB2 hB7) (by rw [marks_nil, one_star]; ac_rfl)
    · skip
      obtain ⟨_, hΦ⟩ : t = true ∧ J (dz.map (·.1.m.n) ++ [z.1.m.n]) B7 H7 := by simpa [show t = true by simpa using h7] using hΦ
      refine Cx.skip ?_
      refine Xx.bn ?_
      exact Xx.againK ⟨dz ++ [z], _, _, ⟨hv2, by rw [List.map_append]; exact hΦ, Frag.le_trans hB2 hB7⟩, rfl, rfl, rfl, (by ac_rfl)⟩ (by rw [List.length_append, List.length_singleton]; omega) (Sub.cons (s := 0) rfl (Sub.cons (s := 1) rfl (Sub.cons (s := 4) rfl (Sub.cons (s := 5) rfl (Sub.nil _)))))
  · skip
    obtain rfl : o = none := by
      cases o with
      | none => rfl
      | some z => exact absurd h4 (by simp)
    obtain ⟨rfl, hall⟩ := ha
    have hp := hv.all hS hall
    rw [hZ] at hp
    refine Cx.exit ?_
    refine Xx.te ?_
    refine Xx.te ?_
    refine Xx.bh ?_
    refine Xx.closeF mb hS hZ (Xx.dropB it ?_)
    exact Xx.eM [] rfl (fun a w f _ => results_none rfl _ _ _) ⟨H2, rfl, .inl ⟨_, by have := hp.map (·.m.n); rw [List.map_map] at this; exact this, hJ⟩⟩ hB2 (by rw [marks_nil, one_star]; ac_rfl)

set_option maxHeartbeats 1000000 in
theorem Keys_ct (mb : Nat) (B : Frag) : Ct Try.prog 46 [.map (some mb)] B 1 (fun v B' H' => B' = B ∧ ∃ b1, v = .func (.func 74) #[] #[.pointer (some ⟨b1, 0, none⟩)] ∧ H' = row b1 94 [.map (some mb)]) := by
  refine Ct.of_body Try.func46 rfl (nt := 4) rfl (by kernel_rfl) rfl ?_
  intro N0 w0 R
  rw [one_star]
  refine Cx.seq (fun K1 k1 => ?_)
  refine Cx.region ?_
  refine Lx.new (boxO rfl rfl) rfl (fun b1 => ?_)
  refine Lx.y (asg rfl) rfl ?_
  refine Lx.nil ?_
  refine Xx.tn (k1 _ _ _ _ ?_)
  refine Cx.seq (fun K2 k2 => ?_)
  refine Cx.region ?_
  refine Lx.y (mkf rfl rfl) rfl ?_
  refine Lx.y (asg rfl) rfl ?_
  refine Lx.nil ?_
  refine Xx.tn (k2 _ _ _ _ ?_)
  refine Cx.ret ?_
  exact Xx.ret1 rfl rfl ⟨rfl, b1, rfl, rfl⟩ (Frag.le_refl _) rfl

set_option maxHeartbeats 2000000 in
theorem AppSeq_ct (fs : List Fi) (mb b1 : Nat) (B : Frag) (hn : fs.length ≤ 1000000) : Ct Try.prog 89 [.slice none 0 0, .func (.func 74) #[] #[.pointer (some ⟨b1, 0, none⟩)]] B (row b1 94 [.map (some mb)] * imap mb (fs.map fkv)) (fun v B' H' => ∃ xs A c, v = .slice A xs.length c ∧ xs.Perm (fs.map (·.m.n)) ∧ H' = (row b1 94 [.map (some mb)] * imap mb (fs.map fkv)) * sbuf 3 1 A xs.length c (ints xs)) := by
  refine Ct.of_bodyM Try.func89 rfl (nt := 13) rfl (by kernel_rfl) rfl ?_
  intro N0 w0 R
  refine Cx.seq (fun K1 k1 => ?_)
  refine Cx.region ?_
  refine Lx.new (boxO rfl rfl) rfl (fun b2 => ?_)
  refine Lx.y (asg rfl) rfl ?_
  refine Lx.nil ?_
  refine Xx.tn (k1 _ _ _ _ ?_)
  refine Cx.seq (fun K2 k2 => ?_)
  refine Cx.seq (fun K3 k3 => ?_)
  refine Cx.region ?_
  refine Lx.y (mv rfl) rfl ?_
  refine Lx.nil ?_
  refine Xx.tn (k3 _ _ _ _ ?_)
  refine Cx.block ?_
  refine Cx.rangeA (σ := _) (Sub.cons (s := 2) rfl (Sub.nil _)) rfl rfl (Keys_it fs mb b1 B) (show _ = (row b1 94 [.map (some mb)] * imap mb (fs.map fkv)) * ((row b2 39 [.slice none 0 0] * sbuf 3 1 none 0 0 (ints [])) * R) by rw [show ints [] = [] from rfl, sbuf_nil, star_one]; ac_rfl) rfl (fun _ => rfl) (fun pre B' H' => ∃ A c, H' = row b2 39 [.slice A pre.length c] * sbuf 3 1 A pre.length c (ints pre)) (fun _ _ _ _ => False) (fun pre x B1 ρ' B' H' => ρ' = [(5, i64 x)] ∧ pre.length + 1 ≤ fs.length ∧ B' = B1 ∧ ∃ A c, H' = row b2 39 [.slice A pre.length c] * sbuf 3 1 A pre.length c (ints pre)) (⟨none, 0, rfl⟩) ?_ ?_ ?_ ?_
  · rintro lz Nz wz pre x B1 H1 F K hxs hB1 hJ hK
    rw [List.length_append, List.length_singleton] at hxs
    refine Cx.region ?_
    refine Lx.y (asg rfl) rfl ?_
    refine Lx.nil ?_
    refine Xx.tn ?_
    exact Xx.sub (hK _ _ _ ⟨rfl, hxs, rfl, hJ⟩ (Frag.le_refl _)) (Sub.cons (s := 5) rfl (Sub.cons (s := 2) rfl (Sub.nil _)))
  · rintro lz Nz wz pre x B1 F ρ' B' H' hxs hB1 hBx hAS
    obtain ⟨rfl, hpl, hBB, A, c, rfl⟩ := hAS
    subst hBB
    rename Frag => B5
    simp only [star_assoc]
    refine Cx.block ?_
    refine Cx.region ?_
    refine Lx.y (ld Try.underlying39 rfl rfl rfl) rfl ?_
    refine Lx.y (mv rfl) rfl ?_
    refine Lx.bsl (bsl1 Try.underlying39 ti3 rfl rfl rfl (by decide)) rfl (fun bv => ?_)
    refine Lx.o (appN (A := A) (pre.length + 1) [i64 x] (ints (pre ++ [x])) Try.underlying39 Try.underlying39 ti3 rfl rfl rfl rfl rfl (by omega) (by omega) rfl (by simp [ints])) rfl (fun v B' H' hΦ hB => ?_)
    obtain ⟨A2, c2, rfl, hA2, hl2, hc2, hBB, rfl⟩ := hΦ
    subst hBB
    clear hB
    refine Lx.st (stO Try.underlying39 sz39 rfl rfl rfl (by simp) rfl) ?_
    refine Lx.nil ?_
    refine Xx.bn ?_
    refine Xx.dropB bv ?_
    exact Xx.rqn ⟨A2, c2, by rw [List.length_append]⟩ (Frag.le_refl _) (by ac_rfl)
  · rintro D xs B' H' hxs hBx hJ
    obtain ⟨A, c, rfl⟩ := hJ
    simp only [star_assoc]
    refine Xx.bn ?_
    refine Xx.tn (k2 _ _ _ _ ?_)
    refine Cx.seq (fun K4 k4 => ?_)
    refine Cx.region ?_
    refine Lx.y (ld Try.underlying39 rfl rfl rfl) rfl ?_
    refine Lx.y (asg rfl) rfl ?_
    refine Lx.nil ?_
    refine Xx.tn (k4 _ _ _ _ ?_)
    refine Cx.ret ?_
    refine Xx.dropB b2 ?_
    exact Xx.rM (Ds := [D]) (res1 rfl rfl) ⟨xs, A, c, rfl, hxs, rfl⟩ hBx (by rw [marks_cons, marks_nil, star_one]; ac_rfl)
  · rintro D c pre B' H' hBx hJx
    exact hJx.elim

set_option maxHeartbeats 1000000 in
theorem Collect_ct (fs : List Fi) (mb b1 : Nat) (B : Frag) (hn : fs.length ≤ 1000000) : Ct Try.prog 72 [.func (.func 74) #[] #[.pointer (some ⟨b1, 0, none⟩)]] B (row b1 94 [.map (some mb)] * imap mb (fs.map fkv)) (fun v B' H' => ∃ xs A c, v = .slice A xs.length c ∧ xs.Perm (fs.map (·.m.n)) ∧ H' = (row b1 94 [.map (some mb)] * imap mb (fs.map fkv)) * sbuf 3 1 A xs.length c (ints xs)) := by
  refine Ct.of_body Try.func72 rfl (nt := 5) rfl (by kernel_rfl) rfl ?_
  intro N0 w0 R
  refine Cx.seq (fun K1 k1 => ?_)
  refine Cx.region ?_
  refine Lx.y (asg rfl) rfl ?_
  refine Lx.nil ?_
  refine Xx.tn (k1 _ _ _ _ ?_)
  refine Cx.seq (fun K2 k2 => ?_)
  refine Cx.region ?_
  refine Lx.y (mv rfl) rfl ?_
  refine Lx.c rfl rfl rfl (AppSeq_ct fs mb b1 _ hn) (rfl) rfl ?_
  rintro v1 B1 H1 ⟨xs, A, c, rfl, hp, rfl⟩ hB1
  refine Lx.y (asg rfl) rfl ?_
  refine Lx.nil ?_
  refine Xx.tn (k2 _ _ _ _ ?_)
  refine Cx.ret ?_
  exact Xx.ret1 rfl rfl ⟨xs, A, c, rfl, hp, rfl⟩ hB1 rfl

theorem Sort_ct (zs : List Int) (A : Option Addr) (c : Nat) (et : TypeId) (B : Frag) (hz : zs.length < 4611686018427387904) :
    Ct Try.prog 73 [.slice A zs.length c] B (sbuf et 1 A zs.length c (ints zs)) (fun v B' H' => B' = B ∧ v = .tuple #[] ∧ H' = sbuf et 1 A zs.length c (ints (sortI zs))) :=
  Ct.of_sort (Go.SL.enters_of Try.func73 rfl (by kernel_rfl)) (fun blk off cap zs w h1 h2 h3 => Shelf.slices_Sort_int blk off cap zs w h1 h2 h3) (fun p cap w => Shelf.slices_Sort_int_none p cap w) zs A c et B hz
/-- two lists with the same members, each as often, are in order the same -/
theorem sortI_perm {xs ys : List Int} (h : xs.Perm ys) : sortI xs = sortI ys := by
  have ht : ∀ a b c : Int, decide (a ≤ b) = true → decide (b ≤ c) = true → decide (a ≤ c) = true := fun a b c h1 h2 => by
    simp only [decide_eq_true_eq] at *; omega
  have hl : ∀ a b : Int, (decide (a ≤ b) || decide (b ≤ a)) = true := fun a b => by
    rw [Bool.or_eq_true, decide_eq_true_eq, decide_eq_true_eq]; omega
  have p1 := List.pairwise_mergeSort ht hl xs
  have p2 := List.pairwise_mergeSort ht hl ys
  have hp : (sortI xs).Perm (sortI ys) := ((List.mergeSort_perm xs _).trans h).trans (List.mergeSort_perm ys _).symm
  refine List.Perm.eq_of_pairwise ?_ p1 p2 hp
  intro a b _ _ h1 h2
  simp only [decide_eq_true_eq] at h1 h2
  omega
theorem sortI_len (xs : List Int) : (sortI xs).length = xs.length := List.length_mergeSort _

set_option maxHeartbeats 1000000 in
theorem Sorted_ct (fs : List Fi) (mb b1 : Nat) (B : Frag) (hn : fs.length ≤ 1000000) : Ct Try.prog 45 [.func (.func 74) #[] #[.pointer (some ⟨b1, 0, none⟩)]] B (row b1 94 [.map (some mb)] * imap mb (fs.map fkv)) (fun v B' H' => ∃ A c, v = .slice A fs.length c ∧ H' = (row b1 94 [.map (some mb)] * imap mb (fs.map fkv)) * sbuf 3 1 A fs.length c (ints (sortI (fs.map (·.m.n))))) := by
  refine Ct.of_body Try.func45 rfl (nt := 9) rfl (by kernel_rfl) rfl ?_
  intro N0 w0 R
  refine Cx.seq (fun K1 k1 => ?_)
  refine Cx.region ?_
  refine Lx.y (asg rfl) rfl ?_
  refine Lx.nil ?_
  refine Xx.tn (k1 _ _ _ _ ?_)
  refine Cx.seq (fun K2 k2 => ?_)
  refine Cx.region ?_
  refine Lx.y (mv rfl) rfl ?_
  refine Lx.c rfl rfl rfl (Collect_ct fs mb b1 _ hn) (rfl) rfl ?_
  rintro v1 B1 H1 ⟨xs, A, c, rfl, hp, rfl⟩ hB1
  have hxl : xs.length = fs.length := by rw [hp.length_eq, List.length_map]
  simp only [star_assoc]
  refine Lx.y (asg rfl) rfl ?_
  refine Lx.nil ?_
  refine Xx.tn (k2 _ _ _ _ ?_)
  refine Cx.seq (fun K3 k3 => ?_)
  refine Cx.region ?_
  refine Lx.y (mv rfl) rfl ?_
  refine Lx.c rfl rfl rfl (Sort_ct xs A c _ _ (by omega)) (pickS _) rfl ?_
  rintro v2 B2 H2 ⟨hBB, rfl, rfl⟩ hB2
  subst hBB
  rw [sortI_perm hp, hxl]
  refine Lx.nil ?_
  refine Xx.tn (k3 _ _ _ _ ?_)
  refine Cx.seq (fun K4 k4 => ?_)
  refine Cx.region ?_
  refine Lx.y (mv rfl) rfl ?_
  refine Lx.y (asg rfl) rfl ?_
  refine Lx.nil ?_
  refine Xx.tn (k4 _ _ _ _ ?_)
  refine Cx.ret ?_
  exact Xx.ret1 rfl rfl ⟨A, c, rfl, rfl⟩ hB1 (by ac_rfl)

set_option maxHeartbeats 1000000 in
theorem Files_ct (d : Dk) (db : Nat) (B : Frag) (hn : d.fs.length ≤ 1000000) : Ct Try.prog 12 [.pointer (some ⟨db, 0, none⟩)] B (dkH db d) (fun v B' H' => ∃ A c, v = .slice A d.fs.length c ∧ H' = dkH db d * sbuf 3 1 A d.fs.length c (ints (sortI (d.fs.map (·.m.n))))) := by
  refine Ct.of_body Try.func12 rfl (nt := 11) rfl (by kernel_rfl) rfl ?_
  intro N0 w0 R
  unfold dkH
  simp only [star_assoc]
  refine Cx.seq (fun K1 k1 => ?_)
  refine Cx.region ?_
  refine Lx.y (asg rfl) rfl ?_
  refine Lx.nil ?_
  refine Xx.tn (k1 _ _ _ _ ?_)
  refine Cx.seq (fun K2 k2 => ?_)
  refine Cx.seq (fun K3 k3 => ?_)
  refine Cx.region ?_
  refine Lx.y (mv rfl) rfl ?_
  refine Lx.y (Yx.ff (eqNilP Try.underlying26 rfl rfl) rfl) rfl ?_
  refine Lx.nil ?_
  refine Xx.tn (k3 _ _ _ _ ?_)
  refine Cx.condF rfl ?_
  refine Cx.skip ?_
  refine Xx.tn (k2 _ _ _ _ ?_)
  refine Cx.seq (fun K4 k4 => ?_)
  refine Cx.region ?_
  refine Lx.y (mv rfl) rfl ?_
  refine Lx.y (nilc rfl) rfl ?_
  refine Lx.y (fa' fo97_0 rfl) rfl ?_
  refine Lx.y (ld Try.underlying94 rfl rfl rfl) rfl ?_
  refine Lx.c rfl rfl rfl (Keys_ct d.mb _) ((one_star _).symm) rfl ?_
  rintro v1 B1 H1 ⟨hBB, b1, rfl, rfl⟩ hB1
  subst hBB
  clear hB1
  refine Lx.c rfl rfl rfl (Sorted_ct d.fs d.mb b1 _ hn) ((show _ = (row b1 94 [.map (some d.mb)] * imap d.mb (d.fs.map fkv)) * (row db 97 (dcs d) * (sbuf 25 3 d.Ap d.plan.length d.cp (d.plan.flatMap scs) * (fisH d.fs * R))) by ac_rfl)) rfl ?_
  rintro v2 B2 H2 ⟨A, c, rfl, rfl⟩ hB2
  simp only [star_assoc]
  refine Lx.y (asg rfl) rfl ?_
  refine Lx.nil ?_
  refine Xx.tn (k4 _ _ _ _ ?_)
  refine Cx.ret ?_
  refine Xx.dropB b1 ?_
  exact Xx.ret1 rfl rfl ⟨A, c, rfl, rfl⟩ hB2 (by ac_rfl)
end DkC
end Go.Proofs.Ytgcebieihmlaoaa
