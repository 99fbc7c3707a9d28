/-
  JournalBlanks: whatever the input, the law answers true, and the input reads as it did.
-/
import Derived.Test.YtgcebieihmlaoaaProg
import Derived.SizedLaws
import Derived.Deep.Strs
import Derived.Test.YtgcebieihmlaoaaRows
import Derived.Test.YtgcebieihmlaoaaMg5

/-
  Noughts are written over bytes of a record: the walk, the plain laws.
-/
namespace Go.Proofs.Ytgcebieihmlaoaa
open Go.SL Go.RowKit
set_option linter.unusedVariables false
set_option linter.unusedSimpArgs false
set_option maxRecDepth 100000
open DkA DkB DkD DkE DkF DkG DkH DkI DkJ DkL DkN Fr1 Jn1 Jn2 Jn3 Jn4 Jn5 Jn6
namespace Jn11
theorem sz3 : (Try.prog.info? 3).map (·.size) = some 1 := by kernel_rfl
theorem sz4 : (Try.prog.info? 4).map (·.size) = some 1 := by kernel_rfl
theorem sz9 : (Try.prog.info? 9).map (·.size) = some 1 := by kernel_rfl
theorem sz74 : (Try.prog.info? 74).map (·.size) = some 4 := by kernel_rfl
theorem sz115 : (Try.prog.info? 115).map (·.size) = some 5 := by kernel_rfl
theorem ti5 : TI Try.prog 5 [.int .u8 0] 1 1 := TI.of (by kernel_rfl) rfl rfl
theorem ti9 : TI Try.prog 9 [str []] 1 16 := TI.of (by kernel_rfl) rfl rfl
theorem ti74 : TI Try.prog 74 [.int .i64 0, .int .i64 0, str [], .bool false] 4 40 := TI.of (by kernel_rfl) rfl rfl
theorem fo74_0 : FO Try.prog 74 0 0 1 false := FO.of Try.underlying74 rfl rfl (by kernel_rfl) Try.underlying3 rfl rfl
theorem fo74_1 : FO Try.prog 74 1 1 1 false := FO.of Try.underlying74 rfl rfl (by kernel_rfl) Try.underlying3 rfl rfl
theorem fo74_2 : FO Try.prog 74 2 2 1 false := FO.of Try.underlying74 rfl rfl (by kernel_rfl) Try.underlying9 rfl rfl
theorem fo74_3 : FO Try.prog 74 3 3 1 false := FO.of Try.underlying74 rfl rfl (by kernel_rfl) Try.underlying4 rfl rfl
theorem fo115_0 : FO Try.prog 115 0 0 1 false := FO.of Try.underlying115 rfl rfl (by kernel_rfl) Try.underlying26 rfl rfl
theorem fo115_4 : FO Try.prog 115 4 4 1 false := FO.of Try.underlying115 rfl rfl (by kernel_rfl) Try.underlying113 rfl rfl

theorem rcc_setG : ∀ (l : List Rc) (i : Nat) (h : i < l.length) (k : Nat) (hk : k < 4) (v : Value) (r' : Rc) (he : (rcc l[i]).set k v = rcc r'), (l.flatMap rcc).set (i * 4 + k) v = (l.set i r').flatMap rcc := by
  intro l
  induction l with
  | nil => intro i h; simp at h
  | cons x l ih =>
    intro i h k hk v r' he
    cases i with
    | zero =>
      rw [List.flatMap_cons, List.set_cons_zero, List.flatMap_cons, ← show (rcc x).set k v = rcc r' from he, Nat.zero_mul, Nat.zero_add, List.set_append_left _ _ (by rw [rcc_len]; exact hk)]
    | succ i =>
      have h' : i < l.length := by simpa using h
      rw [List.flatMap_cons, List.set_cons_succ, List.flatMap_cons, ← ih i h' k hk v r' he, List.set_append_right _ _ (by rw [rcc_len]; omega), rcc_len, show (i + 1) * 4 + k - 4 = i * 4 + k by omega]
theorem rcc_get (l : List Rc) {i : Nat} (h : i < l.length) (k : Nat) (hk : k < 4) : (l.flatMap rcc)[i * 4 + k]? = (rcc l[i])[k]? := by
  have h1 := DkF.flatG_at rcc_len i l h
  rw [← h1, List.getElem?_take_of_lt hk, List.getElem?_drop]
theorem repeat_zero (n : Nat) : Lib.repeatL [(0 : UInt8)] n = List.replicate n 0 := by
  induction n with
  | zero => rfl
  | succ n ih => rw [List.replicate_succ, ← ih]; rfl
theorem Repeat_ct (n : Nat) (B : Frag) (hn : n ≤ 140737488355328) : CtP Try.prog 63 [str [0], i64 (n : Int)] B (str (List.replicate n 0)) :=
  CtP.of_calls (Go.SL.enters_of Try.func63 rfl (by kernel_rfl)) fun w _ => by
    have h := Shelf.strings_Repeat ⟨#[0]⟩ n w (by omega) (by show 1 * n ≤ _; omega)
    rw [show (⟨#[(0 : UInt8)]⟩ : ByteArray).data.toList = [0] from rfl, repeat_zero] at h
    exact h
/-- what noughts do to the disk -/
def blankD (D : Dm) (file at_ n : Nat) : Dm × Int :=
  if (writeD D (file : Int) (at_ : Int) (List.replicate n 0)).2 ≠ 0 then writeD D (file : Int) (at_ : Int) (List.replicate n 0) else syncD (writeD D (file : Int) (at_ : Int) (List.replicate n 0)).1 (file : Int)

set_option maxHeartbeats 8000000 in
theorem JBlank_ct (jb : Nat) (j : Jn) (d : Dk) (i fr n : Nat) (r : Rc) (K L C : Nat) (B : Frag) (hi : i < j.l.length) (hr : j.l[i] = r) (hfn : fr + n ≤ r.body.length) (hrb : r.body.length ≤ 65536) (hra : r.at_ ≤ 1000000000000) (hc : DkN.Calm K L C d.abs) (hK : K ≤ 900000) (hL : L ≤ 10000000000) (hC : C ≤ 1000000000) : Ct Try.prog 39 [.pointer (some ⟨jb, 0, none⟩), i64 (i : Int), i64 (fr : Int), i64 (n : Int)] B (jnH jb j * dkH j.db d) (fun v B' H' => ∃ d' : Dk, d'.abs = (blankD d.abs r.file (r.at_ + fr) n).1 ∧ v = i64 (blankD d.abs r.file (r.at_ + fr) n).2 ∧ ((blankD d.abs r.file (r.at_ + fr) n).2 ≠ 0 → H' = jnH jb j * dkH j.db d') ∧ ((blankD d.abs r.file (r.at_ + fr) n).2 = 0 → H' = jnH jb { j with l := j.l.set i { r with body := (r.body.take fr ++ List.replicate n 0 ++ r.body.drop (fr + n)), good := r.good && decide ((r.body.take fr ++ List.replicate n 0 ++ r.body.drop (fr + n)) = r.body) } } * dkH j.db d')) := by
  have hF := hc.fit (by omega) (by omega) (by omega)
  have hc1 := hc.write (r.file : Int) ((r.at_ + fr : Nat) : Int) (List.replicate n 0)
  have hF1 := hc1.fit (by omega) (by omega) (by omega)
  refine Ct.of_body Try.func39 rfl (nt := 121) rfl (by kernel_rfl) rfl ?_
  intro N0 w0 R
  simp only [star_assoc]
  refine Cx.seq (fun K1 k1 => ?_)
  refine Cx.region ?_
  refine Lx.y (asg rfl) rfl ?_
  refine Lx.nil ?_
  refine Xx.tn (k1 _ _ _ _ ?_)
  refine Cx.seq (fun K2 k2 => ?_)
  refine Cx.region ?_
  refine Lx.y (mv rfl) rfl ?_
  refine Lx.y (mv rfl) rfl ?_
  refine Lx.co rfl rfl rfl (JAt_ct jb j i _) (Pick.eq) rfl ?_
  rw [atV_in hi, hr]
  refine Lx.y (mv rfl) rfl ?_
  refine Lx.y (ext rfl rfl) rfl ?_
  refine Lx.y (ext rfl rfl) rfl ?_
  refine Lx.new (allocO ti74) rfl (fun b9 => ?_)
  refine Lx.st (stA (d := .bool) sz74 rfl rfl rfl rfl (by show 0 + 4 ≤ 4; omega) rfl) ?_
  refine Lx.y (asg rfl) rfl ?_
  refine Lx.nil ?_
  refine Xx.tn (k2 _ _ _ _ ?_)
  refine Cx.seq (fun K3 k3 => ?_)
  refine Cx.seq (fun K4 k4 => ?_)
  refine Cx.region ?_
  refine Lx.y (mv rfl) rfl ?_
  refine Lx.y (not' rfl) rfl ?_
  refine Lx.y (mv rfl) rfl ?_
  refine Lx.gT rfl rfl rfl ?_
  refine Lx.y (mv rfl) rfl ?_
  refine Lx.gT rfl rfl rfl ?_
  refine Lx.y (Yx.ff (lss rfl rfl) (decide_eq_false (by omega))) rfl ?_
  refine Lx.y (pickF rfl rfl) rfl ?_
  refine Lx.y (mv rfl) rfl ?_
  refine Lx.gT rfl rfl rfl ?_
  refine Lx.y (mv rfl) rfl ?_
  refine Lx.gT rfl rfl rfl ?_
  refine Lx.y (Yx.ff (lss rfl rfl) (decide_eq_false (by omega))) rfl ?_
  refine Lx.y (pickF rfl rfl) rfl ?_
  refine Lx.y (mv rfl) rfl ?_
  refine Lx.gT rfl rfl rfl ?_
  refine Lx.y (mv rfl) rfl ?_
  refine Lx.gT rfl rfl rfl ?_
  refine Lx.y (fa' fo74_2 rfl) rfl ?_
  refine Lx.gT rfl rfl rfl ?_
  refine Lx.y (ld Try.underlying9 rfl rfl rfl) rfl ?_
  refine Lx.gT rfl rfl rfl ?_
  refine Lx.y (lenS Try.underlying9 rfl) rfl ?_
  refine Lx.gT rfl rfl rfl ?_
  refine Lx.y (Yx.ff (gtr rfl rfl) (decide_eq_false (by omega))) rfl ?_
  refine Lx.y (pickF rfl rfl) rfl ?_
  refine Lx.y (mv rfl) rfl ?_
  refine Lx.gT rfl rfl rfl ?_
  refine Lx.y (mv rfl) rfl ?_
  refine Lx.gT rfl rfl rfl ?_
  refine Lx.y (fa' fo74_2 rfl) rfl ?_
  refine Lx.gT rfl rfl rfl ?_
  refine Lx.y (ld Try.underlying9 rfl rfl rfl) rfl ?_
  refine Lx.gT rfl rfl rfl ?_
  refine Lx.y (lenS Try.underlying9 rfl) rfl ?_
  refine Lx.gT rfl rfl rfl ?_
  refine Lx.y (mv rfl) rfl ?_
  refine Lx.gT rfl rfl rfl ?_
  refine Lx.y (sub rfl rfl (by exact wrap64 (by omega) (by omega))) rfl ?_
  refine Lx.gT rfl rfl rfl ?_
  refine Lx.y (Yx.ff (gtr rfl rfl) (decide_eq_false (by omega))) rfl ?_
  refine Lx.y (pickF rfl rfl) rfl ?_
  refine Lx.nil ?_
  refine Xx.tn (k4 _ _ _ _ ?_)
  refine Cx.condF rfl ?_
  refine Cx.skip ?_
  refine Xx.tn (k3 _ _ _ _ ?_)
  refine Cx.seq (fun K5 k5 => ?_)
  refine Cx.region ?_
  refine Lx.y (mv rfl) rfl ?_
  refine Lx.cp rfl rfl rfl (Repeat_ct n _ (by omega)) rfl ?_
  refine Lx.y (asg rfl) rfl ?_
  refine Lx.nil ?_
  refine Xx.tn (k5 _ _ _ _ ?_)
  refine Cx.seq (fun K6 k6 => ?_)
  refine Cx.seq (fun K7 k7 => ?_)
  have hjo : jnH jb j = row jb 115 (jcs j) * sbuf 74 4 j.Al j.l.length j.cl (j.l.flatMap rcc) := rfl
  rw [hjo]
  simp only [star_assoc]
  refine Cx.drawn (by kernel_rfl) ?_
  refine Dx.p (i := 0) rfl (by kernel_rfl) (mv rfl) rfl ?_
  refine Dx.p (i := 1) rfl (by kernel_rfl) (nilc rfl) rfl ?_
  refine Dx.p (i := 2) rfl (by kernel_rfl) (fa' fo115_0 rfl) rfl ?_
  refine Dx.r (i := 3) rfl (by kernel_rfl) (ld Try.underlying26 rfl rfl rfl) rfl ?_
  refine Dx.p (i := 4) rfl (by kernel_rfl) (fa' fo74_0 rfl) rfl ?_
  refine Dx.r (i := 5) rfl (by kernel_rfl) (ld Try.underlying3 rfl rfl rfl) rfl ?_
  refine Dx.p (i := 6) rfl (by kernel_rfl) (fa' fo74_1 rfl) rfl ?_
  refine Dx.r (i := 7) rfl (by kernel_rfl) (ld Try.underlying3 rfl rfl rfl) rfl ?_
  refine Dx.p (i := 8) rfl (by kernel_rfl) (mv rfl) rfl ?_
  refine Dx.p (i := 9) rfl (by kernel_rfl) (Yx.val (add rfl rfl (by first | exact wrap64 (by omega) (by omega) | rfl)) (show _ = i64 ((r.at_ + fr : Nat) : Int) from rfl)) rfl ?_
  refine Dx.p (i := 10) rfl (by kernel_rfl) (mv rfl) rfl ?_
  refine Dx.one (i := 11) (by kernel_rfl) ?_
  refine Dstep.o (i := 11) rfl (Ox.call rfl rfl rfl (Write_ct d j.db (r.file : Int) ((r.at_ + fr : Nat) : Int) (List.replicate n 0) _ hF (by rw [List.length_replicate]; omega)) (Pick.eq)) rfl (fun v B' H' hΦ hB => ?_)
  obtain ⟨_, rfl, hΦ⟩ := hΦ
  obtain ⟨rfl, d1, hd1, rfl⟩ := hΦ
  have hB1 := hB
  refine ⟨JOk.yes (JOk.edge (JOk.edge (JOk.top) (by kernel_rfl)) (by kernel_rfl)) (ld Try.underlying3 rfl rfl rfl), ?_⟩
  refine Dx.p (i := 12) rfl (by kernel_rfl) (asg rfl) rfl ?_
  refine Dx.done (by kernel_rfl) ?_
  refine Xx.tn (k7 _ _ _ _ ?_)
  refine Cx.seq (fun K8 k8 => ?_)
  refine Cx.region ?_
  refine Lx.y (mv rfl) rfl ?_
  refine Lx.y (neI rfl rfl) rfl ?_
  refine Lx.nil ?_
  refine Xx.tn (k8 _ _ _ _ ?_)
  refine Cx.condN rfl (fun h9 => ?_) (fun h9 => ?_)
  · skip
    have he1 := h9
    have had : (blankD d.abs r.file (r.at_ + fr) n) = writeD d.abs (r.file : Int) ((r.at_ + fr : Nat) : Int) (List.replicate n 0) := by unfold blankD; rw [if_pos he1]
    refine Cx.seq (fun K10 k10 => ?_)
    refine Cx.region ?_
    refine Lx.y (mv rfl) rfl ?_
    refine Lx.y (asg rfl) rfl ?_
    refine Lx.nil ?_
    refine Xx.tn (k10 _ _ _ _ ?_)
    refine Cx.ret ?_
    refine Xx.tr ?_
    refine Xx.dropB b9 ?_
    exact Xx.ret1 rfl rfl ⟨d1, by rw [had]; exact hd1, by rw [had], fun _ => rfl, fun h => absurd h (by rw [had]; exact he1)⟩ hB1 (by rw [hjo]; ac_rfl)
  · skip
    have he1 := h9
    have had : (blankD d.abs r.file (r.at_ + fr) n) = syncD (writeD d.abs (r.file : Int) ((r.at_ + fr : Nat) : Int) (List.replicate n 0)).1 (r.file : Int) := by unfold blankD; rw [if_neg (fun h => h he1)]
    refine Cx.skip ?_
    refine Xx.tn (k6 _ _ _ _ ?_)
    refine Cx.seq (fun K11 k11 => ?_)
    refine Cx.seq (fun K12 k12 => ?_)
    refine Cx.drawn (by kernel_rfl) ?_
    refine Dx.p (i := 0) rfl (by kernel_rfl) (mv rfl) rfl ?_
    refine Dx.p (i := 1) rfl (by kernel_rfl) (nilc rfl) rfl ?_
    refine Dx.p (i := 2) rfl (by kernel_rfl) (fa' fo115_0 rfl) rfl ?_
    refine Dx.r (i := 3) rfl (by kernel_rfl) (ld Try.underlying26 rfl rfl rfl) rfl ?_
    refine Dx.p (i := 4) rfl (by kernel_rfl) (fa' fo74_0 rfl) rfl ?_
    refine Dx.r (i := 5) rfl (by kernel_rfl) (ld Try.underlying3 rfl rfl rfl) rfl ?_
    refine Dx.one (i := 6) (by kernel_rfl) ?_
    refine Dstep.o (i := 6) rfl (Ox.call rfl rfl rfl (Sync_ct d1 j.db (r.file : Int) _ (by rw [hd1]; exact hF1)) (Pick.eq)) rfl (fun v B' H' hΦ hB => ?_)
    obtain ⟨_, rfl, hΦ⟩ := hΦ
    obtain ⟨rfl, d2, hd2, rfl⟩ := hΦ
    have hB2 := hB
    rw [hd1] at hd2 ⊢
    rw [← had] at hd2 ⊢
    refine ⟨JOk.edge (JOk.edge (JOk.top) (by kernel_rfl)) (by kernel_rfl), ?_⟩
    refine Dx.p (i := 7) rfl (by kernel_rfl) (asg rfl) rfl ?_
    refine Dx.done (by kernel_rfl) ?_
    refine Xx.tn (k12 _ _ _ _ ?_)
    refine Cx.seq (fun K13 k13 => ?_)
    refine Cx.region ?_
    refine Lx.y (mv rfl) rfl ?_
    refine Lx.y (neI rfl rfl) rfl ?_
    refine Lx.nil ?_
    refine Xx.tn (k13 _ _ _ _ ?_)
    refine Cx.condN rfl (fun h14 => ?_) (fun h14 => ?_)
    · skip
      have he2 := h14
      refine Cx.seq (fun K15 k15 => ?_)
      refine Cx.region ?_
      refine Lx.y (mv rfl) rfl ?_
      refine Lx.y (asg rfl) rfl ?_
      refine Lx.nil ?_
      refine Xx.tn (k15 _ _ _ _ ?_)
      refine Cx.ret ?_
      refine Xx.tr ?_
      refine Xx.dropB b9 ?_
      exact Xx.ret1 rfl rfl ⟨d2, hd2, rfl, fun _ => rfl, fun h => absurd h he2⟩ (Frag.le_trans hB1 hB2) (by rw [hjo]; ac_rfl)
    · skip
      have he2 := h14
      refine Cx.skip ?_
      refine Xx.tn (k11 _ _ _ _ ?_)
      refine Cx.seq (fun K16 k16 => ?_)
      refine Xx.addrT j.Al (by omega) (fun bA hA hxl0 hxc0 => ?_)
      refine Xx.perm (H' := row jb 115 (jcs j) * (sbuf 74 4 (some ⟨bA, 0, none⟩) j.l.length j.cl (j.l.flatMap rcc) * (row b9 74 (rcc r) * (dkH j.db d2 * R)))) ?_ (by rw [hA]; ac_rfl)
      refine Xx.openT (some ⟨bA, 0, none⟩) (by omega) (fun bB sp hAB hxl hnc hcl => ?_)
      injection hAB with hAB
      injection hAB with hAB
      subst hAB
      refine Cx.drawn (by kernel_rfl) ?_
      refine Dx.p (i := 0) rfl (by kernel_rfl) (mv rfl) rfl ?_
      refine Dx.p (i := 1) rfl (by kernel_rfl) (nilc rfl) rfl ?_
      refine Dx.p (i := 2) rfl (by kernel_rfl) (fa' fo115_4 rfl) rfl ?_
      refine Dx.r (i := 3) rfl (by kernel_rfl) (Yx.val (ld Try.underlying113 rfl rfl rfl) (show _ = Value.slice (some ⟨bA, 0, none⟩) j.l.length j.cl from by rw [← hA])) rfl ?_
      refine Dx.p (i := 4) rfl (by kernel_rfl) (mv rfl) rfl ?_
      refine Dx.p (i := 5) rfl (by kernel_rfl) (fa' fo74_2 rfl) rfl ?_
      refine Dx.r (i := 6) rfl (by kernel_rfl) (ld Try.underlying9 rfl rfl rfl) rfl ?_
      refine Dx.p (i := 7) rfl (by kernel_rfl) (mv rfl) rfl ?_
      refine Dx.p (i := 8) rfl (by kernel_rfl) (sl2S Try.underlying9 rfl rfl (Int.toNat_natCast fr) (by omega) (by omega)) rfl ?_
      refine Dx.p (i := 9) rfl (by kernel_rfl) (mv rfl) rfl ?_
      refine Dx.p (i := 10) rfl (by kernel_rfl) (catS rfl rfl (by rw [List.length_take, List.length_replicate]; omega)) rfl ?_
      refine Dx.p (i := 11) rfl (by kernel_rfl) (fa' fo74_2 rfl) rfl ?_
      refine Dx.r (i := 12) rfl (by kernel_rfl) (ld Try.underlying9 rfl rfl rfl) rfl ?_
      refine Dx.p (i := 13) rfl (by kernel_rfl) (mv rfl) rfl ?_
      refine Dx.p (i := 14) rfl (by kernel_rfl) (mv rfl) rfl ?_
      refine Dx.p (i := 15) rfl (by kernel_rfl) (Yx.val (add rfl rfl (by first | exact wrap64 (by omega) (by omega) | rfl)) (show _ = i64 ((fr + n : Nat) : Int) from rfl)) rfl ?_
      refine Dx.p (i := 16) rfl (by kernel_rfl) (sl1S Try.underlying9 rfl rfl (Int.toNat_natCast (fr + n)) (by omega) (by omega)) rfl ?_
      refine Dx.p (i := 17) rfl (by kernel_rfl) (catS rfl rfl (by simp only [List.length_append, List.length_take, List.length_replicate, List.length_drop]; omega)) rfl ?_
      refine Dx.p (i := 18) rfl (by kernel_rfl) (ia Try.underlying113 sz74 rfl rfl (Int.toNat_natCast _) (by omega) (by omega)) rfl ?_
      refine Dx.p (i := 19) rfl (by kernel_rfl) (fa' fo74_2 rfl) rfl ?_
      refine Dx.one (i := 20) (by kernel_rfl) ?_
      refine Dstep.o0 (i := 20) rfl (stO Try.underlying9 sz9 rfl rfl rfl (by rw [List.length_append, DkF.flatG_len rcc_len]; omega) (frc_gen _ _)) (fun v B' H' hΦ hB => ?_)
      obtain ⟨hBB, rfl⟩ := hΦ; have hBB2 := hBB.symm; subst hBB2; clear hB v
      refine ⟨JOk.edge (JOk.edge (JOk.edge (JOk.top) (by kernel_rfl)) (by kernel_rfl)) (by kernel_rfl), ?_⟩
      refine Dx.done (by kernel_rfl) ?_
      refine Xx.tn (k16 _ _ _ _ ?_)
      refine Cx.seq (fun K17 k17 => ?_)
      have hl1 : (j.l.set i { r with body := (r.body.take fr ++ List.replicate n 0 ++ r.body.drop (fr + n)) }).length = j.l.length := List.length_set
      have hi1 : i < (j.l.set i { r with body := (r.body.take fr ++ List.replicate n 0 ++ r.body.drop (fr + n)) }).length := by omega
      have hg1 : (j.l.set i { r with body := (r.body.take fr ++ List.replicate n 0 ++ r.body.drop (fr + n)) })[i] = { r with body := (r.body.take fr ++ List.replicate n 0 ++ r.body.drop (fr + n)) } := List.getElem_set_self _
      refine Xx.closeT bA ((j.l.set i { r with body := (r.body.take fr ++ List.replicate n 0 ++ r.body.drop (fr + n)) }).flatMap rcc) sp 4 j.l.length j.cl (by rw [Nat.zero_add, List.set_append_left _ _ (by rw [DkF.flatG_len rcc_len]; omega), rcc_setG j.l i hi 2 (by omega) _ { r with body := (r.body.take fr ++ List.replicate n 0 ++ r.body.drop (fr + n)) } (by rw [hr]; rfl)]) (by rw [DkF.flatG_len rcc_len, hl1]) hnc (by rw [List.length_append, DkF.flatG_len rcc_len, hl1]; rw [List.length_append, DkF.flatG_len rcc_len] at hcl; exact hcl) ?_
      refine Xx.openT (some ⟨bA, 0, none⟩) (by omega) (fun bB sp2 hAB hxl2 hnc2 hcl2 => ?_)
      injection hAB with hAB
      injection hAB with hAB
      subst hAB
      refine Cx.drawn (by kernel_rfl) ?_
      refine Dx.p (i := 0) rfl (by kernel_rfl) (mv rfl) rfl ?_
      refine Dx.p (i := 1) rfl (by kernel_rfl) (nilc rfl) rfl ?_
      refine Dx.p (i := 2) rfl (by kernel_rfl) (fa' fo115_4 rfl) rfl ?_
      refine Dx.r (i := 3) rfl (by kernel_rfl) (Yx.val (ld Try.underlying113 rfl rfl rfl) (show _ = Value.slice (some ⟨bA, 0, none⟩) j.l.length j.cl from by rw [← hA])) rfl ?_
      refine Dx.p (i := 4) rfl (by kernel_rfl) (mv rfl) rfl ?_
      refine Dx.p (i := 5) rfl (by kernel_rfl) (mv rfl) rfl ?_
      refine Dx.p (i := 6) rfl (by kernel_rfl) (nilc rfl) rfl ?_
      refine Dx.p (i := 7) rfl (by kernel_rfl) (fa' fo115_4 rfl) rfl ?_
      refine Dx.r (i := 8) rfl (by kernel_rfl) (Yx.val (ld Try.underlying113 rfl rfl rfl) (show _ = Value.slice (some ⟨bA, 0, none⟩) j.l.length j.cl from by rw [← hA])) rfl ?_
      refine Dx.p (i := 9) rfl (by kernel_rfl) (mv rfl) rfl ?_
      refine Dx.p (i := 10) rfl (by kernel_rfl) (ia Try.underlying113 sz74 rfl rfl (by first | exact Int.toNat_natCast _ | rfl) (by omega) (by omega)) rfl ?_
      refine Dx.p (i := 11) rfl (by kernel_rfl) (fa' fo74_3 rfl) rfl ?_
      refine Dx.r (i := 12) rfl (by kernel_rfl) (ld Try.underlying4 rfl rfl (v := .bool r.good) (by rw [Nat.zero_add, List.getElem?_append_left (by rw [DkF.flatG_len rcc_len]; omega), rcc_get _ hi1 3 (by omega), hg1]; rfl)) rfl ?_
      refine Dx.p (i := 13) rfl (by kernel_rfl) (mv rfl) rfl ?_
      refine Xx.ifB (t := 106) rfl (fun h18 => ?_) (fun h18 => ?_)
      · skip
        have hgd := h18
        refine Dx.pT (i := 14) rfl rfl rfl rfl (by kernel_rfl) (mv rfl) rfl ?_
        refine Dx.pT (i := 15) rfl rfl rfl rfl (by kernel_rfl) (nilc rfl) rfl ?_
        refine Dx.pT (i := 16) rfl rfl rfl rfl (by kernel_rfl) (fa' fo115_4 rfl) rfl ?_
        refine Dx.rT (i := 17) rfl rfl rfl rfl (by kernel_rfl) (Yx.val (ld Try.underlying113 rfl rfl rfl) (show _ = Value.slice (some ⟨bA, 0, none⟩) j.l.length j.cl from by rw [← hA])) rfl ?_
        refine Dx.pT (i := 18) rfl rfl rfl rfl (by kernel_rfl) (mv rfl) rfl ?_
        refine Dx.pT (i := 19) rfl rfl rfl rfl (by kernel_rfl) (ia Try.underlying113 sz74 rfl rfl (by first | exact Int.toNat_natCast _ | rfl) (by omega) (by omega)) rfl ?_
        refine Dx.pT (i := 20) rfl rfl rfl rfl (by kernel_rfl) (fa' fo74_2 rfl) rfl ?_
        refine Dx.rT (i := 21) rfl rfl rfl rfl (by kernel_rfl) (ld Try.underlying9 rfl rfl (v := str (r.body.take fr ++ List.replicate n 0 ++ r.body.drop (fr + n))) (by rw [Nat.zero_add, List.getElem?_append_left (by rw [DkF.flatG_len rcc_len]; omega), rcc_get _ hi1 2 (by omega), hg1]; rfl)) rfl ?_
        refine Dx.pT (i := 22) rfl rfl rfl rfl (by kernel_rfl) (fa' fo74_2 rfl) rfl ?_
        refine Dx.rT (i := 23) rfl rfl rfl rfl (by kernel_rfl) (ld Try.underlying9 rfl rfl rfl) rfl ?_
        refine Dx.pT (i := 24) rfl rfl rfl rfl (by kernel_rfl) (eqS rfl rfl) rfl ?_
        refine Dx.p (i := 25) rfl (by kernel_rfl) (pickT rfl rfl) rfl ?_
        refine Dx.p (i := 26) rfl (by kernel_rfl) (ia Try.underlying113 sz74 rfl rfl (by first | exact Int.toNat_natCast _ | rfl) (by omega) (by omega)) rfl ?_
        refine Dx.p (i := 27) rfl (by kernel_rfl) (fa' fo74_3 rfl) rfl ?_
        refine Dx.one (i := 28) (by kernel_rfl) ?_
        refine Dstep.o0 (i := 28) rfl (stO Try.underlying4 sz4 rfl rfl rfl (by rw [List.length_append, DkF.flatG_len rcc_len]; omega) (frc_gen _ _)) (fun v B' H' hΦ hB => ?_)
        obtain ⟨hBB, rfl⟩ := hΦ; have hBB2 := hBB.symm; subst hBB2; clear hB v
        refine ⟨JOk.edge (JOk.edge (JOk.edge (JOk.edge (JOk.edge (JOk.edge (JOk.top) (by kernel_rfl)) (by kernel_rfl)) (by kernel_rfl)) (by kernel_rfl)) (by kernel_rfl)) (by kernel_rfl), ?_⟩
        refine Dx.done (by kernel_rfl) ?_
        refine Xx.tn (k17 _ _ _ _ ?_)
        refine Cx.seq (fun K19 k19 => ?_)
        refine Cx.region ?_
        refine Lx.y (asg rfl) rfl ?_
        refine Lx.nil ?_
        refine Xx.tn (k19 _ _ _ _ ?_)
        refine Cx.ret ?_
        obtain ⟨gd, hgg⟩ : ∃ gd, gd = (r.good && decide ((r.body.take fr ++ List.replicate n 0 ++ r.body.drop (fr + n)) = r.body)) := ⟨_, rfl⟩
        rw [← hgg]
        have hl2 : (j.l.set i { r with body := (r.body.take fr ++ List.replicate n 0 ++ r.body.drop (fr + n)), good := gd }).length = j.l.length := List.length_set
        refine Xx.closeT bA ((j.l.set i { r with body := (r.body.take fr ++ List.replicate n 0 ++ r.body.drop (fr + n)), good := gd }).flatMap rcc) sp2 4 j.l.length j.cl (by rw [Nat.zero_add, List.set_append_left _ _ (by rw [DkF.flatG_len rcc_len]; omega), rcc_setG (j.l.set i { r with body := (r.body.take fr ++ List.replicate n 0 ++ r.body.drop (fr + n)) }) i hi1 3 (by omega) _ { r with body := (r.body.take fr ++ List.replicate n 0 ++ r.body.drop (fr + n)), good := gd } (by rw [hg1, hgg, hgd]; rfl), List.set_set]) (by rw [DkF.flatG_len rcc_len, hl2]) hnc2 (by rw [List.length_append, DkF.flatG_len rcc_len, hl2]; rw [List.length_append, DkF.flatG_len rcc_len, hl1] at hcl2; exact hcl2) ?_
        refine Xx.dropB b9 ?_
        exact Xx.ret1 rfl rfl ⟨d2, hd2, by rw [he2], fun h => absurd he2 h, fun _ => rfl⟩ (Frag.le_trans hB1 hB2) (by show _ = (row jb 115 (jcs { j with l := j.l.set i { r with body := (r.body.take fr ++ List.replicate n 0 ++ r.body.drop (fr + n)), good := gd } }) * sbuf 74 4 j.Al (j.l.set i { r with body := (r.body.take fr ++ List.replicate n 0 ++ r.body.drop (fr + n)), good := gd }).length j.cl ((j.l.set i { r with body := (r.body.take fr ++ List.replicate n 0 ++ r.body.drop (fr + n)), good := gd }).flatMap rcc) * dkH j.db d2) * R; unfold jcs; dsimp only; rw [hl2, hA]; ac_rfl)
      · skip
        have hgd := h18
        refine Dx.pF (i := 14) rfl (fun _ h => by cases h) rfl rfl rfl (by kernel_rfl) rfl ?_
        refine Dx.pF (i := 15) rfl (fun _ h => by cases h) rfl rfl rfl (by kernel_rfl) rfl ?_
        refine Dx.pF (i := 16) rfl (fun _ h => by cases h) rfl rfl rfl (by kernel_rfl) rfl ?_
        refine Dx.pF (i := 17) rfl (fun _ h => by cases h) rfl rfl rfl (by kernel_rfl) rfl ?_
        refine Dx.pF (i := 18) rfl (fun _ h => by cases h) rfl rfl rfl (by kernel_rfl) rfl ?_
        refine Dx.pF (i := 19) rfl (fun _ h => by cases h) rfl rfl rfl (by kernel_rfl) rfl ?_
        refine Dx.pF (i := 20) rfl (fun _ h => by cases h) rfl rfl rfl (by kernel_rfl) rfl ?_
        refine Dx.pF (i := 21) rfl (fun _ h => by cases h) rfl rfl rfl (by kernel_rfl) rfl ?_
        refine Dx.pF (i := 22) rfl (fun _ h => by cases h) rfl rfl rfl (by kernel_rfl) rfl ?_
        refine Dx.pF (i := 23) rfl (fun _ h => by cases h) rfl rfl rfl (by kernel_rfl) rfl ?_
        refine Dx.pF (i := 24) rfl (fun _ h => by cases h) rfl rfl rfl (by kernel_rfl) rfl ?_
        refine Dx.p (i := 25) rfl (by kernel_rfl) (pickF rfl rfl) rfl ?_
        refine Dx.p (i := 26) rfl (by kernel_rfl) (ia Try.underlying113 sz74 rfl rfl (by first | exact Int.toNat_natCast _ | rfl) (by omega) (by omega)) rfl ?_
        refine Dx.p (i := 27) rfl (by kernel_rfl) (fa' fo74_3 rfl) rfl ?_
        refine Dx.one (i := 28) (by kernel_rfl) ?_
        refine Dstep.o0 (i := 28) rfl (stO Try.underlying4 sz4 rfl rfl rfl (by rw [List.length_append, DkF.flatG_len rcc_len]; omega) (frc_gen _ _)) (fun v B' H' hΦ hB => ?_)
        obtain ⟨hBB, rfl⟩ := hΦ; have hBB2 := hBB.symm; subst hBB2; clear hB v
        refine ⟨JOk.edge (JOk.edge (JOk.edge (JOk.top) (by kernel_rfl)) (by kernel_rfl)) (by kernel_rfl), ?_⟩
        refine Dx.done (by kernel_rfl) ?_
        refine Xx.tn (k17 _ _ _ _ ?_)
        refine Cx.seq (fun K20 k20 => ?_)
        refine Cx.region ?_
        refine Lx.y (asg rfl) rfl ?_
        refine Lx.nil ?_
        refine Xx.tn (k20 _ _ _ _ ?_)
        refine Cx.ret ?_
        obtain ⟨gd, hgg⟩ : ∃ gd, gd = (r.good && decide ((r.body.take fr ++ List.replicate n 0 ++ r.body.drop (fr + n)) = r.body)) := ⟨_, rfl⟩
        rw [← hgg]
        have hl2 : (j.l.set i { r with body := (r.body.take fr ++ List.replicate n 0 ++ r.body.drop (fr + n)), good := gd }).length = j.l.length := List.length_set
        refine Xx.closeT bA ((j.l.set i { r with body := (r.body.take fr ++ List.replicate n 0 ++ r.body.drop (fr + n)), good := gd }).flatMap rcc) sp2 4 j.l.length j.cl (by rw [Nat.zero_add, List.set_append_left _ _ (by rw [DkF.flatG_len rcc_len]; omega), rcc_setG (j.l.set i { r with body := (r.body.take fr ++ List.replicate n 0 ++ r.body.drop (fr + n)) }) i hi1 3 (by omega) _ { r with body := (r.body.take fr ++ List.replicate n 0 ++ r.body.drop (fr + n)), good := gd } (by rw [hg1, hgg, hgd]; rfl), List.set_set]) (by rw [DkF.flatG_len rcc_len, hl2]) hnc2 (by rw [List.length_append, DkF.flatG_len rcc_len, hl2]; rw [List.length_append, DkF.flatG_len rcc_len, hl1] at hcl2; exact hcl2) ?_
        refine Xx.dropB b9 ?_
        exact Xx.ret1 rfl rfl ⟨d2, hd2, by rw [he2], fun h => absurd he2 h, fun _ => rfl⟩ (Frag.le_trans hB1 hB2) (by show _ = (row jb 115 (jcs { j with l := j.l.set i { r with body := (r.body.take fr ++ List.replicate n 0 ++ r.body.drop (fr + n)), good := gd } }) * sbuf 74 4 j.Al (j.l.set i { r with body := (r.body.take fr ++ List.replicate n 0 ++ r.body.drop (fr + n)), good := gd }).length j.cl ((j.l.set i { r with body := (r.body.take fr ++ List.replicate n 0 ++ r.body.drop (fr + n)), good := gd }).flatMap rcc) * dkH j.db d2) * R; unfold jcs; dsimp only; rw [hl2, hA]; ac_rfl)
end Jn11
end Go.Proofs.Ytgcebieihmlaoaa

/-
  Plain laws: noughts over bytes of a record; adding where there is room.
-/
namespace Go.Proofs.Ytgcebieihmlaoaa
open Go.SL Go.RowKit
set_option linter.unusedVariables false
set_option linter.unusedSimpArgs false
set_option maxRecDepth 100000
open DkA DkB DkD DkE DkF DkG DkH DkI DkJ DkL DkN Fr1 Jn1 Jn2 Jn3 Jn4 Jn5 Jn6 Jn11
namespace Jn12


theorem ok_parts {c : Ck} (h : FrA.Ck.ok c) : ∃ u v g : List UInt8, c.tx = u ++ (v ++ (g ++ c.bd)) ∧ u.length = 4 ∧ v.length = 4 ∧ g.length = 4 ∧ (numL u).toNat = c.bd.length ∧ c.bd.length ≤ 65536 ∧ numL v = crc u ∧ c.gd = decide (numL g = crc c.bd) := by
  obtain ⟨hl, hn⟩ := h
  have h0 := hn [] 0
  rw [List.append_nil, Nat.zero_add] at h0
  have e1 : c.tx = c.tx.take 4 ++ ((c.tx.drop 4).take 4 ++ (((c.tx.drop 4).drop 4).take 4 ++ (((c.tx.drop 4).drop 4).drop 4))) := by
    rw [List.take_append_drop, List.take_append_drop, List.take_append_drop]
  have l1 : (c.tx.take 4).length = 4 := by rw [List.length_take]; omega
  have l2 : ((c.tx.drop 4).take 4).length = 4 := by rw [List.length_take, List.length_drop]; omega
  have l3 : (((c.tx.drop 4).drop 4).take 4).length = 4 := by rw [List.length_take, List.length_drop, List.length_drop]; omega
  have l4 : (((c.tx.drop 4).drop 4).drop 4).length = c.bd.length := by simp only [List.length_drop]; omega
  rw [e1, FrA.nextT_parts _ _ l1 l2 l3] at h0
  split at h0
  · cases h0
  rename_i g1
  split at h0
  · cases h0
  rename_i g2
  split at h0
  · cases h0
  rename_i g3
  injection h0 with h0
  injection h0 with _ h1 h2
  have hb : (((c.tx.drop 4).drop 4).drop 4).take (numL (c.tx.take 4)).toNat = c.bd := h1
  have hlen := congrArg List.length hb
  rw [List.length_take] at hlen
  have hy : ((c.tx.drop 4).drop 4).drop 4 = c.bd := by rw [← hb, List.take_of_length_le (by omega)]
  rw [hb] at h2
  exact ⟨_, _, _, by rw [← hy]; exact e1, l1, l2, l3, by omega, by omega, Decidable.byContradiction fun e => g2 e, h2.symm⟩
theorem ok_new {u v g nb : List UInt8} (hu : u.length = 4) (hv : v.length = 4) (hg : g.length = 4) (hn : (numL u).toNat = nb.length) (hb : nb.length ≤ 65536) (hc : numL v = crc u) : FrA.Ck.ok (⟨u ++ (v ++ (g ++ nb)), nb, decide (numL g = crc nb)⟩ : Ck) := by
  refine ⟨by simp only [List.length_append]; omega, fun r a => ?_⟩
  show Fr7.nextT ((u ++ (v ++ (g ++ nb))) ++ r) a = _
  rw [List.append_assoc, List.append_assoc, List.append_assoc, FrA.nextT_parts _ _ hu hv hg, if_neg (by omega), if_neg (fun e => e hc), if_neg (by rw [List.length_append]; omega), hn, List.take_left]
theorem fms_loc : ∀ (cs : List Ck) (a i : Nat) (h : i < (FrA.fms cs a).length), ∃ us c vs, cs = us ++ c :: vs ∧ us.length = i ∧ (FrA.fms cs a)[i] = ⟨a + (FrA.cat us).length + 12, c.bd, c.gd⟩ ∧ ∀ c' : Ck, c'.tx.length = c.tx.length → FrA.fms (us ++ c' :: vs) a = (FrA.fms cs a).set i ⟨a + (FrA.cat us).length + 12, c'.bd, c'.gd⟩ := by
  intro cs
  induction cs with
  | nil => intro a i h; simp [FrA.fms] at h
  | cons d cs ih =>
    intro a i h
    cases i with
    | zero => exact ⟨[], d, cs, rfl, rfl, rfl, fun c' hc' => by show FrA.fms (c' :: cs) a = _; simp only [FrA.fms]; rw [hc']; rfl⟩
    | succ i =>
      obtain ⟨us, c, vs, h1, h2, h3, h4⟩ := ih (a + d.tx.length) i (by simpa [FrA.fms] using h)
      have e : a + d.tx.length + (FrA.cat us).length = a + (FrA.cat (d :: us)).length := by rw [FrA.cat_cons, List.length_append]; omega
      rw [e] at h3 h4
      refine ⟨d :: us, c, vs, by rw [h1]; rfl, by rw [List.length_cons, h2], h3, fun c' hc' => ?_⟩
      have h5 := h4 c' hc'
      show FrA.fms (d :: (us ++ c' :: vs)) a = _
      simp only [FrA.fms, List.set_cons_succ]
      rw [h5]
theorem recF_set (file : Nat) (fs : List Fr2.Fm) (i : Nat) (f : Fr2.Fm) : recF file (fs.set i f) = (recF file fs).set i ⟨file, f.pos, f.body, f.good⟩ := by unfold recF; rw [List.map_set]
theorem rec_loc : ∀ (fb : List (List Ck)) (n i : Nat) (h : i < (recsOf n fb).length), ∃ fa us c vs fz, fb = fa ++ (us ++ c :: vs) :: fz ∧ (recsOf n fb)[i]? = some ⟨n + fa.length + 1, (FrA.cat us).length + 12, c.bd, c.gd⟩ ∧
    ∀ c' : Ck, c'.tx.length = c.tx.length → recsOf n (fa ++ (us ++ c' :: vs) :: fz) = (recsOf n fb).set i ⟨n + fa.length + 1, (FrA.cat us).length + 12, c'.bd, c'.gd⟩ := by
  intro fb
  induction fb with
  | nil => intro n i h; simp [recsOf] at h
  | cons cs fb ih =>
    intro n i h
    have hl : (recF (n + 1) (FrA.fms cs 0)).length = (FrA.fms cs 0).length := recF_len _ _
    by_cases hi : i < (FrA.fms cs 0).length
    · obtain ⟨us, c, vs, h1, h2, h3, h4⟩ := fms_loc cs 0 i hi
      rw [Nat.zero_add] at h3
      refine ⟨[], us, c, vs, fb, by rw [h1]; rfl, ?_, fun c' hc' => ?_⟩
      · show (recF (n + 1) (FrA.fms cs 0) ++ recsOf (n + 1) fb)[i]? = _
        rw [List.getElem?_append_left (by rw [hl]; exact hi)]
        unfold recF
        rw [List.getElem?_map, List.getElem?_eq_getElem hi, h3]; rfl
      · show recF (n + 1) (FrA.fms (us ++ c' :: vs) 0) ++ recsOf (n + 1) fb = (recF (n + 1) (FrA.fms cs 0) ++ recsOf (n + 1) fb).set i _
        rw [h4 c' hc', recF_set, List.set_append_left _ _ (by rw [hl]; exact hi), Nat.zero_add]; rfl
    · have hi2 : i - (FrA.fms cs 0).length < (recsOf (n + 1) fb).length := by
        have h' : i < (recF (n + 1) (FrA.fms cs 0) ++ recsOf (n + 1) fb).length := h
        rw [List.length_append, hl] at h'; omega
      obtain ⟨fa, us, c, vs, fz, h1, h2, h3⟩ := ih (n + 1) _ hi2
      refine ⟨cs :: fa, us, c, vs, fz, by rw [h1]; rfl, ?_, fun c' hc' => ?_⟩
      · show (recF (n + 1) (FrA.fms cs 0) ++ recsOf (n + 1) fb)[i]? = _
        rw [List.getElem?_append_right (by rw [hl]; omega), hl, h2, List.length_cons, show n + 1 + fa.length + 1 = n + (fa.length + 1) + 1 by omega]
      · have h4 := h3 c' hc'
        show recF (n + 1) (FrA.fms cs 0) ++ recsOf (n + 1) (fa ++ (us ++ c' :: vs) :: fz) = (recF (n + 1) (FrA.fms cs 0) ++ recsOf (n + 1) fb).set i _
        rw [h4, List.set_append_right _ _ (by rw [hl]; omega), hl, List.length_cons, show n + 1 + fa.length + 1 = n + (fa.length + 1) + 1 by omega]
/-- noughts, where the bytes are -/
theorem blank_done {K L C : Nat} {D : Dm} (hc : DkN.Calm K L C D) {file at_ n : Nat} {f : DkB.Fm} (hf : findM (file : Int) D.fs = some f) (hn : at_ + n ≤ f.now.length) :
    (blankD D file at_ n).2 = 0 ∧ (∀ k, findM k (blankD D file at_ n).1.fs = if k = (file : Int) then some ⟨file, f.now.take at_ ++ List.replicate n 0 ++ f.now.drop (at_ + n), f.now.take at_ ++ List.replicate n 0 ++ f.now.drop (at_ + n), []⟩ else findM k D.fs) ∧
    DkN.Calm (K + 2) L (C + 2) (blankD D file at_ n).1 ∧ (Still D → Still (blankD D file at_ n).1) := by
  have hfile : fileM (file : Int) D.fs = f := by unfold fileM; rw [hf]; rfl
  have he : errM D (file : Int) = 0 := by unfold errM; rw [if_neg (by rw [hc.dead]; decide), hf]
  obtain ⟨lo, hw⟩ : ∃ lo, writeD D (file : Int) (at_ : Int) (List.replicate n 0) = ({ D with ch := D.ch + 1, fs := setM ⟨file, f.now.take at_ ++ List.replicate n 0 ++ f.now.drop (at_ + n), f.sure, lo⟩ D.fs }, 0) := by
    refine ⟨touchL f.loose at_ (at_ + n), ?_⟩
    unfold writeD
    rw [hc.strikes, if_neg (fun e => e he), hfile, if_neg (by rw [List.length_replicate]; omega), if_neg Bool.false_ne_true]
    simp only [List.length_replicate, Int.toNat_natCast]
  have hc1 := hc.write (file : Int) (at_ : Int) (List.replicate n 0)
  have hc2 := hc1.sync (file : Int)
  have hb : blankD D file at_ n = syncD (writeD D (file : Int) (at_ : Int) (List.replicate n 0)).1 (file : Int) := by unfold blankD; rw [if_neg (by rw [hw]; exact fun e => e rfl)]
  rw [← hb] at hc2
  have hm : (file : Int) ∈ (writeD D (file : Int) (at_ : Int) (List.replicate n 0)).1.fs.map (·.n) := by
    rw [hw]; show (file : Int) ∈ (setM _ D.fs).map (·.n)
    rw [setM_nums]; split
    · assumption
    · simp
  have hs0 := (sync_props hc1 hm).1
  have he1 : errM (writeD D (file : Int) (at_ : Int) (List.replicate n 0)).1 (file : Int) = 0 := by
    rw [hw]; unfold errM
    rw [if_neg (by show ¬ D.dead = true; rw [hc.dead]; decide)]
    show (match findM (file : Int) (setM _ D.fs) with | none => _ | some _ => _) = _
    rw [findM_set, if_pos rfl]
  have hfm : fileM (file : Int) (setM (⟨file, f.now.take at_ ++ List.replicate n 0 ++ f.now.drop (at_ + n), f.sure, lo⟩ : DkB.Fm) D.fs) = ⟨file, f.now.take at_ ++ List.replicate n 0 ++ f.now.drop (at_ + n), f.sure, lo⟩ := by
    unfold fileM; rw [findM_set, if_pos rfl]; rfl
  have hsy : (blankD D file at_ n).1.fs = setM ⟨file, f.now.take at_ ++ List.replicate n 0 ++ f.now.drop (at_ + n), f.now.take at_ ++ List.replicate n 0 ++ f.now.drop (at_ + n), []⟩ (setM ⟨file, f.now.take at_ ++ List.replicate n 0 ++ f.now.drop (at_ + n), f.sure, lo⟩ D.fs) := by
    rw [hb]; unfold syncD
    rw [hc1.strikes, if_neg (fun e => e he1), if_neg Bool.false_ne_true, hw]
    show setM ⟨_, (fileM (file : Int) (setM _ D.fs)).now, (fileM (file : Int) (setM _ D.fs)).now, []⟩ (setM _ D.fs) = _
    rw [hfm]
  refine ⟨by rw [hb]; exact hs0, fun k => ?_, hc2, fun hst g hg => ?_⟩
  · rw [hsy, findM_set, findM_set]
    by_cases e : k = (file : Int)
    · rw [if_pos e, if_pos e]
    · rw [if_neg e, if_neg e, if_neg e]
  · have hff := findM_of_mem hc2.nd hg
    rw [hsy, findM_set, findM_set] at hff
    split at hff
    · cases hff; exact ⟨rfl, rfl⟩
    · exact hst g (findM_mem hff).1
theorem blank_fits {K L C : Nat} {D : Dm} {fb : List (List Ck)} (hc : DkN.Calm K L C D) (hf : Holds D.fs fb) {i fr n : Nat} (hi : i < (recsOf 0 fb).length) {r : Rc} (hr : (recsOf 0 fb)[i] = r) (hn : fr + n ≤ r.body.length) :
    (blankD D r.file (r.at_ + fr) n).2 = 0 ∧ DkN.Calm (K + 2) L (C + 2) (blankD D r.file (r.at_ + fr) n).1 ∧ (Still D → Still (blankD D r.file (r.at_ + fr) n).1) ∧
    ∃ fb' gd, Holds (blankD D r.file (r.at_ + fr) n).1.fs fb' ∧ recsOf 0 fb' = (recsOf 0 fb).set i { r with body := r.body.take fr ++ List.replicate n 0 ++ r.body.drop (fr + n), good := gd } := by
  obtain ⟨fa, us, c, vs, fz, h1, h2, h3⟩ := rec_loc fb 0 i hi
  rw [List.getElem?_eq_getElem hi, hr] at h2
  injection h2 with h2
  rw [Nat.zero_add] at h2 h3
  subst h2
  simp only at hn ⊢
  have hcok : FrA.Ck.ok c := hf.ok (us ++ c :: vs) (by rw [h1]; simp) c (by simp)
  obtain ⟨u, v, g, e1, e2, e3, e4, e5, e6, e7, e8⟩ := ok_parts hcok
  obtain ⟨nb, hnb⟩ : ∃ nb, nb = c.bd.take fr ++ List.replicate n 0 ++ c.bd.drop (fr + n) := ⟨_, rfl⟩
  have hnl : nb.length = c.bd.length := by rw [hnb]; simp only [List.length_append, List.length_take, List.length_replicate, List.length_drop]; omega
  rw [← hnb]
  have hok' := ok_new (nb := nb) e2 e3 e4 (by rw [e5, hnl]) (by omega) e7
  obtain ⟨c', hc'⟩ : ∃ c' : Ck, c' = ⟨u ++ (v ++ (g ++ nb)), nb, decide (numL g = crc nb)⟩ := ⟨_, rfl⟩
  rw [← hc'] at hok'
  have htl : c'.tx.length = c.tx.length := by rw [hc', e1]; simp only [List.length_append]; omega
  obtain ⟨f, hf1, hf2⟩ := hf.at_ fa.length (by rw [h1]; simp)
  have hfb : fb[fa.length]'(by rw [h1]; simp) = us ++ c :: vs := by
    simp only [h1]
    rw [List.getElem_append_right (Nat.le_refl _)]; simp
  rw [hfb, FrA.cat_app, FrA.cat_cons, e1] at hf2
  have hnow : f.now.length = (FrA.cat us).length + (12 + c.bd.length + (FrA.cat vs).length) := by rw [hf2]; simp only [List.length_append]; omega
  obtain ⟨b1, b2, b3, b4⟩ := blank_done hc (at_ := (FrA.cat us).length + 12 + fr) (n := n) hf1 (by omega)
  have hnew : f.now.take ((FrA.cat us).length + 12 + fr) ++ List.replicate n 0 ++ f.now.drop ((FrA.cat us).length + 12 + fr + n) = FrA.cat (us ++ c' :: vs) := by
    have hA : f.now = (FrA.cat us ++ (u ++ (v ++ g))) ++ (c.bd ++ FrA.cat vs) := by rw [hf2]; simp only [List.append_assoc]
    have hl : (FrA.cat us ++ (u ++ (v ++ g))).length = (FrA.cat us).length + 12 := by simp only [List.length_append]; omega
    rw [hA, List.take_append, List.drop_append, hl, List.take_of_length_le (by omega), List.drop_of_length_le (by omega), show (FrA.cat us).length + 12 + fr - ((FrA.cat us).length + 12) = fr by omega, show (FrA.cat us).length + 12 + fr + n - ((FrA.cat us).length + 12) = fr + n by omega, List.take_append_of_le_length (by omega), List.drop_append_of_le_length (by omega), FrA.cat_app, FrA.cat_cons, hc']
    show _ = FrA.cat us ++ ((u ++ (v ++ (g ++ nb))) ++ FrA.cat vs)
    rw [hnb]
    simp only [List.append_assoc, List.nil_append]
  refine ⟨b1, b3, b4, fa ++ (us ++ c' :: vs) :: fz, c'.gd, ⟨?_, ?_, ?_⟩, ?_⟩
  · intro cs hcs x hx
    rcases List.mem_append.1 hcs with hcs | hcs
    · exact hf.ok cs (by rw [h1]; simp [hcs]) x hx
    · rcases List.mem_cons.1 hcs with rfl | hcs
      · rcases List.mem_append.1 hx with hx | hx
        · exact hf.ok (us ++ c :: vs) (by rw [h1]; simp) x (by simp [hx])
        · rcases List.mem_cons.1 hx with rfl | hx
          · exact hok'
          · exact hf.ok (us ++ c :: vs) (by rw [h1]; simp) x (by simp [hx])
      · exact hf.ok cs (by rw [h1]; simp [hcs]) x hx
  · intro k hk
    have hk2 : k < fb.length := by rw [h1]; simpa using hk
    by_cases e : k = fa.length
    · subst e
      refine ⟨_, by rw [b2, if_pos rfl], ?_⟩
      show f.now.take ((FrA.cat us).length + 12 + fr) ++ List.replicate n 0 ++ f.now.drop ((FrA.cat us).length + 12 + fr + n) = _
      rw [hnew, List.getElem_append_right (Nat.le_refl _)]; simp
    · obtain ⟨q, q1, q2⟩ := hf.at_ k hk2
      refine ⟨q, by rw [b2, if_neg (by omega)]; exact q1, ?_⟩
      rw [q2]
      congr 1
      simp only [h1]
      by_cases e2 : k < fa.length
      · rw [List.getElem_append_left e2, List.getElem_append_left e2]
      · rw [List.getElem_append_right (by omega), List.getElem_append_right (by omega)]
        obtain ⟨m, hm⟩ : ∃ m, k - fa.length = m + 1 := ⟨k - fa.length - 1, by omega⟩
        simp only [hm, List.getElem_cons_succ]
  · intro k hk
    rw [b2, if_neg (by simp at hk; omega)]
    exact hf.no k (by rw [h1]; simpa using hk)
  · rw [h3 c' htl, hc']
/-- there is room -/
theorem used_calm {K L C : Nat} {D : Dm} (hc : DkN.Calm K L C D) : usedM D.fs ≤ K * sec L := by
  have h1 := sum_le (fun m : DkB.Fm => sec m.now.length) (sec L) D.fs (fun m hm => sec_mono (hc.now m hm))
  unfold usedM
  exact Nat.le_trans h1 (Nat.mul_le_mul_right _ hc.len)
theorem add_room {K L C : Nat} {D : Dm} (hc : DkN.Calm K L C D) {file : Nat} {all : List UInt8} (h : ((sec (L + all.length) + K * sec L : Nat) : Int) ≤ D.room) : (addD D file all).2 = 0 := Decidable.byContradiction fun h2 => by
  have hnow := (hc.file (file : Int)).2.2.1
  have hu := used_calm hc
  have hs := sec_mono (show (fileM (file : Int) D.fs).now.length + all.length ≤ L + all.length by omega)
  have h3 := addD_fail hc h2
  have h4 : (appendD D (file : Int) all).2.2 = 0 := by
    unfold appendD
    rw [hc.strikes, if_neg (by rw [hc.dead]; decide), if_neg (by omega), if_neg (fun e => by have := e.2; omega), if_neg Bool.false_ne_true]
  have h5 : addD D file all = syncD (appendD D (file : Int) all).1 (file : Int) := by unfold addD; rw [if_neg (fun e => e h4)]
  have hc1 := hc.append (file : Int) all
  rw [h3] at h5
  have h6 := (sync_props hc1 (n := (file : Int)) (by
    unfold appendD
    rw [hc.strikes, if_neg (by rw [hc.dead]; decide), if_neg (by omega), if_neg (fun e => by have := e.2; omega), if_neg Bool.false_ne_true]
    show (file : Int) ∈ (setM _ D.fs).map (·.n)
    rw [setM_nums]; split
    · assumption
    · simp)).1
  rw [← h5] at h6
  cases h6
theorem addD_roomy {K L C : Nat} {D : Dm} (hc : DkN.Calm K L C D) (file : Nat) (all : List UInt8) : (addD D file all).1.room = D.room := by
  have hc1 := hc.append (file : Int) all
  have h1 : (appendD D (file : Int) all).1.room = D.room := by
    unfold appendD
    rw [hc.strikes]
    split
    · rfl
    split
    · rfl
    split
    · rfl
    · rw [if_neg Bool.false_ne_true]
  unfold addD
  split
  · exact h1
  · unfold syncD
    rw [hc1.strikes]
    split
    · exact h1
    · rw [if_neg Bool.false_ne_true]; exact h1
end Jn12
end Go.Proofs.Ytgcebieihmlaoaa

/-
  The walk of the law of noughts.
-/
namespace Go.Proofs.Ytgcebieihmlaoaa
open Go.SL Go.RowKit
set_option linter.unusedVariables false
set_option linter.unusedSimpArgs false
set_option maxRecDepth 100000
open DkA DkB DkD DkE DkF DkG DkH DkI DkJ DkL DkN Fr1 Jn1 Jn2 Jn3 Jn4 Jn5 Jn6 Jn11 Jn12
namespace Jn13
theorem sz3 : (Try.prog.info? 3).map (·.size) = some 1 := by kernel_rfl
theorem sz4 : (Try.prog.info? 4).map (·.size) = some 1 := by kernel_rfl
theorem sz9 : (Try.prog.info? 9).map (·.size) = some 1 := by kernel_rfl
theorem sz25 : (Try.prog.info? 25).map (·.size) = some 3 := by kernel_rfl
theorem sz62 : (Try.prog.info? 62).map (·.size) = some 1 := by kernel_rfl
theorem sz74 : (Try.prog.info? 74).map (·.size) = some 4 := by kernel_rfl
theorem sz115 : (Try.prog.info? 115).map (·.size) = some 5 := by kernel_rfl
theorem ti5 : TI Try.prog 5 [.int .u8 0] 1 1 := TI.of (by kernel_rfl) rfl rfl
theorem ti9 : TI Try.prog 9 [str []] 1 16 := TI.of (by kernel_rfl) rfl rfl
theorem ti74 : TI Try.prog 74 [.int .i64 0, .int .i64 0, str [], .bool false] 4 40 := TI.of (by kernel_rfl) rfl rfl
theorem fo25_1 : FO Try.prog 25 1 1 1 false := FO.of Try.underlying25 rfl rfl (by kernel_rfl) Try.underlying23 rfl rfl
theorem fo25_2 : FO Try.prog 25 2 2 1 false := FO.of Try.underlying25 rfl rfl (by kernel_rfl) Try.underlying3 rfl rfl
theorem fo74_2 : FO Try.prog 74 2 2 1 false := FO.of Try.underlying74 rfl rfl (by kernel_rfl) Try.underlying9 rfl rfl
theorem fo74_3 : FO Try.prog 74 3 3 1 false := FO.of Try.underlying74 rfl rfl (by kernel_rfl) Try.underlying4 rfl rfl

theorem JAddG_ct (jb : Nat) (j : Jn) (d : Dk) (fb : List (List Ck)) (bodies : List (List UInt8)) (Ab : Option Addr) (cb K L C : Nat) (B : Frag) (hf : Fits d.abs j fb) (hRb : RoS B 1 Ab bodies.length (bodies.map str)) (hc : DkN.Calm K L C d.abs) (hK : K ≤ 900000) (hL : L ≤ 10000000000) (hC : C ≤ 1000000000) (hbs : ∀ s ∈ bodies, s.length ≤ 65536) (hall : (allF bodies).length ≤ 10000000000) (hbl : bodies.length ≤ 1000000) (hjl : j.l.length ≤ 1000000000)
    (hroom : ((sec (L + (allF bodies).length) + K * sec L : Nat) : Int) ≤ d.abs.room) :
    Ct Try.prog 38 [.pointer (some ⟨jb, 0, none⟩), .slice Ab bodies.length cb] B (jnH jb j * dkH j.db d) (fun v B' H' => ∃ (d' : Dk) (j' : Jn) (fb' : List (List Ck)), v = .tuple #[i64 (j.l.length : Int), i64 0] ∧ H' = jnH jb j' * dkH j'.db d' ∧ j'.db = j.db ∧ j'.most = j.most ∧ Fits d'.abs j' fb' ∧
      DkN.Calm (K + 2) (L + (allF bodies).length) (C + 2) d'.abs ∧ (Still d.abs → Still d'.abs) ∧ j'.l = j.l ++ recsAt (fileOf j) (fileM ((fileOf j : Nat) : Int) d.abs.fs).now.length bodies ∧ d'.abs.room = d.abs.room) := by
  have hfl : j.last ≤ 1000000000 := by rw [hf.last]; have := hf.holds.le; have := hc.len; omega
  have h0 := add_room hc (file := fileOf j) hroom
  refine Ct.mono (JAdd_ct jb j d bodies Ab cb K L C B hRb hc hK hL hC hbs hall hbl hjl hfl) ?_
  rintro v B' H' ⟨d', hd', ⟨h1, _⟩ | ⟨h1, rfl, Al, cl, rfl⟩⟩
  · exact absurd h0 h1
  · obtain ⟨fb', hf'⟩ := add_fits hc hf hbs h1 Al cl
    obtain ⟨_, hc', hs'⟩ := addD_done hc h1
    exact ⟨d', _, fb', rfl, rfl, rfl, rfl, by rw [hd']; exact hf', by rw [hd']; exact hc', fun h => by rw [hd']; exact hs' h, rfl, by rw [hd']; exact addD_roomy hc _ _⟩
theorem tmodN (n : Int) {N : Nat} (h : 0 < N) : ∃ k : Nat, (Int.tmod n (N : Int) + N) % N = (k : Int) ∧ k < N ∧ 0 ≤ Int.tmod n (N : Int) + N ∧ Int.tmod n (N : Int) + N < 2 * N := by
  have h1 := Int.tmod_lt_of_pos n (b := (N : Int)) (by omega)
  have h2 := Int.tmod_lt_of_pos (-n) (b := (N : Int)) (by omega)
  rw [Int.neg_tmod] at h2
  have h3 := Int.emod_nonneg (Int.tmod n (N : Int) + N) (b := (N : Int)) (by omega)
  have h4 := Int.emod_lt_of_pos (Int.tmod n (N : Int) + N) (b := (N : Int)) (by omega)
  exact ⟨((Int.tmod n (N : Int) + N) % N).toNat, by omega, by omega, by omega, by omega⟩

theorem rec_at_bound {K L C : Nat} {D : Dm} {fb : List (List Ck)} (hc : DkN.Calm K L C D) (hf : Holds D.fs fb) {k : Nat} {hk : k < (recsOf 0 fb).length} {r : Rc} (hr : (recsOf 0 fb)[k] = r) (hL : L ≤ 1000000 := by decide) : r.at_ ≤ 1000000000000 := by
  obtain ⟨fa, us, c, vs, fz, h1, h2, _⟩ := rec_loc fb 0 k hk
  rw [List.getElem?_eq_getElem hk, hr] at h2
  injection h2 with h2
  subst h2
  obtain ⟨f, hf1, hf2⟩ := hf.at_ fa.length (by rw [h1]; simp)
  have hfb : fb[fa.length]'(by rw [h1]; simp) = us ++ c :: vs := by
    simp only [h1]
    rw [List.getElem_append_right (Nat.le_refl _)]; simp
  rw [hfb, FrA.cat_app] at hf2
  have h3 := hc.now f (findM_mem hf1).1
  rw [hf2, List.length_append] at h3
  show (FrA.cat us).length + 12 ≤ _
  omega

set_option maxHeartbeats 16000000 in
theorem JournalBlanks_ct (l : List (List UInt8)) (A : Option Addr) (c : Nat) (at_ : Int) (x : Sk) (B : Frag) (hl : 0 < l.length → RoS B 1 A l.length (l.map str)) (hn : l.length ≤ 9223372036854775807) : CtB Try.prog 7 [.slice A l.length c, i64 at_, .agg (scs x).toArray] B (fun v B' => v = .bool true) := by
  refine CtB.of_body Try.func7 rfl (nt := 185) rfl (by kernel_rfl) rfl ?_
  intro N0 w0 R
  refine Cx.seq (fun K1 k1 => ?_)
  refine Cx.region ?_
  refine Lx.new (boxA rfl) rfl (fun b5 => ?_)
  refine Lx.y (asg rfl) rfl ?_
  refine Lx.nil ?_
  refine Xx.tn (k1 _ _ _ _ ?_)
  refine Cx.seq (fun K2 k2 => ?_)
  refine Cx.region ?_
  refine Lx.c rfl rfl rfl (New2_ct 10000 _ (by decide)) ((one_star _).symm) rfl ?_
  rintro v1 B1 H1 ⟨hBB, db, d0, rfl, hd0, rfl⟩ hB1
  have hBB2 := hBB.symm
  subst hBB2
  clear hB1
  have hc0 : DkN.Calm 0 0 0 d0.abs := by rw [hd0]; exact calm_new 10000 (by decide)
  refine Lx.y (mv rfl) rfl ?_
  refine Lx.y (ext rfl rfl) rfl ?_
  refine Lx.y (ext rfl rfl) rfl ?_
  refine Lx.y (asg rfl) rfl ?_
  refine Lx.y (asg rfl) rfl ?_
  refine Lx.nil ?_
  refine Xx.tn (k2 _ _ _ _ ?_)
  refine Cx.seq (fun K3 k3 => ?_)
  refine Cx.region ?_
  refine Lx.y (mv rfl) rfl ?_
  refine Lx.c rfl rfl rfl (JOpenF_ct d0 db 120 [] 0 0 0 _ hc0 (by decide) (by decide) (by decide) (by decide) (by rw [hd0]; exact holds_none)) (rfl) rfl ?_
  rintro v2 B2 H2 ⟨jb, j0, rfl, hjd0, hjm0, hj0, rfl⟩ hB2
  simp only [star_assoc]
  refine Lx.y (mv rfl) rfl ?_
  refine Lx.y (ext rfl rfl) rfl ?_
  refine Lx.y (ext rfl rfl) rfl ?_
  refine Lx.y (asg rfl) rfl ?_
  refine Lx.y (asg rfl) rfl ?_
  refine Lx.nil ?_
  refine Xx.tn (k3 _ _ _ _ ?_)
  refine Cx.seq (fun K4 k4 => ?_)
  refine Cx.seq (fun K5 k5 => ?_)
  refine Cx.region ?_
  refine Lx.cb rfl rfl rfl (awake_ct _) rfl ?_
  rintro v3 B3 rfl hB3
  refine Lx.y (not' rfl) rfl ?_
  refine Lx.y (mv rfl) rfl ?_
  refine Lx.gT rfl rfl rfl ?_
  refine Lx.y (mv rfl) rfl ?_
  refine Lx.gT rfl rfl rfl ?_
  refine Lx.y (Yx.ff (neI rfl rfl) rfl) rfl ?_
  refine Lx.y (pickF rfl rfl) rfl ?_
  refine Lx.nil ?_
  refine Xx.tn (k5 _ _ _ _ ?_)
  refine Cx.condF rfl ?_
  refine Cx.skip ?_
  refine Xx.tn (k4 _ _ _ _ ?_)
  refine Cx.seq (fun K7 k7 => ?_)
  refine Cx.region ?_
  refine Lx.o (bslZ Try.underlying62 ti9) rfl (fun v B' H' hΦ hB => ?_)
  obtain ⟨b0, rfl, hBB, rfl⟩ := hΦ
  have hBB2 := hBB.symm
  subst hBB2
  clear hB
  refine Lx.y (asg rfl) rfl ?_
  refine Lx.nil ?_
  refine Xx.tn (k7 _ _ _ _ ?_)
  refine Cx.cutK (ds' := []) (Sub.cons (s := 0) rfl (Sub.cons (s := 1) rfl (Sub.cons (s := 2) rfl (Sub.cons (s := 5) rfl (Sub.cons (s := 7) rfl (Sub.cons (s := 9) rfl (Sub.cons (s := 10) rfl (Sub.cons (s := 23) rfl (Sub.cons (s := 24) rfl (Sub.cons (s := 25) rfl (Sub.cons (s := 26) rfl (Sub.cons (s := 27) rfl (Sub.cons (s := 28) rfl (Sub.cons (s := 29) rfl (Sub.cons (s := 30) rfl (Sub.cons (s := 31) rfl (Sub.cons (s := 32) rfl (Sub.cons (s := 33) rfl (Sub.cons (s := 34) rfl (Sub.cons (s := 35) rfl (Sub.cons (s := 36) rfl (Sub.cons (s := 37) rfl (Sub.cons (s := 38) rfl (Sub.nil _)))))))))))))))))))))))) (fun ρ' B' H' => ∃ (d : Dk) (j : Jn) (fb : List (List Ck)) (ms : List (List UInt8)) (Am : Option Addr) (cm : Nat), ρ' = [(11, .slice Am ms.length cm)] ∧ jnH jb j * (dkH db d * (sbuf 9 1 Am ms.length cm (ms.map str) * (row b5 25 (scs x) * R))) = H' ∧ DkN.Calm 16 1600 16 d.abs ∧ Still d.abs ∧ Fits d.abs j fb ∧ j.db = db ∧ j.l.map (fun r : Rc => (r.body, r.good)) = ms.map (fun s : List UInt8 => (s, true)) ∧ ms.length ≤ 8 ∧ (∀ s ∈ ms, s.length ≤ 153) ∧ B.le B') ?_ ?_
  · skip
    refine Cx.seq (fun K8 k8 => ?_)
    refine Cx.region ?_
    refine Lx.y (asg rfl) rfl ?_
    refine Lx.nil ?_
    refine Xx.tn (k8 _ _ _ _ ?_)
    refine Cx.block ?_
    refine Cx.loopK (Sub.cons (s := 0) rfl (Sub.cons (s := 1) rfl (Sub.cons (s := 2) rfl (Sub.cons (s := 5) rfl (Sub.cons (s := 7) rfl (Sub.cons (s := 9) rfl (Sub.cons (s := 10) rfl (Sub.cons (s := 23) rfl (Sub.cons (s := 24) rfl (Sub.cons (s := 25) rfl (Sub.cons (s := 26) rfl (Sub.cons (s := 27) rfl (Sub.cons (s := 28) rfl (Sub.cons (s := 29) rfl (Sub.cons (s := 30) rfl (Sub.cons (s := 31) rfl (Sub.cons (s := 32) rfl (Sub.cons (s := 33) rfl (Sub.cons (s := 34) rfl (Sub.cons (s := 35) rfl (Sub.cons (s := 36) rfl (Sub.cons (s := 37) rfl (Sub.cons (s := 38) rfl (Sub.nil _)))))))))))))))))))))))) (fun m ρ' B' H' => ∃ (i : Nat) (d : Dk) (j : Jn) (fb : List (List Ck)) (ms : List (List UInt8)) (Am : Option Addr) (cm : Nat) (B4 : Frag), (i ≤ 8 ∧ DkN.Calm (2 * i) (200 * i) (2 * i) d.abs ∧ d.abs.room = 10000 ∧ Still d.abs ∧ Fits d.abs j fb ∧ j.db = db ∧ j.l.map (fun r : Rc => (r.body, r.good)) = ms.map (fun s : List UInt8 => (s, true)) ∧ ms.length = i ∧ (∀ s ∈ ms, s.length ≤ 153) ∧ B.le B4) ∧ m = 8 - i ∧ ρ' = [(11, .slice Am ms.length cm), (12, i64 (i : Int))] ∧ B4 = B' ∧ jnH jb j * (dkH db d * (sbuf 9 1 Am ms.length cm (ms.map str) * (row b5 25 (scs x) * R))) = H') ⟨0, d0, j0, [], [], some ⟨b0, 0, none⟩, 0, _, ⟨Nat.zero_le _, hc0, by rw [hd0], by rw [hd0]; exact fun f hf => (by cases hf), hj0, hjd0, by rw [hj0.l]; rfl, rfl, fun s hs => (by cases hs), Frag.le_trans hB2 hB3⟩, rfl, rfl, rfl, by show _ * (_ * (sbuf _ 1 (some ⟨b0, 0, none⟩) 0 0 [] * _)) = _; ac_rfl⟩ (Sub.cons (s := 11) rfl (Sub.cons (s := 12) rfl (Sub.cons (s := 0) rfl (Sub.cons (s := 1) rfl (Sub.cons (s := 2) rfl (Sub.cons (s := 5) rfl (Sub.cons (s := 7) rfl (Sub.cons (s := 9) rfl (Sub.cons (s := 10) rfl (Sub.cons (s := 23) rfl (Sub.cons (s := 24) rfl (Sub.cons (s := 25) rfl (Sub.cons (s := 26) rfl (Sub.cons (s := 27) rfl (Sub.cons (s := 28) rfl (Sub.cons (s := 29) rfl (Sub.cons (s := 30) rfl (Sub.cons (s := 31) rfl (Sub.cons (s := 32) rfl (Sub.cons (s := 33) rfl (Sub.cons (s := 34) rfl (Sub.cons (s := 35) rfl (Sub.cons (s := 36) rfl (Sub.cons (s := 37) rfl (Sub.cons (s := 38) rfl (Sub.nil _)))))))))))))))))))))))))) ?_
    rintro m ρ' B' H' ⟨i, d, j, fb, ms, Am, cm, B4, ⟨hi, hc, hroom, hst, hf, hjd, hpm, hml, hms, hBle⟩, rfl, rfl, rfl, rfl⟩
    refine Cx.seq (fun K9 k9 => ?_)
    refine Cx.seq (fun K10 k10 => ?_)
    refine Cx.region ?_
    refine Lx.y (mv rfl) rfl ?_
    refine Lx.y (mv rfl) rfl ?_
    refine Lx.y (lenV (ty' := 0) Try.underlying62 rfl) rfl ?_
    refine Lx.y (lss rfl rfl) rfl ?_
    refine Lx.y (mv rfl) rfl ?_
    refine Xx.ifD (t := 43) rfl (fun h11 => ?_) (fun h11 => ?_)
    · skip
      have hlt := h11
      have hlt : i < l.length := by omega
      refine Lx.gT rfl rfl rfl ?_
      refine Lx.y (mv rfl) rfl ?_
      refine Lx.gT rfl rfl rfl ?_
      refine Lx.y (lss rfl rfl) rfl ?_
      refine Lx.y (pickT rfl rfl) rfl ?_
      refine Lx.nil ?_
      refine Xx.tn (k10 _ _ _ _ ?_)
      refine Cx.condD rfl (fun h12 => ?_) (fun h12 => ?_)
      · skip
        have h8 := h12
        have h8 : i < 8 := by omega
        obtain ⟨b9, o9, cs9, et9, fz9, hA9, hB9, hv9⟩ := (hl (by omega)).at1 hlt
        rw [List.getElem?_map, List.getElem?_eq_getElem hlt] at hv9
        have hB9 := hBle _ _ hB9
        have hfw := Jn5.fewL_len l[i]
        have hsl : ([60] ++ [toB (97 + (i : Int))] ++ Jn5.fewL l[i] ++ [62] : List UInt8).length ≤ 153 := by simp only [List.length_append, List.length_singleton]; omega
        refine Cx.skip ?_
        refine Xx.tn (k9 _ _ _ _ ?_)
        refine Cx.seq (fun K13 k13 => ?_)
        refine Cx.block ?_
        refine Cx.seq (fun K14 k14 => ?_)
        refine Cx.drawn (by kernel_rfl) ?_
        refine Dx.p (i := 0) rfl (by kernel_rfl) (mv rfl) rfl ?_
        refine Dx.p (i := 1) rfl (by kernel_rfl) (add rfl rfl (by exact wrap64 (by omega) (by omega))) rfl ?_
        refine Dx.p (i := 2) rfl (by kernel_rfl) (cvI rfl Try.underlying3 Try.underlying5 (wrap_u8 _)) rfl ?_
        refine Dx.p (i := 6) rfl (by kernel_rfl) (mv rfl) rfl ?_
        refine Dx.p (i := 7) rfl (by kernel_rfl) (mv rfl) rfl ?_
        refine Dx.p (i := 8) rfl (by kernel_rfl) (Yx.val (ia (b := b9) (o := o9) Try.underlying62 sz9 (by rw [← hA9]; rfl) rfl (Int.toNat_natCast _) (by omega) (by omega)) rfl) rfl ?_
        refine Dx.r (i := 9) rfl (by kernel_rfl) (ldB Try.underlying9 rfl rfl hB9 hv9) rfl ?_
        refine Dx.two (i := 3) (j := 10) (by kernel_rfl) ?_ ?_
        · skip
          refine Dstep.o (i := 3) rfl (bsl1 Try.underlying80 ti5 rfl rfl rfl (by decide)) rfl (fun v B' H' hΦ hB => ?_)
          obtain ⟨bs, rfl, hBB, rfl⟩ := hΦ; have hBB2 := hBB.symm; subst hBB2; clear hB
          refine ⟨JOk.yes (JOk.top) (ldB Try.underlying9 rfl rfl hB9 hv9), ?_⟩
          refine Dx.r (i := 4) rfl (by kernel_rfl) (b2sR Try.underlying80 Try.underlying5 Try.underlying9 rfl (u8s_cons u8s_nil) rfl) rfl ?_
          refine Dx.p (i := 5) rfl (by kernel_rfl) (catS (l := [60]) rfl rfl (by simp)) rfl ?_
          refine Dx.one (i := 10) (by kernel_rfl) ?_
          refine Dstep.o (i := 10) rfl (Ox.cb rfl rfl rfl (few_ct _ _)) rfl (fun v B' H' hΦ hB => ?_)
          obtain ⟨rfl, rfl, hBB⟩ := hΦ; have hBB2 := hBB.symm; subst hBB2; clear hB
          refine ⟨JOk.yes (JOk.edge (JOk.top) (by kernel_rfl)) (b2sR Try.underlying80 Try.underlying5 Try.underlying9 rfl (u8s_cons u8s_nil) rfl), ?_⟩
          refine Dx.p (i := 11) rfl (by kernel_rfl) (catS rfl rfl (by simp only [List.length_append, List.length_singleton]; omega)) rfl ?_
          refine Dx.p (i := 12) rfl (by kernel_rfl) (catS (l2 := [62]) rfl rfl (by simp only [List.length_append, List.length_singleton]; omega)) rfl ?_
          refine Dx.p (i := 13) rfl (by kernel_rfl) (asg rfl) rfl ?_
          refine Dx.done (by kernel_rfl) ?_
          refine Xx.tn (k14 _ _ _ _ ?_)
          refine Cx.seq (fun K15 k15 => ?_)
          refine Cx.seq (fun K16 k16 => ?_)
          refine Cx.region ?_
          refine Lx.y (mv rfl) rfl ?_
          refine Lx.y (mv rfl) rfl ?_
          refine Lx.bsl (bsl1 Try.underlying62 ti9 rfl rfl rfl (by decide)) rfl (fun bv => ?_)
          refine Xx.dropB bs (Xx.freezeB bv fun B5 hB5 hbv => ?_)
          have hRb : RoS B5 1 (some ⟨bv, 0, none⟩) [([60] ++ [toB (97 + (i : Int))] ++ Jn5.fewL l[i] ++ [62] : List UInt8)].length ([([60] ++ [toB (97 + (i : Int))] ++ Jn5.fewL l[i] ++ [62] : List UInt8)].map str) := ⟨rfl, .inr ⟨bv, 0, _, _, _, rfl, hbv, rfl⟩⟩
          have hall : (allF [([60] ++ [toB (97 + (i : Int))] ++ Jn5.fewL l[i] ++ [62] : List UInt8)]).length ≤ 165 := by
            have := allF_len [([60] ++ [toB (97 + (i : Int))] ++ Jn5.fewL l[i] ++ [62] : List UInt8)] 153 (fun s hs => by rw [List.mem_singleton.1 hs]; exact hsl)
            simp only [List.length_singleton] at this; omega
          have hjl := pair_len hpm
          refine Lx.c rfl rfl rfl (JAddG_ct jb j d fb [([60] ++ [toB (97 + (i : Int))] ++ Jn5.fewL l[i] ++ [62] : List UInt8)] (some ⟨bv, 0, none⟩) 1 (2 * i) (200 * i) (2 * i) _ hf hRb hc (by omega) (by omega) (by omega) (fun s hs => by rw [List.mem_singleton.1 hs]; omega) (by omega) (by simp) (by omega) (by rw [hroom]; have h1 : 2 * i * sec (200 * i) ≤ 16 * 26 := Nat.mul_le_mul (by omega) (by unfold sec; omega); have h2 : sec (200 * i + (allF [([60] ++ [toB (97 + (i : Int))] ++ Jn5.fewL l[i] ++ [62] : List UInt8)]).length) ≤ 30 := (by unfold sec; omega); omega)) ((show _ = (jnH jb j * dkH j.db d) * (sbuf 9 1 Am ms.length cm (ms.map str) * (row b5 25 (scs x) * R)) by rw [hjd]; ac_rfl)) rfl ?_
          rintro v6 B6 H6 ⟨d4, j4, fb4, rfl, rfl, hdb4, hm4, hf4, hc4, hs4, hl4, hr4⟩ hB6
          rw [hdb4, hjd]
          simp only [star_assoc]
          refine Lx.y (mv rfl) rfl ?_
          refine Lx.y (ext rfl rfl) rfl ?_
          refine Lx.y (ext rfl rfl) rfl ?_
          refine Lx.y (asg rfl) rfl ?_
          refine Lx.y (asg rfl) rfl ?_
          refine Lx.nil ?_
          refine Xx.tn (k16 _ _ _ _ ?_)
          refine Cx.seq (fun K17 k17 => ?_)
          refine Cx.region ?_
          refine Lx.y (mv rfl) rfl ?_
          refine Lx.y (Yx.ff (neI rfl rfl) rfl) rfl ?_
          refine Lx.nil ?_
          refine Xx.tn (k17 _ _ _ _ ?_)
          refine Cx.condF rfl ?_
          refine Cx.skip ?_
          refine Xx.tn (k15 _ _ _ _ ?_)
          refine Cx.region ?_
          refine Lx.y (mv rfl) rfl ?_
          refine Lx.y (mv rfl) rfl ?_
          refine Lx.bsl (bsl1 Try.underlying62 ti9 rfl rfl rfl (by decide)) rfl (fun bw => ?_)
          refine Lx.o (appN (et := 9) (A := Am) (ms.length + 1) [str ([60] ++ [toB (97 + (i : Int))] ++ Jn5.fewL l[i] ++ [62] : List UInt8)] ((ms ++ [([60] ++ [toB (97 + (i : Int))] ++ Jn5.fewL l[i] ++ [62] : List UInt8)]).map str) Try.underlying62 Try.underlying62 ti9 rfl rfl rfl rfl rfl (by omega) (by omega) rfl (by simp only [List.map_append, List.map_cons, List.map_nil])) rfl (fun v B' H' hΦ hB => ?_)
          obtain ⟨A2, c2, rfl, hA2, hl2, hc2, hBB, rfl⟩ := hΦ
          have hBB2 := hBB.symm
          subst hBB2
          refine Xx.dropB bw ?_
          clear hB
          refine Lx.y (asg rfl) rfl ?_
          refine Lx.nil ?_
          refine Xx.bn ?_
          refine Xx.tn (k13 _ _ _ _ ?_)
          refine Cx.region ?_
          refine Lx.y (mv rfl) rfl ?_
          refine Lx.y (Yx.val (add rfl rfl (by first | exact wrap64 (by omega) (by omega) | rfl)) (show _ = i64 ((i + 1 : Nat) : Int) from rfl)) rfl ?_
          refine Lx.y (asg rfl) rfl ?_
          refine Lx.nil ?_
          exact Xx.againK ⟨i + 1, d4, j4, fb4, ms ++ [([60] ++ [toB (97 + (i : Int))] ++ Jn5.fewL l[i] ++ [62] : List UInt8)], A2, c2, _, ⟨by omega, hc4.mono (by omega) (by omega) (by omega), by rw [hr4]; exact hroom, hs4 hst, hf4, by rw [hdb4, hjd], by rw [hl4, List.map_append, hpm, recsAt_good, List.map_append], by simp [hml], fun s hs => by
  rcases List.mem_append.1 hs with hs | hs
  · exact hms s hs
  · rw [List.mem_singleton.1 hs]; exact hsl, Frag.le_trans hBle (Frag.le_trans hB5 hB6)⟩, rfl, rfl, rfl, (by rw [List.length_append, List.length_singleton]; ac_rfl)⟩ (by omega) (Sub.consE (s := 11) rfl (by rw [List.length_append, List.length_singleton]) (Sub.cons (s := 12) rfl (Sub.cons (s := 0) rfl (Sub.cons (s := 1) rfl (Sub.cons (s := 2) rfl (Sub.cons (s := 5) rfl (Sub.cons (s := 7) rfl (Sub.cons (s := 9) rfl (Sub.cons (s := 10) rfl (Sub.cons (s := 23) rfl (Sub.cons (s := 24) rfl (Sub.cons (s := 25) rfl (Sub.cons (s := 26) rfl (Sub.cons (s := 27) rfl (Sub.cons (s := 28) rfl (Sub.cons (s := 29) rfl (Sub.cons (s := 30) rfl (Sub.cons (s := 31) rfl (Sub.cons (s := 32) rfl (Sub.cons (s := 33) rfl (Sub.cons (s := 34) rfl (Sub.cons (s := 35) rfl (Sub.cons (s := 36) rfl (Sub.cons (s := 37) rfl (Sub.cons (s := 38) rfl (Sub.nil _))))))))))))))))))))))))))
        refine Dstep.o (i := 10) rfl (Ox.cb rfl rfl rfl (few_ct _ _)) rfl (fun v B' H' hΦ hB => ?_)
        obtain ⟨rfl, rfl, hBB⟩ := hΦ; have hBB2 := hBB.symm; subst hBB2; clear hB
        refine ⟨JOk.edge (JOk.top) (by kernel_rfl), ?_⟩
        refine Dx.one (i := 3) (by kernel_rfl) ?_
        refine Dstep.o (i := 3) rfl (bsl1 Try.underlying80 ti5 rfl rfl rfl (by decide)) rfl (fun v B' H' hΦ hB => ?_)
        obtain ⟨bs, rfl, hBB, rfl⟩ := hΦ; have hBB2 := hBB.symm; subst hBB2; clear hB
        refine ⟨JOk.yes (JOk.top) (ldB Try.underlying9 rfl rfl hB9 hv9), ?_⟩
        refine Dx.r (i := 4) rfl (by kernel_rfl) (b2sR Try.underlying80 Try.underlying5 Try.underlying9 rfl (u8s_cons u8s_nil) rfl) rfl ?_
        refine Dx.p (i := 5) rfl (by kernel_rfl) (catS (l := [60]) rfl rfl (by simp)) rfl ?_
        refine Dx.p (i := 11) rfl (by kernel_rfl) (catS rfl rfl (by simp only [List.length_append, List.length_singleton]; omega)) rfl ?_
        refine Dx.p (i := 12) rfl (by kernel_rfl) (catS (l2 := [62]) rfl rfl (by simp only [List.length_append, List.length_singleton]; omega)) rfl ?_
        refine Dx.p (i := 13) rfl (by kernel_rfl) (asg rfl) rfl ?_
        refine Dx.done (by kernel_rfl) ?_
        refine Xx.tn (k14 _ _ _ _ ?_)
        refine Cx.seq (fun K18 k18 => ?_)
        refine Cx.seq (fun K19 k19 => ?_)
        refine Cx.region ?_
        refine Lx.y (mv rfl) rfl ?_
        refine Lx.y (mv rfl) rfl ?_
        refine Lx.bsl (bsl1 Try.underlying62 ti9 rfl rfl rfl (by decide)) rfl (fun bv => ?_)
        refine Xx.dropB bs (Xx.freezeB bv fun B5 hB5 hbv => ?_)
        have hRb : RoS B5 1 (some ⟨bv, 0, none⟩) [([60] ++ [toB (97 + (i : Int))] ++ Jn5.fewL l[i] ++ [62] : List UInt8)].length ([([60] ++ [toB (97 + (i : Int))] ++ Jn5.fewL l[i] ++ [62] : List UInt8)].map str) := ⟨rfl, .inr ⟨bv, 0, _, _, _, rfl, hbv, rfl⟩⟩
        have hall : (allF [([60] ++ [toB (97 + (i : Int))] ++ Jn5.fewL l[i] ++ [62] : List UInt8)]).length ≤ 165 := by
          have := allF_len [([60] ++ [toB (97 + (i : Int))] ++ Jn5.fewL l[i] ++ [62] : List UInt8)] 153 (fun s hs => by rw [List.mem_singleton.1 hs]; exact hsl)
          simp only [List.length_singleton] at this; omega
        have hjl := pair_len hpm
        refine Lx.c rfl rfl rfl (JAddG_ct jb j d fb [([60] ++ [toB (97 + (i : Int))] ++ Jn5.fewL l[i] ++ [62] : List UInt8)] (some ⟨bv, 0, none⟩) 1 (2 * i) (200 * i) (2 * i) _ hf hRb hc (by omega) (by omega) (by omega) (fun s hs => by rw [List.mem_singleton.1 hs]; omega) (by omega) (by simp) (by omega) (by rw [hroom]; have h1 : 2 * i * sec (200 * i) ≤ 16 * 26 := Nat.mul_le_mul (by omega) (by unfold sec; omega); have h2 : sec (200 * i + (allF [([60] ++ [toB (97 + (i : Int))] ++ Jn5.fewL l[i] ++ [62] : List UInt8)]).length) ≤ 30 := (by unfold sec; omega); omega)) ((show _ = (jnH jb j * dkH j.db d) * (sbuf 9 1 Am ms.length cm (ms.map str) * (row b5 25 (scs x) * R)) by rw [hjd]; ac_rfl)) rfl ?_
        rintro v6 B6 H6 ⟨d4, j4, fb4, rfl, rfl, hdb4, hm4, hf4, hc4, hs4, hl4, hr4⟩ hB6
        rw [hdb4, hjd]
        simp only [star_assoc]
        refine Lx.y (mv rfl) rfl ?_
        refine Lx.y (ext rfl rfl) rfl ?_
        refine Lx.y (ext rfl rfl) rfl ?_
        refine Lx.y (asg rfl) rfl ?_
        refine Lx.y (asg rfl) rfl ?_
        refine Lx.nil ?_
        refine Xx.tn (k19 _ _ _ _ ?_)
        refine Cx.seq (fun K20 k20 => ?_)
        refine Cx.region ?_
        refine Lx.y (mv rfl) rfl ?_
        refine Lx.y (Yx.ff (neI rfl rfl) rfl) rfl ?_
        refine Lx.nil ?_
        refine Xx.tn (k20 _ _ _ _ ?_)
        refine Cx.condF rfl ?_
        refine Cx.skip ?_
        refine Xx.tn (k18 _ _ _ _ ?_)
        refine Cx.region ?_
        refine Lx.y (mv rfl) rfl ?_
        refine Lx.y (mv rfl) rfl ?_
        refine Lx.bsl (bsl1 Try.underlying62 ti9 rfl rfl rfl (by decide)) rfl (fun bw => ?_)
        refine Lx.o (appN (et := 9) (A := Am) (ms.length + 1) [str ([60] ++ [toB (97 + (i : Int))] ++ Jn5.fewL l[i] ++ [62] : List UInt8)] ((ms ++ [([60] ++ [toB (97 + (i : Int))] ++ Jn5.fewL l[i] ++ [62] : List UInt8)]).map str) Try.underlying62 Try.underlying62 ti9 rfl rfl rfl rfl rfl (by omega) (by omega) rfl (by simp only [List.map_append, List.map_cons, List.map_nil])) rfl (fun v B' H' hΦ hB => ?_)
        obtain ⟨A2, c2, rfl, hA2, hl2, hc2, hBB, rfl⟩ := hΦ
        have hBB2 := hBB.symm
        subst hBB2
        refine Xx.dropB bw ?_
        clear hB
        refine Lx.y (asg rfl) rfl ?_
        refine Lx.nil ?_
        refine Xx.bn ?_
        refine Xx.tn (k13 _ _ _ _ ?_)
        refine Cx.region ?_
        refine Lx.y (mv rfl) rfl ?_
        refine Lx.y (Yx.val (add rfl rfl (by first | exact wrap64 (by omega) (by omega) | rfl)) (show _ = i64 ((i + 1 : Nat) : Int) from rfl)) rfl ?_
        refine Lx.y (asg rfl) rfl ?_
        refine Lx.nil ?_
        exact Xx.againK ⟨i + 1, d4, j4, fb4, ms ++ [([60] ++ [toB (97 + (i : Int))] ++ Jn5.fewL l[i] ++ [62] : List UInt8)], A2, c2, _, ⟨by omega, hc4.mono (by omega) (by omega) (by omega), by rw [hr4]; exact hroom, hs4 hst, hf4, by rw [hdb4, hjd], by rw [hl4, List.map_append, hpm, recsAt_good, List.map_append], by simp [hml], fun s hs => by
  rcases List.mem_append.1 hs with hs | hs
  · exact hms s hs
  · rw [List.mem_singleton.1 hs]; exact hsl, Frag.le_trans hBle (Frag.le_trans hB5 hB6)⟩, rfl, rfl, rfl, (by rw [List.length_append, List.length_singleton]; ac_rfl)⟩ (by omega) (Sub.consE (s := 11) rfl (by rw [List.length_append, List.length_singleton]) (Sub.cons (s := 12) rfl (Sub.cons (s := 0) rfl (Sub.cons (s := 1) rfl (Sub.cons (s := 2) rfl (Sub.cons (s := 5) rfl (Sub.cons (s := 7) rfl (Sub.cons (s := 9) rfl (Sub.cons (s := 10) rfl (Sub.cons (s := 23) rfl (Sub.cons (s := 24) rfl (Sub.cons (s := 25) rfl (Sub.cons (s := 26) rfl (Sub.cons (s := 27) rfl (Sub.cons (s := 28) rfl (Sub.cons (s := 29) rfl (Sub.cons (s := 30) rfl (Sub.cons (s := 31) rfl (Sub.cons (s := 32) rfl (Sub.cons (s := 33) rfl (Sub.cons (s := 34) rfl (Sub.cons (s := 35) rfl (Sub.cons (s := 36) rfl (Sub.cons (s := 37) rfl (Sub.cons (s := 38) rfl (Sub.nil _))))))))))))))))))))))))))
      · skip
        refine Cx.exit ?_
        refine Xx.te ?_
        refine Xx.te ?_
        refine Xx.bh ?_
        exact Xx.mkK (⟨d, j, fb, ms, Am, cm, rfl, rfl, hc.mono (by omega) (by omega) (by omega), hst, hf, hjd, hpm, by omega, hms, hBle⟩) (Sub.cons (s := 11) rfl (Sub.cons (s := 0) rfl (Sub.cons (s := 1) rfl (Sub.cons (s := 2) rfl (Sub.cons (s := 5) rfl (Sub.cons (s := 7) rfl (Sub.cons (s := 9) rfl (Sub.cons (s := 10) rfl (Sub.cons (s := 23) rfl (Sub.cons (s := 24) rfl (Sub.cons (s := 25) rfl (Sub.cons (s := 26) rfl (Sub.cons (s := 27) rfl (Sub.cons (s := 28) rfl (Sub.cons (s := 29) rfl (Sub.cons (s := 30) rfl (Sub.cons (s := 31) rfl (Sub.cons (s := 32) rfl (Sub.cons (s := 33) rfl (Sub.cons (s := 34) rfl (Sub.cons (s := 35) rfl (Sub.cons (s := 36) rfl (Sub.cons (s := 37) rfl (Sub.cons (s := 38) rfl (Sub.nil _)))))))))))))))))))))))))
    · skip
      refine Lx.gF rfl rfl rfl rfl ?_
      refine Lx.gF rfl rfl rfl rfl ?_
      refine Lx.y (pickF rfl rfl) rfl ?_
      refine Lx.nil ?_
      refine Xx.tn (k10 _ _ _ _ ?_)
      refine Cx.condF rfl ?_
      refine Cx.exit ?_
      refine Xx.te ?_
      refine Xx.te ?_
      refine Xx.bh ?_
      exact Xx.mkK (⟨d, j, fb, ms, Am, cm, rfl, rfl, hc.mono (by omega) (by omega) (by omega), hst, hf, hjd, hpm, by omega, hms, hBle⟩) (Sub.cons (s := 11) rfl (Sub.cons (s := 0) rfl (Sub.cons (s := 1) rfl (Sub.cons (s := 2) rfl (Sub.cons (s := 5) rfl (Sub.cons (s := 7) rfl (Sub.cons (s := 9) rfl (Sub.cons (s := 10) rfl (Sub.cons (s := 23) rfl (Sub.cons (s := 24) rfl (Sub.cons (s := 25) rfl (Sub.cons (s := 26) rfl (Sub.cons (s := 27) rfl (Sub.cons (s := 28) rfl (Sub.cons (s := 29) rfl (Sub.cons (s := 30) rfl (Sub.cons (s := 31) rfl (Sub.cons (s := 32) rfl (Sub.cons (s := 33) rfl (Sub.cons (s := 34) rfl (Sub.cons (s := 35) rfl (Sub.cons (s := 36) rfl (Sub.cons (s := 37) rfl (Sub.cons (s := 38) rfl (Sub.nil _)))))))))))))))))))))))))
  · rintro ρ' B' H' ⟨d, j, fb, ms, Am, cm, rfl, rfl, hc, hst, hf, hjd, hpm, hml, hms, hBle⟩
    rename Frag => B4
    refine Cx.seq (fun K21 k21 => ?_)
    refine Cx.seq (fun K22 k22 => ?_)
    refine Cx.region ?_
    refine Lx.y (mv rfl) rfl ?_
    refine Lx.y (lenV (ty' := 0) Try.underlying62 rfl) rfl ?_
    refine Lx.y (eqI rfl rfl) rfl ?_
    refine Lx.nil ?_
    refine Xx.tn (k22 _ _ _ _ ?_)
    refine Cx.condD rfl (fun h23 => ?_) (fun h23 => ?_)
    · skip
      skip
      refine Cx.seq (fun K24 k24 => ?_)
      refine Cx.region ?_
      refine Lx.y (asg rfl) rfl ?_
      refine Lx.nil ?_
      refine Xx.tn (k24 _ _ _ _ ?_)
      refine Cx.ret ?_
      refine Xx.tr ?_
      repeat refine Xx.drop ?_
      exact Xx.rB1 rfl rfl rfl hBle rfl
    · skip
      have hne := h23
      have hpos : 0 < ms.length := by omega
      obtain ⟨k, hk, hkn, hk0, hk2⟩ := tmodN at_ hpos
      obtain ⟨hki, hkb, hkg⟩ := pair_at hpm hkn
      obtain ⟨r, hr⟩ : ∃ r, j.l[k] = r := ⟨_, rfl⟩
      rw [hr] at hkb hkg
      have hrl := hms _ (List.getElem_mem hkn)
      have hfl := hf.l
      have hri : (recsOf 0 fb)[k]? = some r := by rw [← hfl, List.getElem?_eq_getElem hki, hr]
      obtain ⟨hki2, hri2⟩ := List.getElem?_eq_some_iff.1 hri
      obtain ⟨hb0, hb1, hb2, fb5, gd, hh5, hr5⟩ := blank_fits (fr := 0) (n := ms[k].length) hc hf.holds hki2 hri2 (by rw [hkb]; omega)
      refine Xx.addrT Am (by omega) (fun bm hAm hmx hmc => ?_)
      refine Xx.perm (H' := jnH jb j * (dkH db d * (sbuf 9 1 (some ⟨bm, 0, none⟩) ms.length cm (ms.map str) * (row b5 25 (scs x) * R)))) ?_ (by rw [hAm])
      refine Cx.skip ?_
      refine Xx.tn (k21 _ _ _ _ ?_)
      refine Cx.seq (fun K25 k25 => ?_)
      refine Cx.region ?_
      refine Lx.y (mv rfl) rfl ?_
      refine Lx.y (mv rfl) rfl ?_
      refine Lx.y (lenV (ty' := 0) Try.underlying62 rfl) rfl ?_
      refine Lx.y (rem rfl rfl (by omega) rfl) rfl ?_
      refine Lx.y (mv rfl) rfl ?_
      refine Lx.y (lenV (ty' := 0) Try.underlying62 rfl) rfl ?_
      refine Lx.y (add rfl rfl (by exact wrap64 (by omega) (by omega))) rfl ?_
      refine Lx.y (mv rfl) rfl ?_
      refine Lx.y (lenV (ty' := 0) Try.underlying62 rfl) rfl ?_
      refine Lx.y (Yx.val (remN rfl rfl (by omega) (by omega)) (show _ = i64 (k : Int) from by rw [hk])) rfl ?_
      refine Lx.y (asg rfl) rfl ?_
      refine Lx.nil ?_
      refine Xx.tn (k25 _ _ _ _ ?_)
      refine Cx.seq (fun K26 k26 => ?_)
      refine Cx.seq (fun K27 k27 => ?_)
      have hrat : r.at_ ≤ 1000000000000 := rec_at_bound hc hf.holds hri2
      refine Cx.region ?_
      refine Lx.y (mv rfl) rfl ?_
      refine Lx.y (mv rfl) rfl ?_
      refine Lx.y (Yx.val (mv rfl) (show _ = Value.slice (some ⟨bm, 0, none⟩) ms.length cm from by rw [← hAm])) rfl ?_
      refine Lx.y (mv rfl) rfl ?_
      refine Lx.y (ia Try.underlying62 sz9 rfl rfl (Int.toNat_natCast _) (by omega) (by omega)) rfl ?_
      refine Lx.y (ldC Try.underlying9 rfl rfl (Cells.buf (b := bm) (m := 1) (str_at hkn) (by rw [List.length_map]; omega))) rfl ?_
      refine Lx.y (lenS Try.underlying9 rfl) rfl ?_
      refine Lx.c rfl rfl rfl (JBlank_ct jb j d k 0 ms[k].length r 16 1600 16 _ hki hr (by rw [hkb]; omega) (by rw [hkb]; omega) hrat hc (by decide) (by decide) (by decide)) ((show _ = (jnH jb j * dkH j.db d) * (sbuf 9 1 (some ⟨bm, 0, none⟩) ms.length cm (ms.map str) * (row b5 25 (scs x) * R)) by rw [hjd]; ac_rfl)) rfl ?_
      rintro v7 B7 H7 ⟨d2, hd2, rfl, _, hH7⟩ hB7
      have hH7 := hH7 hb0
      subst hH7
      obtain ⟨J9, hJ9⟩ : ∃ J9 : HP, J9 = jnH jb { j with l := j.l.set k { r with body := r.body.take 0 ++ List.replicate ms[k].length 0 ++ r.body.drop (0 + ms[k].length), good := r.good && decide (r.body.take 0 ++ List.replicate ms[k].length 0 ++ r.body.drop (0 + ms[k].length) = r.body) } } := ⟨_, rfl⟩
      rw [← hJ9, hb0, hjd]
      simp only [star_assoc]
      have hst2 : Still d2.abs := by rw [hd2]; exact hb2 hst
      have hc2 : DkN.Calm 18 1600 18 d2.abs := by rw [hd2]; exact hb1
      have hcr := crash_still hst2 hc2.dead x.mask x.torn
      refine Lx.y (Yx.ff (neI rfl rfl) rfl) rfl ?_
      refine Lx.nil ?_
      refine Xx.tn (k27 _ _ _ _ ?_)
      refine Cx.condF rfl ?_
      refine Cx.skip ?_
      refine Xx.tn (k26 _ _ _ _ ?_)
      refine Cx.seq (fun K28 k28 => ?_)
      refine Cx.region ?_
      refine Lx.y (mv rfl) rfl ?_
      refine Lx.y (fa' fo25_1 rfl) rfl ?_
      refine Lx.y (ld Try.underlying23 rfl rfl rfl) rfl ?_
      refine Lx.y (fa' fo25_2 rfl) rfl ?_
      refine Lx.y (ld Try.underlying3 rfl rfl rfl) rfl ?_
      refine Lx.c rfl rfl rfl (Crash_ct d2 db x.mask x.torn _ (hc2.fit (by decide) (by decide) (by decide))) (Pick.eq) rfl ?_
      rintro v8 B8 H8 ⟨rfl, d3, hd3, rfl⟩ hB8
      rw [hcr] at hd3
      refine Lx.nil ?_
      refine Xx.tn (k28 _ _ _ _ ?_)
      refine Cx.seq (fun K29 k29 => ?_)
      refine Cx.region ?_
      refine Lx.y (mv rfl) rfl ?_
      refine Lx.co rfl rfl rfl (Up_ct d3 db _) (rfl) rfl ?_
      obtain ⟨d5, hd5⟩ : ∃ d5 : Dk, d5 = { d3 with dead := false } := ⟨_, rfl⟩
      rw [← hd5]
      have hab : d5.abs = d2.abs := by
        rw [hd5]
        show ({ d3.abs with dead := false } : Dm) = d2.abs
        rw [hd3]
        have h9 := hc2.dead
        cases hq : d2.abs with | mk a b c e f => rw [hq] at h9; simp only at h9; rw [h9]
      refine Lx.nil ?_
      refine Xx.tn (k29 _ _ _ _ ?_)
      refine Cx.seq (fun K30 k30 => ?_)
      refine Cx.region ?_
      refine Lx.y (mv rfl) rfl ?_
      refine Lx.c rfl rfl rfl (JOpenF_ct d5 db 120 fb5 18 1600 18 _ (by rw [hab]; exact hc2) (by decide) (by decide) (by decide) (by decide) (by rw [hab, hd2]; exact hh5)) (rfl) rfl ?_
      rintro v9 B9 H9 ⟨kb, w, rfl, hkd, hkm, hkf, rfl⟩ hB9
      have hwl : w.l = j.l.set k { r with body := r.body.take 0 ++ List.replicate ms[k].length 0 ++ r.body.drop (0 + ms[k].length), good := gd } := by rw [hkf.l, hr5, hfl]
      have hwn : w.l.length = ms.length := by rw [hwl, List.length_set]; exact pair_len hpm
      simp only [star_assoc]
      refine Lx.y (mv rfl) rfl ?_
      refine Lx.y (ext rfl rfl) rfl ?_
      refine Lx.y (ext rfl rfl) rfl ?_
      refine Lx.y (asg rfl) rfl ?_
      refine Lx.y (asg rfl) rfl ?_
      refine Lx.nil ?_
      refine Xx.tn (k30 _ _ _ _ ?_)
      refine Cx.seq (fun K31 k31 => ?_)
      refine Cx.seq (fun K32 k32 => ?_)
      refine Cx.region ?_
      refine Lx.y (mv rfl) rfl ?_
      refine Lx.y (Yx.ff (neI rfl rfl) rfl) rfl ?_
      refine Lx.y (mv rfl) rfl ?_
      refine Lx.gT rfl rfl rfl ?_
      refine Lx.y (mv rfl) rfl ?_
      refine Lx.gT rfl rfl rfl ?_
      refine Lx.co rfl rfl rfl (JLen_ct kb w _) (Pick.eq) rfl ?_
      refine Lx.gT rfl rfl rfl ?_
      refine Lx.y (mv rfl) rfl ?_
      refine Lx.gT rfl rfl rfl ?_
      refine Lx.y (lenV (ty' := 0) Try.underlying62 rfl) rfl ?_
      refine Lx.gT rfl rfl rfl ?_
      refine Lx.y (Yx.ff (neI rfl rfl) (by rw [hwn]; simp)) rfl ?_
      refine Lx.y (pickF rfl rfl) rfl ?_
      refine Lx.nil ?_
      refine Xx.tn (k32 _ _ _ _ ?_)
      refine Cx.condF rfl ?_
      refine Cx.skip ?_
      refine Xx.tn (k31 _ _ _ _ ?_)
      refine Cx.seq (fun K33 k33 => ?_)
      refine Cx.seq (fun K34 k34 => ?_)
      refine Cx.region ?_
      refine Lx.y (asg rfl) rfl ?_
      refine Lx.nil ?_
      refine Xx.tn (k34 _ _ _ _ ?_)
      refine Cx.block ?_
      refine Cx.loopK (Sub.cons (s := 0) rfl (Sub.cons (s := 1) rfl (Sub.cons (s := 2) rfl (Sub.cons (s := 5) rfl (Sub.cons (s := 7) rfl (Sub.cons (s := 9) rfl (Sub.cons (s := 10) rfl (Sub.cons (s := 11) rfl (Sub.cons (s := 16) rfl (Sub.cons (s := 17) rfl (Sub.cons (s := 18) rfl (Sub.cons (s := 23) rfl (Sub.cons (s := 24) rfl (Sub.cons (s := 25) rfl (Sub.cons (s := 26) rfl (Sub.cons (s := 27) rfl (Sub.cons (s := 28) rfl (Sub.cons (s := 29) rfl (Sub.cons (s := 30) rfl (Sub.cons (s := 31) rfl (Sub.cons (s := 32) rfl (Sub.cons (s := 33) rfl (Sub.cons (s := 34) rfl (Sub.cons (s := 35) rfl (Sub.cons (s := 36) rfl (Sub.cons (s := 37) rfl (Sub.cons (s := 38) rfl (Sub.cons (s := 75) rfl (Sub.cons (s := 76) rfl (Sub.cons (s := 77) rfl (Sub.cons (s := 78) rfl (Sub.cons (s := 79) rfl (Sub.cons (s := 80) rfl (Sub.cons (s := 81) rfl (Sub.cons (s := 82) rfl (Sub.cons (s := 83) rfl (Sub.cons (s := 84) rfl (Sub.cons (s := 85) rfl (Sub.cons (s := 86) rfl (Sub.cons (s := 87) rfl (Sub.cons (s := 88) rfl (Sub.cons (s := 89) rfl (Sub.cons (s := 90) rfl (Sub.cons (s := 91) rfl (Sub.cons (s := 92) rfl (Sub.cons (s := 93) rfl (Sub.cons (s := 94) rfl (Sub.cons (s := 95) rfl (Sub.cons (s := 96) rfl (Sub.cons (s := 97) rfl (Sub.cons (s := 98) rfl (Sub.cons (s := 99) rfl (Sub.cons (s := 100) rfl (Sub.cons (s := 101) rfl (Sub.cons (s := 103) rfl (Sub.cons (s := 105) rfl (Sub.cons (s := 106) rfl (Sub.cons (s := 107) rfl (Sub.cons (s := 108) rfl (Sub.cons (s := 109) rfl (Sub.cons (s := 110) rfl (Sub.cons (s := 111) rfl (Sub.cons (s := 112) rfl (Sub.cons (s := 113) rfl (Sub.cons (s := 114) rfl (Sub.cons (s := 115) rfl (Sub.cons (s := 116) rfl (Sub.cons (s := 117) rfl (Sub.cons (s := 118) rfl (Sub.nil _)))))))))))))))))))))))))))))))))))))))))))))))))))))))))))))))))))))) (fun m ρ' B' H' => ∃ (i : Nat), (i ≤ ms.length) ∧ m = ms.length - i ∧ ρ' = [(19, i64 (i : Int))] ∧ B9 = B' ∧ jnH kb w * (dkH db d5 * (J9 * (sbuf 9 1 Am ms.length cm (ms.map str) * (row b5 25 (scs x) * R)))) = H') ⟨0, Nat.zero_le _, rfl, rfl, rfl, (by rw [hAm])⟩ (Sub.cons (s := 19) rfl (Sub.cons (s := 0) rfl (Sub.cons (s := 1) rfl (Sub.cons (s := 2) rfl (Sub.cons (s := 5) rfl (Sub.cons (s := 7) rfl (Sub.cons (s := 9) rfl (Sub.cons (s := 10) rfl (Sub.cons (s := 11) rfl (Sub.cons (s := 16) rfl (Sub.cons (s := 17) rfl (Sub.cons (s := 18) rfl (Sub.cons (s := 23) rfl (Sub.cons (s := 24) rfl (Sub.cons (s := 25) rfl (Sub.cons (s := 26) rfl (Sub.cons (s := 27) rfl (Sub.cons (s := 28) rfl (Sub.cons (s := 29) rfl (Sub.cons (s := 30) rfl (Sub.cons (s := 31) rfl (Sub.cons (s := 32) rfl (Sub.cons (s := 33) rfl (Sub.cons (s := 34) rfl (Sub.cons (s := 35) rfl (Sub.cons (s := 36) rfl (Sub.cons (s := 37) rfl (Sub.cons (s := 38) rfl (Sub.cons (s := 75) rfl (Sub.cons (s := 76) rfl (Sub.cons (s := 77) rfl (Sub.cons (s := 78) rfl (Sub.cons (s := 79) rfl (Sub.cons (s := 80) rfl (Sub.cons (s := 81) rfl (Sub.cons (s := 82) rfl (Sub.cons (s := 83) rfl (Sub.cons (s := 84) rfl (Sub.cons (s := 85) rfl (Sub.cons (s := 86) rfl (Sub.cons (s := 87) rfl (Sub.cons (s := 88) rfl (Sub.cons (s := 89) rfl (Sub.cons (s := 90) rfl (Sub.cons (s := 91) rfl (Sub.cons (s := 92) rfl (Sub.cons (s := 93) rfl (Sub.cons (s := 94) rfl (Sub.cons (s := 95) rfl (Sub.cons (s := 96) rfl (Sub.cons (s := 97) rfl (Sub.cons (s := 98) rfl (Sub.cons (s := 99) rfl (Sub.cons (s := 100) rfl (Sub.cons (s := 101) rfl (Sub.cons (s := 103) rfl (Sub.cons (s := 105) rfl (Sub.cons (s := 106) rfl (Sub.cons (s := 107) rfl (Sub.cons (s := 108) rfl (Sub.cons (s := 109) rfl (Sub.cons (s := 110) rfl (Sub.cons (s := 111) rfl (Sub.cons (s := 112) rfl (Sub.cons (s := 113) rfl (Sub.cons (s := 114) rfl (Sub.cons (s := 115) rfl (Sub.cons (s := 116) rfl (Sub.cons (s := 117) rfl (Sub.cons (s := 118) rfl (Sub.nil _))))))))))))))))))))))))))))))))))))))))))))))))))))))))))))))))))))))) ?_
      rintro m ρ' B' H' ⟨i, hi, rfl, rfl, rfl, rfl⟩
      refine Cx.seq (fun K35 k35 => ?_)
      refine Cx.seq (fun K36 k36 => ?_)
      refine Cx.region ?_
      refine Lx.y (mv rfl) rfl ?_
      refine Lx.y (mv rfl) rfl ?_
      refine Lx.y (lenV (ty' := 0) Try.underlying62 rfl) rfl ?_
      refine Lx.y (lss rfl rfl) rfl ?_
      refine Lx.nil ?_
      refine Xx.tn (k36 _ _ _ _ ?_)
      refine Cx.condD rfl (fun h37 => ?_) (fun h37 => ?_)
      · skip
        have hlt := h37
        have hlt : i < ms.length := by omega
        have hwi : i < w.l.length := by omega
        obtain ⟨ri, hri9⟩ : ∃ ri, w.l[i] = ri := ⟨_, rfl⟩
        have hw1 : i ≠ k → ri.body = ms[i] ∧ ri.good = true := fun hik => by
          obtain ⟨h1, h2, h3⟩ := pair_at hpm hlt
          have h4 : ri = j.l[i] := by
            rw [← hri9]
            have h5 : w.l[i]? = j.l[i]? := by rw [hwl, List.getElem?_set_ne (fun e => hik e.symm)]
            rw [List.getElem?_eq_getElem hwi, List.getElem?_eq_getElem h1] at h5
            exact Option.some.inj h5
          rw [h4]; exact ⟨h2, h3⟩
        have hw2 : i = k → ri.body = List.replicate ms[k].length 0 := fun hik => by
          have h5 : w.l[i]? = some { r with body := r.body.take 0 ++ List.replicate ms[k].length 0 ++ r.body.drop (0 + ms[k].length), good := gd } := by rw [hwl, hik, List.getElem?_set_self (by omega)]
          rw [List.getElem?_eq_getElem hwi, hri9] at h5
          rw [Option.some.inj h5]
          show r.body.take 0 ++ List.replicate ms[k].length 0 ++ r.body.drop (0 + ms[k].length) = _
          rw [hkb, List.take_zero, List.nil_append, Nat.zero_add, List.drop_length, List.append_nil]
        have hrb9 : ri.body.length ≤ 153 := by
          by_cases e : i = k
          · rw [hw2 e, List.length_replicate]; exact hrl
          · rw [(hw1 e).1]; exact hms _ (List.getElem_mem hlt)
        refine Xx.perm (H' := jnH kb w * (dkH db d5 * (J9 * (sbuf 9 1 (some ⟨bm, 0, none⟩) ms.length cm (ms.map str) * (row b5 25 (scs x) * R))))) ?_ (by rw [hAm])
        refine Cx.skip ?_
        refine Xx.tn (k35 _ _ _ _ ?_)
        refine Cx.seq (fun K38 k38 => ?_)
        refine Cx.block ?_
        refine Cx.seq (fun K39 k39 => ?_)
        refine Cx.region ?_
        refine Lx.y (mv rfl) rfl ?_
        refine Lx.y (mv rfl) rfl ?_
        refine Lx.co rfl rfl rfl (JAt_ct kb w i _) (Pick.eq) rfl ?_
        rw [atV_in hwi, hri9]
        refine Lx.y (mv rfl) rfl ?_
        refine Lx.y (ext rfl rfl) rfl ?_
        refine Lx.y (ext rfl rfl) rfl ?_
        refine Lx.new (allocO ti74) rfl (fun b20 => ?_)
        refine Lx.st (stA (d := .bool) sz74 rfl rfl rfl rfl (by show 0 + 4 ≤ 4; omega) rfl) ?_
        refine Lx.y (asg rfl) rfl ?_
        refine Lx.nil ?_
        refine Xx.tn (k39 _ _ _ _ ?_)
        refine Cx.seq (fun K40 k40 => ?_)
        refine Cx.cutK (ds' := []) (Sub.cons (s := 0) rfl (Sub.cons (s := 1) rfl (Sub.cons (s := 2) rfl (Sub.cons (s := 5) rfl (Sub.cons (s := 7) rfl (Sub.cons (s := 9) rfl (Sub.cons (s := 10) rfl (Sub.cons (s := 11) rfl (Sub.cons (s := 16) rfl (Sub.cons (s := 17) rfl (Sub.cons (s := 18) rfl (Sub.cons (s := 19) rfl (Sub.cons (s := 20) rfl (Sub.cons (s := 21) rfl (Sub.cons (s := 23) rfl (Sub.cons (s := 24) rfl (Sub.cons (s := 25) rfl (Sub.cons (s := 26) rfl (Sub.cons (s := 27) rfl (Sub.cons (s := 28) rfl (Sub.cons (s := 29) rfl (Sub.cons (s := 30) rfl (Sub.cons (s := 31) rfl (Sub.cons (s := 32) rfl (Sub.cons (s := 33) rfl (Sub.cons (s := 34) rfl (Sub.cons (s := 35) rfl (Sub.cons (s := 36) rfl (Sub.cons (s := 37) rfl (Sub.cons (s := 38) rfl (Sub.cons (s := 75) rfl (Sub.cons (s := 76) rfl (Sub.cons (s := 77) rfl (Sub.cons (s := 78) rfl (Sub.cons (s := 79) rfl (Sub.cons (s := 80) rfl (Sub.cons (s := 81) rfl (Sub.cons (s := 82) rfl (Sub.cons (s := 83) rfl (Sub.cons (s := 84) rfl (Sub.cons (s := 85) rfl (Sub.cons (s := 86) rfl (Sub.cons (s := 87) rfl (Sub.cons (s := 88) rfl (Sub.cons (s := 89) rfl (Sub.cons (s := 90) rfl (Sub.cons (s := 91) rfl (Sub.cons (s := 92) rfl (Sub.cons (s := 93) rfl (Sub.cons (s := 94) rfl (Sub.cons (s := 95) rfl (Sub.cons (s := 96) rfl (Sub.cons (s := 97) rfl (Sub.cons (s := 98) rfl (Sub.cons (s := 99) rfl (Sub.cons (s := 100) rfl (Sub.cons (s := 101) rfl (Sub.cons (s := 103) rfl (Sub.cons (s := 105) rfl (Sub.cons (s := 106) rfl (Sub.cons (s := 107) rfl (Sub.cons (s := 108) rfl (Sub.cons (s := 109) rfl (Sub.cons (s := 110) rfl (Sub.cons (s := 111) rfl (Sub.cons (s := 112) rfl (Sub.cons (s := 113) rfl (Sub.cons (s := 114) rfl (Sub.cons (s := 115) rfl (Sub.cons (s := 116) rfl (Sub.cons (s := 117) rfl (Sub.cons (s := 118) rfl (Sub.cons (s := 119) rfl (Sub.cons (s := 120) rfl (Sub.cons (s := 121) rfl (Sub.cons (s := 122) rfl (Sub.cons (s := 125) rfl (Sub.cons (s := 126) rfl (Sub.cons (s := 127) rfl (Sub.cons (s := 128) rfl (Sub.cons (s := 129) rfl (Sub.cons (s := 130) rfl (Sub.nil _))))))))))))))))))))))))))))))))))))))))))))))))))))))))))))))))))))))))))))))))))) (fun ρ' B' H' => ρ' = [(167, .bool false)] ∧ B9 = B' ∧ row b20 74 (rcc ri) * (jnH kb w * (dkH db d5 * (J9 * (sbuf 9 1 (some ⟨bm, 0, none⟩) ms.length cm (ms.map str) * (row b5 25 (scs x) * R))))) = H') ?_ ?_
        · skip
          refine Cx.drawn (by kernel_rfl) ?_
          refine Dx.p (i := 0) rfl (by kernel_rfl) (mv rfl) rfl ?_
          refine Dx.p (i := 1) rfl (by kernel_rfl) (not' rfl) rfl ?_
          refine Dx.p (i := 2) rfl (by kernel_rfl) (mv rfl) rfl ?_
          refine Dx.pT (i := 3) rfl rfl rfl rfl (by kernel_rfl) (mv rfl) rfl ?_
          refine Dx.pT (i := 4) rfl rfl rfl rfl (by kernel_rfl) (mv rfl) rfl ?_
          refine Dx.pT (i := 5) rfl rfl rfl rfl (by kernel_rfl) (neI rfl rfl) rfl ?_
          refine Dx.pT (i := 6) rfl rfl rfl rfl (by kernel_rfl) (mv rfl) rfl ?_
          refine Xx.ifN (t := 137) rfl (fun h41 => ?_) (fun h41 => ?_)
          · skip
            have hik := h41
            have hik : i ≠ k := fun e => hik (by rw [e])
            obtain ⟨hq1, hq2⟩ := hw1 hik
            refine Dx.pT (i := 7) rfl rfl rfl rfl (by kernel_rfl) (fa' fo74_2 rfl) rfl ?_
            refine Dx.rT (i := 8) rfl rfl rfl rfl (by kernel_rfl) (ld Try.underlying9 rfl rfl rfl) rfl ?_
            refine Dx.pT (i := 9) rfl rfl rfl rfl (by kernel_rfl) (Yx.val (mv rfl) (show _ = Value.slice (some ⟨bm, 0, none⟩) ms.length cm from by rw [← hAm])) rfl ?_
            refine Dx.pT (i := 10) rfl rfl rfl rfl (by kernel_rfl) (mv rfl) rfl ?_
            refine Dx.pT (i := 11) rfl rfl rfl rfl (by kernel_rfl) (ia Try.underlying62 sz9 rfl rfl (Int.toNat_natCast _) (by omega) (by omega)) rfl ?_
            refine Dx.rT (i := 12) rfl rfl rfl rfl (by kernel_rfl) (ldC Try.underlying9 rfl rfl (Cells.buf (b := bm) (m := 1) (str_at hlt) (by rw [List.length_map]; omega))) rfl ?_
            refine Dx.pT (i := 13) rfl rfl rfl rfl (by kernel_rfl) (Yx.ff (neS rfl rfl) (by rw [hq1]; simp)) rfl ?_
            refine Dx.pT (i := 14) rfl rfl rfl rfl (by kernel_rfl) (mv rfl) rfl ?_
            refine Dx.pT (i := 15) rfl rfl rfl rfl (by kernel_rfl) (fa' fo74_3 rfl) rfl ?_
            refine Dx.rT (i := 16) rfl rfl rfl rfl (by kernel_rfl) (ld Try.underlying4 rfl rfl rfl) rfl ?_
            refine Dx.pT (i := 17) rfl rfl rfl rfl (by kernel_rfl) (Yx.ff (not' rfl) (by rw [hq2]; rfl)) rfl ?_
            refine Dx.pT (i := 18) rfl rfl rfl rfl (by kernel_rfl) (pickF rfl rfl) rfl ?_
            refine Dx.pT (i := 19) rfl rfl rfl rfl (by kernel_rfl) (pickT rfl rfl) rfl ?_
            refine Dx.p (i := 20) rfl (by kernel_rfl) (pickF rfl rfl) rfl ?_
            refine Dx.p (i := 21) rfl (by kernel_rfl) (mv rfl) rfl ?_
            refine Dx.pT (i := 22) rfl rfl rfl rfl (by kernel_rfl) (mv rfl) rfl ?_
            refine Dx.pT (i := 23) rfl rfl rfl rfl (by kernel_rfl) (mv rfl) rfl ?_
            refine Dx.pT (i := 24) rfl rfl rfl rfl (by kernel_rfl) (Yx.ff (eqI rfl rfl) (decide_eq_false (by omega))) rfl ?_
            refine Dx.pT (i := 25) rfl rfl rfl rfl (by kernel_rfl) (mv rfl) rfl ?_
            refine Dx.pF (i := 26) rfl (fun _ h => by cases h) rfl rfl rfl (by kernel_rfl) rfl ?_
            refine Dx.pF (i := 27) rfl (fun _ h => by cases h) rfl rfl rfl (by kernel_rfl) rfl ?_
            refine Dx.pF (i := 28) rfl (fun _ h => by cases h) rfl rfl rfl (by kernel_rfl) rfl ?_
            refine Dx.pF (i := 29) rfl (fun _ h => by cases h) rfl rfl rfl (by kernel_rfl) rfl ?_
            refine Dx.pF (i := 30) rfl (fun _ h => by cases h) rfl rfl rfl (by kernel_rfl) rfl ?_
            refine Dx.pF (i := 31) rfl (fun _ h => by cases h) rfl rfl rfl (by kernel_rfl) rfl ?_
            refine Dx.pF (i := 32) rfl (fun _ h => by cases h) rfl rfl rfl (by kernel_rfl) rfl ?_
            refine Dx.pF (i := 33) rfl (fun _ h => by cases h) rfl rfl rfl (by kernel_rfl) rfl ?_
            refine Dx.pF (i := 34) rfl (fun _ h => by cases h) rfl rfl rfl (by kernel_rfl) rfl ?_
            refine Dx.pT (i := 35) rfl rfl rfl rfl (by kernel_rfl) (pickF rfl rfl) rfl ?_
            refine Dx.p (i := 36) rfl (by kernel_rfl) (pickF rfl rfl) rfl ?_
            refine Dx.done (by kernel_rfl) ?_
            exact Xx.mkK (⟨rfl, rfl, rfl⟩) (Sub.cons (s := 167) rfl (Sub.cons (s := 0) rfl (Sub.cons (s := 1) rfl (Sub.cons (s := 2) rfl (Sub.cons (s := 5) rfl (Sub.cons (s := 7) rfl (Sub.cons (s := 9) rfl (Sub.cons (s := 10) rfl (Sub.cons (s := 11) rfl (Sub.cons (s := 16) rfl (Sub.cons (s := 17) rfl (Sub.cons (s := 18) rfl (Sub.cons (s := 19) rfl (Sub.cons (s := 20) rfl (Sub.cons (s := 21) rfl (Sub.cons (s := 23) rfl (Sub.cons (s := 24) rfl (Sub.cons (s := 25) rfl (Sub.cons (s := 26) rfl (Sub.cons (s := 27) rfl (Sub.cons (s := 28) rfl (Sub.cons (s := 29) rfl (Sub.cons (s := 30) rfl (Sub.cons (s := 31) rfl (Sub.cons (s := 32) rfl (Sub.cons (s := 33) rfl (Sub.cons (s := 34) rfl (Sub.cons (s := 35) rfl (Sub.cons (s := 36) rfl (Sub.cons (s := 37) rfl (Sub.cons (s := 38) rfl (Sub.cons (s := 75) rfl (Sub.cons (s := 76) rfl (Sub.cons (s := 77) rfl (Sub.cons (s := 78) rfl (Sub.cons (s := 79) rfl (Sub.cons (s := 80) rfl (Sub.cons (s := 81) rfl (Sub.cons (s := 82) rfl (Sub.cons (s := 83) rfl (Sub.cons (s := 84) rfl (Sub.cons (s := 85) rfl (Sub.cons (s := 86) rfl (Sub.cons (s := 87) rfl (Sub.cons (s := 88) rfl (Sub.cons (s := 89) rfl (Sub.cons (s := 90) rfl (Sub.cons (s := 91) rfl (Sub.cons (s := 92) rfl (Sub.cons (s := 93) rfl (Sub.cons (s := 94) rfl (Sub.cons (s := 95) rfl (Sub.cons (s := 96) rfl (Sub.cons (s := 97) rfl (Sub.cons (s := 98) rfl (Sub.cons (s := 99) rfl (Sub.cons (s := 100) rfl (Sub.cons (s := 101) rfl (Sub.cons (s := 103) rfl (Sub.cons (s := 105) rfl (Sub.cons (s := 106) rfl (Sub.cons (s := 107) rfl (Sub.cons (s := 108) rfl (Sub.cons (s := 109) rfl (Sub.cons (s := 110) rfl (Sub.cons (s := 111) rfl (Sub.cons (s := 112) rfl (Sub.cons (s := 113) rfl (Sub.cons (s := 114) rfl (Sub.cons (s := 115) rfl (Sub.cons (s := 116) rfl (Sub.cons (s := 117) rfl (Sub.cons (s := 118) rfl (Sub.cons (s := 119) rfl (Sub.cons (s := 120) rfl (Sub.cons (s := 121) rfl (Sub.cons (s := 122) rfl (Sub.cons (s := 125) rfl (Sub.cons (s := 126) rfl (Sub.cons (s := 127) rfl (Sub.cons (s := 128) rfl (Sub.cons (s := 129) rfl (Sub.cons (s := 130) rfl (Sub.nil _))))))))))))))))))))))))))))))))))))))))))))))))))))))))))))))))))))))))))))))))))))
          · skip
            have hik := h41
            have hik : i = k := by omega
            have hq3 := hw2 hik
            refine Dx.pF (i := 7) rfl (fun _ h => by cases h) rfl rfl rfl (by kernel_rfl) rfl ?_
            refine Dx.pF (i := 8) rfl (fun _ h => by cases h) rfl rfl rfl (by kernel_rfl) rfl ?_
            refine Dx.pF (i := 9) rfl (fun _ h => by cases h) rfl rfl rfl (by kernel_rfl) rfl ?_
            refine Dx.pF (i := 10) rfl (fun _ h => by cases h) rfl rfl rfl (by kernel_rfl) rfl ?_
            refine Dx.pF (i := 11) rfl (fun _ h => by cases h) rfl rfl rfl (by kernel_rfl) rfl ?_
            refine Dx.pF (i := 12) rfl (fun _ h => by cases h) rfl rfl rfl (by kernel_rfl) rfl ?_
            refine Dx.pF (i := 13) rfl (fun _ h => by cases h) rfl rfl rfl (by kernel_rfl) rfl ?_
            refine Dx.pF (i := 14) rfl (fun _ h => by cases h) rfl rfl rfl (by kernel_rfl) rfl ?_
            refine Dx.pU (i := 15) rfl (fun _ h => by cases h) rfl rfl rfl (by kernel_rfl) rfl ?_
            refine Dx.pU (i := 16) rfl (fun _ h => by cases h) rfl rfl rfl (by kernel_rfl) rfl ?_
            refine Dx.pU (i := 17) rfl (fun _ h => by cases h) rfl rfl rfl (by kernel_rfl) rfl ?_
            refine Dx.pF (i := 18) rfl (fun _ h => by cases h) rfl rfl rfl (by kernel_rfl) rfl ?_
            refine Dx.pT (i := 19) rfl rfl rfl rfl (by kernel_rfl) (pickF rfl rfl) rfl ?_
            refine Dx.p (i := 20) rfl (by kernel_rfl) (pickF rfl rfl) rfl ?_
            refine Dx.p (i := 21) rfl (by kernel_rfl) (mv rfl) rfl ?_
            refine Dx.pT (i := 22) rfl rfl rfl rfl (by kernel_rfl) (mv rfl) rfl ?_
            refine Dx.pT (i := 23) rfl rfl rfl rfl (by kernel_rfl) (mv rfl) rfl ?_
            refine Dx.pT (i := 24) rfl rfl rfl rfl (by kernel_rfl) (Yx.tt (eqI rfl rfl) (decide_eq_true (by omega))) rfl ?_
            refine Dx.pT (i := 25) rfl rfl rfl rfl (by kernel_rfl) (mv rfl) rfl ?_
            refine Dx.pT (i := 26) rfl rfl rfl rfl (by kernel_rfl) (fa' fo74_2 rfl) rfl ?_
            refine Dx.rT (i := 27) rfl rfl rfl rfl (by kernel_rfl) (ld Try.underlying9 rfl rfl rfl) rfl ?_
            refine Dx.pT (i := 28) rfl rfl rfl rfl (by kernel_rfl) (lenS Try.underlying9 rfl) rfl ?_
            refine Dx.pT (i := 29) rfl rfl rfl rfl (by kernel_rfl) (Yx.val (mv rfl) (show _ = Value.slice (some ⟨bm, 0, none⟩) ms.length cm from by rw [← hAm])) rfl ?_
            refine Dx.pT (i := 30) rfl rfl rfl rfl (by kernel_rfl) (mv rfl) rfl ?_
            refine Dx.pT (i := 31) rfl rfl rfl rfl (by kernel_rfl) (ia Try.underlying62 sz9 rfl rfl (Int.toNat_natCast _) (by omega) (by omega)) rfl ?_
            refine Dx.rT (i := 32) rfl rfl rfl rfl (by kernel_rfl) (ldC Try.underlying9 rfl rfl (Cells.buf (b := bm) (m := 1) (str_at hkn) (by rw [List.length_map]; omega))) rfl ?_
            refine Dx.pT (i := 33) rfl rfl rfl rfl (by kernel_rfl) (lenS Try.underlying9 rfl) rfl ?_
            refine Dx.pT (i := 34) rfl rfl rfl rfl (by kernel_rfl) (Yx.ff (neI rfl rfl) (by rw [hq3, List.length_replicate]; simp)) rfl ?_
            refine Dx.pT (i := 35) rfl rfl rfl rfl (by kernel_rfl) (pickT rfl rfl) rfl ?_
            refine Dx.p (i := 36) rfl (by kernel_rfl) (pickF rfl rfl) rfl ?_
            refine Dx.done (by kernel_rfl) ?_
            exact Xx.mkK (⟨rfl, rfl, rfl⟩) (Sub.cons (s := 167) rfl (Sub.cons (s := 0) rfl (Sub.cons (s := 1) rfl (Sub.cons (s := 2) rfl (Sub.cons (s := 5) rfl (Sub.cons (s := 7) rfl (Sub.cons (s := 9) rfl (Sub.cons (s := 10) rfl (Sub.cons (s := 11) rfl (Sub.cons (s := 16) rfl (Sub.cons (s := 17) rfl (Sub.cons (s := 18) rfl (Sub.cons (s := 19) rfl (Sub.cons (s := 20) rfl (Sub.cons (s := 21) rfl (Sub.cons (s := 23) rfl (Sub.cons (s := 24) rfl (Sub.cons (s := 25) rfl (Sub.cons (s := 26) rfl (Sub.cons (s := 27) rfl (Sub.cons (s := 28) rfl (Sub.cons (s := 29) rfl (Sub.cons (s := 30) rfl (Sub.cons (s := 31) rfl (Sub.cons (s := 32) rfl (Sub.cons (s := 33) rfl (Sub.cons (s := 34) rfl (Sub.cons (s := 35) rfl (Sub.cons (s := 36) rfl (Sub.cons (s := 37) rfl (Sub.cons (s := 38) rfl (Sub.cons (s := 75) rfl (Sub.cons (s := 76) rfl (Sub.cons (s := 77) rfl (Sub.cons (s := 78) rfl (Sub.cons (s := 79) rfl (Sub.cons (s := 80) rfl (Sub.cons (s := 81) rfl (Sub.cons (s := 82) rfl (Sub.cons (s := 83) rfl (Sub.cons (s := 84) rfl (Sub.cons (s := 85) rfl (Sub.cons (s := 86) rfl (Sub.cons (s := 87) rfl (Sub.cons (s := 88) rfl (Sub.cons (s := 89) rfl (Sub.cons (s := 90) rfl (Sub.cons (s := 91) rfl (Sub.cons (s := 92) rfl (Sub.cons (s := 93) rfl (Sub.cons (s := 94) rfl (Sub.cons (s := 95) rfl (Sub.cons (s := 96) rfl (Sub.cons (s := 97) rfl (Sub.cons (s := 98) rfl (Sub.cons (s := 99) rfl (Sub.cons (s := 100) rfl (Sub.cons (s := 101) rfl (Sub.cons (s := 103) rfl (Sub.cons (s := 105) rfl (Sub.cons (s := 106) rfl (Sub.cons (s := 107) rfl (Sub.cons (s := 108) rfl (Sub.cons (s := 109) rfl (Sub.cons (s := 110) rfl (Sub.cons (s := 111) rfl (Sub.cons (s := 112) rfl (Sub.cons (s := 113) rfl (Sub.cons (s := 114) rfl (Sub.cons (s := 115) rfl (Sub.cons (s := 116) rfl (Sub.cons (s := 117) rfl (Sub.cons (s := 118) rfl (Sub.cons (s := 119) rfl (Sub.cons (s := 120) rfl (Sub.cons (s := 121) rfl (Sub.cons (s := 122) rfl (Sub.cons (s := 125) rfl (Sub.cons (s := 126) rfl (Sub.cons (s := 127) rfl (Sub.cons (s := 128) rfl (Sub.cons (s := 129) rfl (Sub.cons (s := 130) rfl (Sub.nil _))))))))))))))))))))))))))))))))))))))))))))))))))))))))))))))))))))))))))))))))))))
        · rintro ρ' B' H' ⟨rfl, rfl, rfl⟩
          refine Cx.condF rfl ?_
          refine Cx.skip ?_
          refine Xx.tn (k40 _ _ _ _ ?_)
          refine Cx.seq (fun K42 k42 => ?_)
          refine Cx.region ?_
          refine Lx.y (asg rfl) rfl ?_
          refine Lx.nil ?_
          refine Xx.tn (k42 _ _ _ _ ?_)
          refine Cx.block ?_
          refine Cx.loopK (Sub.cons (s := 0) rfl (Sub.cons (s := 1) rfl (Sub.cons (s := 2) rfl (Sub.cons (s := 5) rfl (Sub.cons (s := 7) rfl (Sub.cons (s := 9) rfl (Sub.cons (s := 10) rfl (Sub.cons (s := 11) rfl (Sub.cons (s := 16) rfl (Sub.cons (s := 17) rfl (Sub.cons (s := 18) rfl (Sub.cons (s := 19) rfl (Sub.cons (s := 20) rfl (Sub.cons (s := 21) rfl (Sub.cons (s := 23) rfl (Sub.cons (s := 24) rfl (Sub.cons (s := 25) rfl (Sub.cons (s := 26) rfl (Sub.cons (s := 27) rfl (Sub.cons (s := 28) rfl (Sub.cons (s := 29) rfl (Sub.cons (s := 30) rfl (Sub.cons (s := 31) rfl (Sub.cons (s := 32) rfl (Sub.cons (s := 33) rfl (Sub.cons (s := 34) rfl (Sub.cons (s := 35) rfl (Sub.cons (s := 36) rfl (Sub.cons (s := 37) rfl (Sub.cons (s := 38) rfl (Sub.cons (s := 75) rfl (Sub.cons (s := 76) rfl (Sub.cons (s := 77) rfl (Sub.cons (s := 78) rfl (Sub.cons (s := 79) rfl (Sub.cons (s := 80) rfl (Sub.cons (s := 81) rfl (Sub.cons (s := 82) rfl (Sub.cons (s := 83) rfl (Sub.cons (s := 84) rfl (Sub.cons (s := 85) rfl (Sub.cons (s := 86) rfl (Sub.cons (s := 87) rfl (Sub.cons (s := 88) rfl (Sub.cons (s := 89) rfl (Sub.cons (s := 90) rfl (Sub.cons (s := 91) rfl (Sub.cons (s := 92) rfl (Sub.cons (s := 93) rfl (Sub.cons (s := 94) rfl (Sub.cons (s := 95) rfl (Sub.cons (s := 96) rfl (Sub.cons (s := 97) rfl (Sub.cons (s := 98) rfl (Sub.cons (s := 99) rfl (Sub.cons (s := 100) rfl (Sub.cons (s := 101) rfl (Sub.cons (s := 103) rfl (Sub.cons (s := 105) rfl (Sub.cons (s := 106) rfl (Sub.cons (s := 107) rfl (Sub.cons (s := 108) rfl (Sub.cons (s := 109) rfl (Sub.cons (s := 110) rfl (Sub.cons (s := 111) rfl (Sub.cons (s := 112) rfl (Sub.cons (s := 113) rfl (Sub.cons (s := 114) rfl (Sub.cons (s := 115) rfl (Sub.cons (s := 116) rfl (Sub.cons (s := 117) rfl (Sub.cons (s := 118) rfl (Sub.cons (s := 119) rfl (Sub.cons (s := 120) rfl (Sub.cons (s := 121) rfl (Sub.cons (s := 122) rfl (Sub.cons (s := 125) rfl (Sub.cons (s := 126) rfl (Sub.cons (s := 127) rfl (Sub.cons (s := 128) rfl (Sub.cons (s := 129) rfl (Sub.cons (s := 130) rfl (Sub.cons (s := 167) rfl (Sub.nil _)))))))))))))))))))))))))))))))))))))))))))))))))))))))))))))))))))))))))))))))))))) (fun m ρ' B' H' => ∃ (q : Nat), (q ≤ ri.body.length) ∧ m = ri.body.length - q ∧ ρ' = [(22, i64 (q : Int))] ∧ B9 = B' ∧ row b20 74 (rcc ri) * (jnH kb w * (dkH db d5 * (J9 * (sbuf 9 1 (some ⟨bm, 0, none⟩) ms.length cm (ms.map str) * (row b5 25 (scs x) * R))))) = H') ⟨0, Nat.zero_le _, rfl, rfl, rfl, rfl⟩ (Sub.cons (s := 22) rfl (Sub.cons (s := 0) rfl (Sub.cons (s := 1) rfl (Sub.cons (s := 2) rfl (Sub.cons (s := 5) rfl (Sub.cons (s := 7) rfl (Sub.cons (s := 9) rfl (Sub.cons (s := 10) rfl (Sub.cons (s := 11) rfl (Sub.cons (s := 16) rfl (Sub.cons (s := 17) rfl (Sub.cons (s := 18) rfl (Sub.cons (s := 19) rfl (Sub.cons (s := 20) rfl (Sub.cons (s := 21) rfl (Sub.cons (s := 23) rfl (Sub.cons (s := 24) rfl (Sub.cons (s := 25) rfl (Sub.cons (s := 26) rfl (Sub.cons (s := 27) rfl (Sub.cons (s := 28) rfl (Sub.cons (s := 29) rfl (Sub.cons (s := 30) rfl (Sub.cons (s := 31) rfl (Sub.cons (s := 32) rfl (Sub.cons (s := 33) rfl (Sub.cons (s := 34) rfl (Sub.cons (s := 35) rfl (Sub.cons (s := 36) rfl (Sub.cons (s := 37) rfl (Sub.cons (s := 38) rfl (Sub.cons (s := 75) rfl (Sub.cons (s := 76) rfl (Sub.cons (s := 77) rfl (Sub.cons (s := 78) rfl (Sub.cons (s := 79) rfl (Sub.cons (s := 80) rfl (Sub.cons (s := 81) rfl (Sub.cons (s := 82) rfl (Sub.cons (s := 83) rfl (Sub.cons (s := 84) rfl (Sub.cons (s := 85) rfl (Sub.cons (s := 86) rfl (Sub.cons (s := 87) rfl (Sub.cons (s := 88) rfl (Sub.cons (s := 89) rfl (Sub.cons (s := 90) rfl (Sub.cons (s := 91) rfl (Sub.cons (s := 92) rfl (Sub.cons (s := 93) rfl (Sub.cons (s := 94) rfl (Sub.cons (s := 95) rfl (Sub.cons (s := 96) rfl (Sub.cons (s := 97) rfl (Sub.cons (s := 98) rfl (Sub.cons (s := 99) rfl (Sub.cons (s := 100) rfl (Sub.cons (s := 101) rfl (Sub.cons (s := 103) rfl (Sub.cons (s := 105) rfl (Sub.cons (s := 106) rfl (Sub.cons (s := 107) rfl (Sub.cons (s := 108) rfl (Sub.cons (s := 109) rfl (Sub.cons (s := 110) rfl (Sub.cons (s := 111) rfl (Sub.cons (s := 112) rfl (Sub.cons (s := 113) rfl (Sub.cons (s := 114) rfl (Sub.cons (s := 115) rfl (Sub.cons (s := 116) rfl (Sub.cons (s := 117) rfl (Sub.cons (s := 118) rfl (Sub.cons (s := 119) rfl (Sub.cons (s := 120) rfl (Sub.cons (s := 121) rfl (Sub.cons (s := 122) rfl (Sub.cons (s := 125) rfl (Sub.cons (s := 126) rfl (Sub.cons (s := 127) rfl (Sub.cons (s := 128) rfl (Sub.cons (s := 129) rfl (Sub.cons (s := 130) rfl (Sub.cons (s := 167) rfl (Sub.nil _))))))))))))))))))))))))))))))))))))))))))))))))))))))))))))))))))))))))))))))))))))) ?_
          rintro m ρ' B' H' ⟨q, hq, rfl, rfl, rfl, rfl⟩
          refine Cx.seq (fun K43 k43 => ?_)
          refine Cx.seq (fun K44 k44 => ?_)
          refine Cx.region ?_
          refine Lx.y (mv rfl) rfl ?_
          refine Lx.y (fa' fo74_2 rfl) rfl ?_
          refine Lx.y (ld Try.underlying9 rfl rfl rfl) rfl ?_
          refine Lx.y (lenS Try.underlying9 rfl) rfl ?_
          refine Lx.y (lss rfl rfl) rfl ?_
          refine Lx.y (mv rfl) rfl ?_
          refine Xx.ifD (t := 173) rfl (fun h45 => ?_) (fun h45 => ?_)
          · skip
            have hqt := h45
            have hqt : q < ri.body.length := by omega
            refine Lx.gT rfl rfl rfl ?_
            refine Lx.y (mv rfl) rfl ?_
            refine Lx.gT rfl rfl rfl ?_
            refine Lx.y (mv rfl) rfl ?_
            refine Lx.gT rfl rfl rfl ?_
            refine Lx.y (eqI rfl rfl) rfl ?_
            refine Lx.y (pickT rfl rfl) rfl ?_
            refine Lx.nil ?_
            refine Xx.tn (k44 _ _ _ _ ?_)
            refine Cx.condD rfl (fun h46 => ?_) (fun h46 => ?_)
            · skip
              have hik := h46
              have hik : i = k := by omega
              have hq3 := hw2 hik
              refine Cx.skip ?_
              refine Xx.tn (k43 _ _ _ _ ?_)
              refine Cx.seq (fun K47 k47 => ?_)
              refine Cx.block ?_
              refine Cx.seq (fun K48 k48 => ?_)
              refine Cx.region ?_
              refine Lx.y (fa' fo74_2 rfl) rfl ?_
              refine Lx.y (ld Try.underlying9 rfl rfl rfl) rfl ?_
              refine Lx.y (mv rfl) rfl ?_
              refine Lx.y (ixS (j := q) Try.underlying9 rfl rfl (Int.toNat_natCast _) (by omega) (by omega)) rfl ?_
              refine Lx.y (Yx.ff (neI rfl rfl) (by rw [hq3, List.getD_eq_getElem?_getD, List.getElem?_replicate]; rw [hq3, List.length_replicate] at hqt; rw [if_pos hqt]; rfl)) rfl ?_
              refine Lx.nil ?_
              refine Xx.tn (k48 _ _ _ _ ?_)
              refine Cx.condF rfl ?_
              refine Cx.skip ?_
              refine Xx.bn ?_
              refine Xx.tn (k47 _ _ _ _ ?_)
              refine Cx.region ?_
              refine Lx.y (mv rfl) rfl ?_
              refine Lx.y (Yx.val (add rfl rfl (by first | exact wrap64 (by omega) (by omega) | rfl)) (show _ = i64 ((q + 1 : Nat) : Int) from rfl)) rfl ?_
              refine Lx.y (asg rfl) rfl ?_
              refine Lx.nil ?_
              exact Xx.againK ⟨q + 1, hqt, rfl, rfl, rfl, rfl⟩ (by omega) (Sub.cons (s := 22) rfl (Sub.cons (s := 0) rfl (Sub.cons (s := 1) rfl (Sub.cons (s := 2) rfl (Sub.cons (s := 5) rfl (Sub.cons (s := 7) rfl (Sub.cons (s := 9) rfl (Sub.cons (s := 10) rfl (Sub.cons (s := 11) rfl (Sub.cons (s := 16) rfl (Sub.cons (s := 17) rfl (Sub.cons (s := 18) rfl (Sub.cons (s := 19) rfl (Sub.cons (s := 20) rfl (Sub.cons (s := 21) rfl (Sub.cons (s := 23) rfl (Sub.cons (s := 24) rfl (Sub.cons (s := 25) rfl (Sub.cons (s := 26) rfl (Sub.cons (s := 27) rfl (Sub.cons (s := 28) rfl (Sub.cons (s := 29) rfl (Sub.cons (s := 30) rfl (Sub.cons (s := 31) rfl (Sub.cons (s := 32) rfl (Sub.cons (s := 33) rfl (Sub.cons (s := 34) rfl (Sub.cons (s := 35) rfl (Sub.cons (s := 36) rfl (Sub.cons (s := 37) rfl (Sub.cons (s := 38) rfl (Sub.cons (s := 75) rfl (Sub.cons (s := 76) rfl (Sub.cons (s := 77) rfl (Sub.cons (s := 78) rfl (Sub.cons (s := 79) rfl (Sub.cons (s := 80) rfl (Sub.cons (s := 81) rfl (Sub.cons (s := 82) rfl (Sub.cons (s := 83) rfl (Sub.cons (s := 84) rfl (Sub.cons (s := 85) rfl (Sub.cons (s := 86) rfl (Sub.cons (s := 87) rfl (Sub.cons (s := 88) rfl (Sub.cons (s := 89) rfl (Sub.cons (s := 90) rfl (Sub.cons (s := 91) rfl (Sub.cons (s := 92) rfl (Sub.cons (s := 93) rfl (Sub.cons (s := 94) rfl (Sub.cons (s := 95) rfl (Sub.cons (s := 96) rfl (Sub.cons (s := 97) rfl (Sub.cons (s := 98) rfl (Sub.cons (s := 99) rfl (Sub.cons (s := 100) rfl (Sub.cons (s := 101) rfl (Sub.cons (s := 103) rfl (Sub.cons (s := 105) rfl (Sub.cons (s := 106) rfl (Sub.cons (s := 107) rfl (Sub.cons (s := 108) rfl (Sub.cons (s := 109) rfl (Sub.cons (s := 110) rfl (Sub.cons (s := 111) rfl (Sub.cons (s := 112) rfl (Sub.cons (s := 113) rfl (Sub.cons (s := 114) rfl (Sub.cons (s := 115) rfl (Sub.cons (s := 116) rfl (Sub.cons (s := 117) rfl (Sub.cons (s := 118) rfl (Sub.cons (s := 119) rfl (Sub.cons (s := 120) rfl (Sub.cons (s := 121) rfl (Sub.cons (s := 122) rfl (Sub.cons (s := 125) rfl (Sub.cons (s := 126) rfl (Sub.cons (s := 127) rfl (Sub.cons (s := 128) rfl (Sub.cons (s := 129) rfl (Sub.cons (s := 130) rfl (Sub.cons (s := 167) rfl (Sub.nil _)))))))))))))))))))))))))))))))))))))))))))))))))))))))))))))))))))))))))))))))))))))
            · skip
              refine Cx.exit ?_
              refine Xx.te ?_
              refine Xx.te ?_
              refine Xx.bh ?_
              refine Xx.bn ?_
              refine Xx.tn (k38 _ _ _ _ ?_)
              refine Xx.dropB b20 ?_
              refine Cx.region ?_
              refine Lx.y (mv rfl) rfl ?_
              refine Lx.y (Yx.val (add rfl rfl (by first | exact wrap64 (by omega) (by omega) | rfl)) (show _ = i64 ((i + 1 : Nat) : Int) from rfl)) rfl ?_
              refine Lx.y (asg rfl) rfl ?_
              refine Lx.nil ?_
              exact Xx.againK ⟨i + 1, hlt, rfl, rfl, rfl, (by rw [hAm])⟩ (by omega) (Sub.cons (s := 19) rfl (Sub.cons (s := 0) rfl (Sub.cons (s := 1) rfl (Sub.cons (s := 2) rfl (Sub.cons (s := 5) rfl (Sub.cons (s := 7) rfl (Sub.cons (s := 9) rfl (Sub.cons (s := 10) rfl (Sub.cons (s := 11) rfl (Sub.cons (s := 16) rfl (Sub.cons (s := 17) rfl (Sub.cons (s := 18) rfl (Sub.cons (s := 23) rfl (Sub.cons (s := 24) rfl (Sub.cons (s := 25) rfl (Sub.cons (s := 26) rfl (Sub.cons (s := 27) rfl (Sub.cons (s := 28) rfl (Sub.cons (s := 29) rfl (Sub.cons (s := 30) rfl (Sub.cons (s := 31) rfl (Sub.cons (s := 32) rfl (Sub.cons (s := 33) rfl (Sub.cons (s := 34) rfl (Sub.cons (s := 35) rfl (Sub.cons (s := 36) rfl (Sub.cons (s := 37) rfl (Sub.cons (s := 38) rfl (Sub.cons (s := 75) rfl (Sub.cons (s := 76) rfl (Sub.cons (s := 77) rfl (Sub.cons (s := 78) rfl (Sub.cons (s := 79) rfl (Sub.cons (s := 80) rfl (Sub.cons (s := 81) rfl (Sub.cons (s := 82) rfl (Sub.cons (s := 83) rfl (Sub.cons (s := 84) rfl (Sub.cons (s := 85) rfl (Sub.cons (s := 86) rfl (Sub.cons (s := 87) rfl (Sub.cons (s := 88) rfl (Sub.cons (s := 89) rfl (Sub.cons (s := 90) rfl (Sub.cons (s := 91) rfl (Sub.cons (s := 92) rfl (Sub.cons (s := 93) rfl (Sub.cons (s := 94) rfl (Sub.cons (s := 95) rfl (Sub.cons (s := 96) rfl (Sub.cons (s := 97) rfl (Sub.cons (s := 98) rfl (Sub.cons (s := 99) rfl (Sub.cons (s := 100) rfl (Sub.cons (s := 101) rfl (Sub.cons (s := 103) rfl (Sub.cons (s := 105) rfl (Sub.cons (s := 106) rfl (Sub.cons (s := 107) rfl (Sub.cons (s := 108) rfl (Sub.cons (s := 109) rfl (Sub.cons (s := 110) rfl (Sub.cons (s := 111) rfl (Sub.cons (s := 112) rfl (Sub.cons (s := 113) rfl (Sub.cons (s := 114) rfl (Sub.cons (s := 115) rfl (Sub.cons (s := 116) rfl (Sub.cons (s := 117) rfl (Sub.cons (s := 118) rfl (Sub.nil _)))))))))))))))))))))))))))))))))))))))))))))))))))))))))))))))))))))))
          · skip
            refine Lx.gF rfl rfl rfl rfl ?_
            refine Lx.gF rfl rfl rfl rfl ?_
            refine Lx.gF rfl rfl rfl rfl ?_
            refine Lx.y (pickF rfl rfl) rfl ?_
            refine Lx.nil ?_
            refine Xx.tn (k44 _ _ _ _ ?_)
            refine Cx.condF rfl ?_
            refine Cx.exit ?_
            refine Xx.te ?_
            refine Xx.te ?_
            refine Xx.bh ?_
            refine Xx.bn ?_
            refine Xx.tn (k38 _ _ _ _ ?_)
            refine Xx.dropB b20 ?_
            refine Cx.region ?_
            refine Lx.y (mv rfl) rfl ?_
            refine Lx.y (Yx.val (add rfl rfl (by first | exact wrap64 (by omega) (by omega) | rfl)) (show _ = i64 ((i + 1 : Nat) : Int) from rfl)) rfl ?_
            refine Lx.y (asg rfl) rfl ?_
            refine Lx.nil ?_
            exact Xx.againK ⟨i + 1, hlt, rfl, rfl, rfl, (by rw [hAm])⟩ (by omega) (Sub.cons (s := 19) rfl (Sub.cons (s := 0) rfl (Sub.cons (s := 1) rfl (Sub.cons (s := 2) rfl (Sub.cons (s := 5) rfl (Sub.cons (s := 7) rfl (Sub.cons (s := 9) rfl (Sub.cons (s := 10) rfl (Sub.cons (s := 11) rfl (Sub.cons (s := 16) rfl (Sub.cons (s := 17) rfl (Sub.cons (s := 18) rfl (Sub.cons (s := 23) rfl (Sub.cons (s := 24) rfl (Sub.cons (s := 25) rfl (Sub.cons (s := 26) rfl (Sub.cons (s := 27) rfl (Sub.cons (s := 28) rfl (Sub.cons (s := 29) rfl (Sub.cons (s := 30) rfl (Sub.cons (s := 31) rfl (Sub.cons (s := 32) rfl (Sub.cons (s := 33) rfl (Sub.cons (s := 34) rfl (Sub.cons (s := 35) rfl (Sub.cons (s := 36) rfl (Sub.cons (s := 37) rfl (Sub.cons (s := 38) rfl (Sub.cons (s := 75) rfl (Sub.cons (s := 76) rfl (Sub.cons (s := 77) rfl (Sub.cons (s := 78) rfl (Sub.cons (s := 79) rfl (Sub.cons (s := 80) rfl (Sub.cons (s := 81) rfl (Sub.cons (s := 82) rfl (Sub.cons (s := 83) rfl (Sub.cons (s := 84) rfl (Sub.cons (s := 85) rfl (Sub.cons (s := 86) rfl (Sub.cons (s := 87) rfl (Sub.cons (s := 88) rfl (Sub.cons (s := 89) rfl (Sub.cons (s := 90) rfl (Sub.cons (s := 91) rfl (Sub.cons (s := 92) rfl (Sub.cons (s := 93) rfl (Sub.cons (s := 94) rfl (Sub.cons (s := 95) rfl (Sub.cons (s := 96) rfl (Sub.cons (s := 97) rfl (Sub.cons (s := 98) rfl (Sub.cons (s := 99) rfl (Sub.cons (s := 100) rfl (Sub.cons (s := 101) rfl (Sub.cons (s := 103) rfl (Sub.cons (s := 105) rfl (Sub.cons (s := 106) rfl (Sub.cons (s := 107) rfl (Sub.cons (s := 108) rfl (Sub.cons (s := 109) rfl (Sub.cons (s := 110) rfl (Sub.cons (s := 111) rfl (Sub.cons (s := 112) rfl (Sub.cons (s := 113) rfl (Sub.cons (s := 114) rfl (Sub.cons (s := 115) rfl (Sub.cons (s := 116) rfl (Sub.cons (s := 117) rfl (Sub.cons (s := 118) rfl (Sub.nil _)))))))))))))))))))))))))))))))))))))))))))))))))))))))))))))))))))))))
      · skip
        refine Cx.exit ?_
        refine Xx.te ?_
        refine Xx.te ?_
        refine Xx.bh ?_
        refine Xx.tn (k33 _ _ _ _ ?_)
        refine Cx.seq (fun K49 k49 => ?_)
        refine Cx.region ?_
        refine Lx.y (asg rfl) rfl ?_
        refine Lx.nil ?_
        refine Xx.tn (k49 _ _ _ _ ?_)
        refine Cx.ret ?_
        repeat refine Xx.drop ?_
        exact Xx.rB1 rfl rfl rfl (Frag.le_trans hBle (Frag.le_trans hB7 (Frag.le_trans hB8 hB9))) rfl
end Jn13
end Go.Proofs.Ytgcebieihmlaoaa

/-
  What comes in: lists of things that are told apart cell by cell; numbers.
-/
namespace Go.SL
open Go.RowKit Go.ChangeShapes Go.WideShapes Go.ChangeAt
set_option linter.unusedVariables false
set_option linter.unusedSimpArgs false
theorem flatG_len {α : Type} {enc : α → List Value} {size : Nat} (he : ∀ x, (enc x).length = size) (l : List α) : (l.flatMap enc).length = l.length * size := by
  induction l with
  | nil => simp
  | cons x l ih => rw [List.flatMap_cons, List.length_append, ih, he, List.length_cons, Nat.succ_mul]; omega
theorem flatG_at {α : Type} {enc : α → List Value} {size : Nat} (he : ∀ x, (enc x).length = size) : ∀ (k : Nat) (l : List α) (h : k < l.length), ((l.flatMap enc).drop (k * size)).take size = enc l[k] := by
  intro k
  induction k with
  | zero =>
    intro l h
    cases l with
    | nil => simp at h
    | cons x l =>
      rw [Nat.zero_mul, List.drop_zero, List.flatMap_cons, List.take_append_of_le_length (by rw [he]; exact Nat.le_refl _), List.take_of_length_le (by rw [he]; exact Nat.le_refl _)]; rfl
  | succ k ih =>
    intro l h
    cases l with
    | nil => simp at h
    | cons x l =>
      have h' : k < l.length := by simpa using h
      rw [List.flatMap_cons, List.drop_append, he, List.drop_of_length_le (by rw [he, Nat.succ_mul]; omega), List.nil_append, show (k + 1) * size - size = k * size by rw [Nat.succ_mul]; omega]
      exact ih l h'
theorem flat_at {α : Type} {enc : α → List Value} {size : Nat} {B : Frag} {A : Option Addr} {l : List α} {k : Nat} (he : ∀ x, (enc x).length = size) (h : RoS B size A l.length (l.flatMap enc)) (hk : k < l.length) :
    ∃ b o cs et fz, A = some ⟨b, o, none⟩ ∧ B b = some (.cells (List.toArray cs) et fz) ∧ (cs.drop (o + k * size)).take size = enc l[k] := by
  obtain ⟨b, o, cs, et, fz, h1, h2, h3⟩ := h.at (k := k) hk
  exact ⟨b, o, cs, et, fz, h1, h2, by rw [h3, flatG_at he]⟩
/-- the first place where p holds; -1: there is none -/
def ixF {α : Type} (p : α → Bool) (l : List α) : Int := if l.any p = true then ((l.findIdx p : Nat) : Int) else -1
section
variable {H : Type} {enc : TypeId × Value → H}
theorem weightsAll_mem {P : Program} {e : TypeId} : ∀ {l : List (DataW H)} {d : DataW H} {n : Nat}, d ∈ l → n ∈ d.weights P e → n ∈ DataW.weightsAll P e l := by
  intro l
  induction l with
  | nil => intro d n h; cases h
  | cons x l ih =>
    intro d n h hn
    simp only [DataW.weightsAll, List.mem_append]
    rcases List.mem_cons.1 h with rfl | h
    · exact .inl hn
    · exact .inr (ih h hn)
theorem add_block (a : Addr) (k : Nat) : (a.add k).block = a.block := by unfold Addr.add; split <;> rfl
theorem add_off (a : Addr) (k : Nat) : (a.add k).off = a.off + k := by unfold Addr.add; split <;> simp_all
theorem cells_row {W : World} {b0 : Nat} {a : Addr} {n : Nat} {cs : List Value} (h : W.cells? b0 a n = some cs) (hn : 0 < n) : a.spot = none ∧ ∃ l et fz, W.heap[a.block]? = some (.cells (List.toArray l) et fz) ∧ (l.drop a.off).take n = cs := by
  obtain ⟨_, hl, hc⟩ := World.cells?_some h
  have hb : ∀ k, (a.add k).block = a.block := fun k => by unfold Addr.add; split <;> rfl
  have h0 := cell_obj ((hc 0 hn).trans (List.getElem?_eq_getElem (by omega)))
  have hs : a.spot = none := by have := h0.1; simpa [Addr.add] using this
  obtain ⟨l, et, fz, hh, _⟩ := h0.2
  rw [hb] at hh
  have ho : ∀ k, (a.add k).off = a.off + k := fun k => by unfold Addr.add; split <;> simp_all
  refine ⟨hs, l, et, fz, hh, ?_⟩
  apply List.ext_getElem?
  intro k
  by_cases hk : k < n
  · rw [List.getElem?_take, if_pos hk, List.getElem?_drop]
    obtain ⟨l2, et2, fz2, hh2, hv2⟩ := (cell_obj ((hc k hk).trans (List.getElem?_eq_getElem (by omega)))).2
    rw [hb, hh] at hh2
    rw [ho] at hv2
    injection hh2 with hh2
    injection hh2 with e1
    have e2 : l = l2 := by simpa using congrArg Array.toList e1
    subst e2
    rw [hv2, List.getElem?_eq_getElem]
  · rw [List.getElem?_take, if_neg hk, List.getElem?_eq_none (by omega)]
theorem wf_i64 {n : Int} (h : (Lit.int .i64 n).wf = true) : -9223372036854775808 ≤ n ∧ n ≤ 9223372036854775807 := by
  unfold Lit.wf at h
  rw [Bool.and_eq_true] at h
  exact ⟨of_decide_eq_true h.1, of_decide_eq_true h.2⟩
theorem wf_u64 {n : Int} (h : (Lit.int .u64 n).wf = true) : 0 ≤ n ∧ n ≤ 18446744073709551615 := by
  unfold Lit.wf at h
  rw [Bool.and_eq_true] at h
  exact ⟨of_decide_eq_true h.1, of_decide_eq_true h.2⟩
theorem u64_of {n : Int} (h : (Lit.int .u64 n).wf = true) : ∃ b : BitVec 64, Value.int .u64 n = u64 b := by
  obtain ⟨h1, h2⟩ := wf_u64 h
  refine ⟨BitVec.ofNat 64 n.toNat, ?_⟩
  show _ = Value.int .u64 _
  congr 1
  rw [BitVec.toNat_ofNat]
  omega
theorem flat_of {α : Type} {en : α → List Value} {size : Nat} : ∀ (l : List α) (o : Nat) (cs : List Value), (∀ i (h : i < l.length), (cs.drop (o + i * size)).take size = en l[i]) → (cs.drop o).take (l.length * size) = l.flatMap en := by
  intro l
  induction l with
  | nil => intro o cs _; simp
  | cons x l ih =>
    intro o cs h
    have h0 := h 0 (by simp)
    rw [Nat.zero_mul, Nat.add_zero] at h0
    have h1 := ih (o + size) cs (fun i hi => by
      have := h (i + 1) (by simpa using hi)
      rw [Nat.succ_mul, Nat.add_comm (i * size), ← Nat.add_assoc] at this
      exact this)
    rw [List.length_cons, Nat.succ_mul, Nat.add_comm, List.take_add, h0, List.drop_drop, h1, List.flatMap_cons]; rfl
theorem choose_any {α : Type} {n : Nat} {Q : Nat → α → Prop} (h : ∀ i, i < n → ∃ x, Q i x) : ∃ l : List α, l.length = n ∧ ∀ i (hi : i < l.length), Q i l[i] := by
  induction n with
  | zero => exact ⟨[], rfl, fun i hi => by simp at hi⟩
  | succ n ih =>
    obtain ⟨l, hl, hall⟩ := ih (fun i hi => h i (by omega))
    obtain ⟨x, hx⟩ := h n (by omega)
    refine ⟨l ++ [x], by simp [hl], fun i hi => ?_⟩
    by_cases e : i < l.length
    · rw [List.getElem_append_left e]; exact hall i e
    · have hin : i = l.length := by simp at hi; omega
      subst hin
      rw [List.getElem_append_right (Nat.le_refl _)]
      simp only [Nat.sub_self, List.getElem_cons_zero]
      rw [hl]; exact hx
/-- A slice among the arguments, of elements that are told apart cell by cell. -/
theorem open_list {α : Type} {P : Program} {r : Reach} {b0 base' : Nat} {sp : Nat → Bool} {hd : Bool} {W : World} {t e : TypeId} {v : Value} {d : DataW H} {ps : List MemPlace} {size : Nat} (en : α → List Value) (Q : α → Prop) (he : ∀ x, (en x).length = size) (hz : 0 < size) (ht : P.underlying t = some (.slice e)) (hc : P.cellsOf e = size)
    (hval : Value.okWide P W r b0 t v) (h : DataW.Trod enc P W base' sp hd t v d ps)
    (hel : ∀ n cs y, DataW.trod enc P W base' sp hd n e cs = some y → (∀ k ∈ y.1.weights P e, k ∈ d.weights P t) → ∃ x, cs = en x ∧ Q x) :
    ∃ (A : Option Addr) (c : Nat) (l : List α), v = .slice A l.length c ∧ l.length ≤ 9223372036854775807 ∧ (0 < l.length → RoS (base W) size A l.length (l.flatMap en)) ∧ ∀ x ∈ l, Q x := by
  obtain ⟨a0, len0, cap0, rfl⟩ := okWide_slice ht hval
  obtain ⟨fuel, hf⟩ := h
  rcases DataW.trod_slice ht hf with ⟨hcs, _⟩ | ⟨a, len, cap, elems, rest, n, rfl, hcs, hx4, _, hl4, hm4, hlen4, hev, _, _⟩
  · simp [Value.cells] at hcs
    obtain ⟨rfl, rfl, rfl⟩ := hcs
    exact ⟨none, 0, [], rfl, by simp, fun h => by simp at h, fun x hx => by cases hx⟩
  · simp [Value.cells] at hcs
    obtain ⟨rfl, rfl, rfl⟩ := hcs
    have hdx : d = .slice (elems.map (·.1)) (rest.map (·.1)) := congrArg Prod.fst hx4
    have hex : ∀ i, i < len0 → ∃ x, W.cells? base' (a.add (i * size)) size = some (en x) ∧ Q x := by
      intro i hi
      have h1 := hev i hi
      rw [hc, List.getElem?_eq_getElem (by omega), Option.bind_eq_some_iff] at h1
      obtain ⟨cs', h2, h3⟩ := h1
      obtain ⟨x, rfl, hq⟩ := hel n cs' _ h3 (fun m hm => by
        rw [hdx]
        simp only [DataW.weights, ht, List.mem_cons, List.mem_append]
        exact .inr (.inl (weightsAll_mem (List.mem_map.2 ⟨_, List.getElem_mem (by omega), rfl⟩) hm)))
      exact ⟨x, h2, hq⟩
    obtain ⟨l, hl, hall⟩ := choose_any hex
    subst hl
    have hml : maxLen ≤ 9223372036854775807 := by decide
    refine ⟨some a, cap0, l, rfl, by omega, fun h0 => ?_, fun x hx => ?_⟩
    · obtain ⟨hs, cs, et, fz, hh, hd0⟩ := cells_row (hall 0 h0).1 hz
      rw [add_block] at hh
      have hsa : a.spot = none := by simpa [Addr.add] using hs
      refine ⟨flatG_len he l, .inr ⟨a.block, a.off, cs, et, fz, by rw [← hsa], hh, flat_of l a.off cs fun i hi => ?_⟩⟩
      obtain ⟨_, cs', et', fz', hh', hd'⟩ := cells_row (hall i hi).1 hz
      rw [add_block] at hh'
      rw [add_off] at hd'
      have e1 := hh.symm.trans hh'
      injection e1 with e1
      injection e1 with e1 e2 e3
      have e4 : cs = cs' := by simpa using congrArg Array.toList e1
      rw [e4]; exact hd'
    · obtain ⟨i, hi, rfl⟩ := List.getElem_of_mem hx
      exact (hall i hi).2
theorem open_u64 {P : Program} {r : Reach} {b0 base' : Nat} {sp : Nat → Bool} {hd : Bool} {W : World} {t : TypeId} {v : Value} {d : DataW H} {ps : List MemPlace} (ht : P.underlying t = some (.int .u64)) (hval : Value.okWide P W r b0 t v) (h : DataW.Trod enc P W base' sp hd t v d ps) : ∃ n : BitVec 64, v = u64 n := by
  obtain ⟨n, rfl, _, _, hn⟩ := open_int ht hval h
  exact u64_of hn
/-- .. as a thing's part. -/
theorem open_list0 {α : Type} {P : Program} {base' : Nat} {sp : Nat → Bool} {hd : Bool} {W : World} {t e : TypeId} {cs0 : List Value} {y0 : DataW H × List MemPlace} {fuel : Nat} {size : Nat} (en : α → List Value) (Q : α → Prop) (he : ∀ x, (en x).length = size) (hz : 0 < size) (ht : P.underlying t = some (.slice e)) (hc : P.cellsOf e = size)
    (h : DataW.trod enc P W base' sp hd fuel t cs0 = some y0)
    (hel : ∀ n cs y, DataW.trod enc P W base' sp hd n e cs = some y → ∃ x, cs = en x ∧ Q x) :
    ∃ (A : Option Addr) (c : Nat) (l : List α), cs0 = [.slice A l.length c] ∧ l.length ≤ 9223372036854775807 ∧ (0 < l.length → RoS (base W) size A l.length (l.flatMap en)) ∧ ∀ x ∈ l, Q x := by
  rcases DataW.trod_slice ht h with ⟨hcs, _⟩ | ⟨a, len, cap, elems, rest, n, rfl, hcs, hx4, _, hl4, hm4, hlen4, hev, _, _⟩
  · exact ⟨none, 0, [], hcs, by simp, fun h => by simp at h, fun x hx => by cases hx⟩
  · have hex : ∀ i, i < len → ∃ x, W.cells? base' (a.add (i * size)) size = some (en x) ∧ Q x := by
      intro i hi
      have h1 := hev i hi
      rw [hc, List.getElem?_eq_getElem (by omega), Option.bind_eq_some_iff] at h1
      obtain ⟨cs', h2, h3⟩ := h1
      obtain ⟨x, rfl, hq⟩ := hel n cs' _ h3
      exact ⟨x, h2, hq⟩
    obtain ⟨l, hl, hall⟩ := choose_any hex
    subst hl
    have hml : maxLen ≤ 9223372036854775807 := by decide
    refine ⟨some a, cap, l, hcs, by omega, fun h0 => ?_, fun x hx => ?_⟩
    · obtain ⟨hs, cs, et, fz, hh, hd0⟩ := cells_row (hall 0 h0).1 hz
      rw [add_block] at hh
      have hsa : a.spot = none := by simpa [Addr.add] using hs
      refine ⟨flatG_len he l, .inr ⟨a.block, a.off, cs, et, fz, by rw [← hsa], hh, flat_of l a.off cs fun i hi => ?_⟩⟩
      obtain ⟨_, cs', et', fz', hh', hd'⟩ := cells_row (hall i hi).1 hz
      rw [add_block] at hh'
      rw [add_off] at hd'
      have e1 := hh.symm.trans hh'
      injection e1 with e1
      injection e1 with e1 e2 e3
      have e4 : cs = cs' := by simpa using congrArg Array.toList e1
      rw [e4]; exact hd'
    · obtain ⟨i, hi, rfl⟩ := List.getElem_of_mem hx
      exact (hall i hi).2
def s1 (s : List UInt8) : List Value := [str s]
theorem s1_flat (l : List (List UInt8)) : l.flatMap s1 = l.map str := by
  induction l with
  | nil => rfl
  | cons x l ih => rw [List.flatMap_cons, ih]; rfl
theorem open_str0 {P : Program} {base' : Nat} {sp : Nat → Bool} {hd : Bool} {W : World} {t : TypeId} (ht : P.underlying t = some .string) (n : Nat) (cs : List Value) (y : DataW H × List MemPlace) (h : DataW.trod enc P W base' sp hd n t cs = some y) : ∃ x, cs = s1 x ∧ True := by
  obtain ⟨m, q, _, _⟩ := DataW.trod_string ht h
  exact ⟨m.data.toList, q, trivial⟩
/-- Texts that come in. -/
theorem open_sl0 {P : Program} {base' : Nat} {sp : Nat → Bool} {hd : Bool} {W : World} {t e : TypeId} {cs0 : List Value} {y0 : DataW H × List MemPlace} {fuel : Nat} (ht : P.underlying t = some (.slice e)) (he : P.underlying e = some .string) (hc : P.cellsOf e = 1) (h : DataW.trod enc P W base' sp hd fuel t cs0 = some y0) :
    ∃ (A : Option Addr) (c : Nat) (l : List (List UInt8)), cs0 = [.slice A l.length c] ∧ l.length ≤ 9223372036854775807 ∧ (0 < l.length → RoS (base W) 1 A l.length (l.map str)) := by
  obtain ⟨A, c, l, h1, h2, h3, _⟩ := open_list0 s1 (fun _ => True) (fun _ => rfl) (by decide) ht hc h (fun n cs y hy => open_str0 he n cs y hy)
  exact ⟨A, c, l, h1, h2, fun h0 => by rw [← s1_flat]; exact h3 h0⟩
theorem open_sl {P : Program} {r : Reach} {b0 base' : Nat} {sp : Nat → Bool} {hd : Bool} {W : World} {t e : TypeId} {v : Value} {d : DataW H} {ps : List MemPlace} (ht : P.underlying t = some (.slice e)) (he : P.underlying e = some .string) (hc : P.cellsOf e = 1) (hval : Value.okWide P W r b0 t v) (h : DataW.Trod enc P W base' sp hd t v d ps) :
    ∃ (A : Option Addr) (c : Nat) (l : List (List UInt8)), v = .slice A l.length c ∧ l.length ≤ 9223372036854775807 ∧ (0 < l.length → RoS (base W) 1 A l.length (l.map str)) := by
  obtain ⟨A, c, l, h1, h2, h3, _⟩ := open_list s1 (fun _ => True) (fun _ => rfl) (by decide) ht hc hval h (fun n cs y hy _ => open_str0 he n cs y hy)
  exact ⟨A, c, l, h1, h2, fun h0 => by rw [← s1_flat]; exact h3 h0⟩
end
end Go.SL

/-
  Lists of lists of texts that come in.
-/
namespace Go.Proofs.Ytgcebieihmlaoaa
open Go.SL Go.RowKit
set_option linter.unusedVariables false
set_option linter.unusedSimpArgs false
set_option maxRecDepth 100000
open Jn6
open Go.ChangeShapes Go.WideShapes Go.ChangeAt
namespace JnA


section
variable {H : Type} {enc : TypeId × Value → H}
theorem open_txs {r : Reach} {b0 base' : Nat} {sp : Nat → Bool} {hd : Bool} {W : World} {v : Value} {d : DataW H} {ps : List MemPlace} (hval : Value.okWide Try.prog W r b0 61 v) (h : DataW.Trod enc Try.prog W base' sp hd 61 v d ps) :
    ∃ (A : Option Addr) (c : Nat) (l : List Tx), v = .slice A l.length c ∧ l.length ≤ 9223372036854775807 ∧ (0 < l.length → RoS (base W) 1 A l.length (l.flatMap txc)) ∧ ∀ x ∈ l, TxOk (base W) x :=
  open_list (size := 1) txc (TxOk (base W)) txc_len (by decide) Try.underlying61 (by kernel_rfl) hval h fun n cs y hy _ => by
    obtain ⟨A, c, l, h1, h2, h3⟩ := open_sl0 Try.underlying62 Try.underlying9 (by kernel_rfl) hy
    exact ⟨⟨A, c, l⟩, h1, h3, h2⟩
theorem open_ss {r : Reach} {b0 base' : Nat} {sp : Nat → Bool} {hd : Bool} {W : World} {v : Value} {d : DataW H} {ps : List MemPlace} (hval : Value.okWide Try.prog W r b0 62 v) (h : DataW.Trod enc Try.prog W base' sp hd 62 v d ps) :
    ∃ (A : Option Addr) (c : Nat) (l : List (List UInt8)), v = .slice A l.length c ∧ l.length ≤ 9223372036854775807 ∧ (0 < l.length → RoS (base W) 1 A l.length (l.map str)) :=
  open_sl Try.underlying62 Try.underlying9 (by kernel_rfl) hval h
end
end JnA
end Go.Proofs.Ytgcebieihmlaoaa

/-
  Strikes that come in.
-/
namespace Go.Proofs.Ytgcebieihmlaoaa
open Go.SL Go.RowKit
set_option linter.unusedVariables false
set_option linter.unusedSimpArgs false
set_option maxRecDepth 100000
open DkB
open Go.ChangeShapes Go.WideShapes Go.ChangeAt
namespace JnD


section
variable {H : Type} {enc : TypeId × Value → H}
theorem open_sk0 {W : World} {b0 : Nat} {sp : Nat → Bool} {hd : Bool} {fuel : Nat} {cs : List Value} {x : DataW H × List MemPlace} (h : DataW.trod enc Try.prog W b0 sp hd fuel 25 cs = some x) : ∃ r : Sk, cs = scs r := by
  have c3 : Try.prog.cellsOf 3 = 1 := by kernel_rfl
  have cU : Try.prog.cellsOf 23 = 1 := by kernel_rfl
  have cS : Try.prog.cellsOf 25 = 3 := by kernel_rfl
  obtain ⟨y0, y1, y2, n, rfl, hl, e0, e1, e2⟩ := Go.Deep.trod_struct3 Try.underlying25 h
  rw [cS] at hl
  match cs, hl with
  | [k0, k1, k2], _ =>
    have g0 : DataW.trod enc Try.prog W b0 sp hd n 3 (List.take (Try.prog.cellsOf 3) [k0, k1, k2]) = some y0 := e0
    have g1 : DataW.trod enc Try.prog W b0 sp hd n 23 (List.take (Try.prog.cellsOf 23) [k1, k2]) = some y1 := e1
    have g2 : DataW.trod enc Try.prog W b0 sp hd n 3 (List.take (Try.prog.cellsOf 3) [k2]) = some y2 := e2
    rw [c3] at g0 g2
    rw [cU] at g1
    obtain ⟨m0, q0, _, _⟩ := DataW.trod_int Try.underlying3 g0
    obtain ⟨m1, q1, _, w1⟩ := DataW.trod_int Try.underlying23 g1
    obtain ⟨m2, q2, _, _⟩ := DataW.trod_int Try.underlying3 g2
    injection q0 with q0 _
    injection q1 with q1 _
    injection q2 with q2 _
    obtain ⟨u, hu⟩ := u64_of w1
    subst q0 q2
    rw [q1, hu]
    exact ⟨⟨m0, u, m2⟩, rfl⟩
theorem open_sk {r : Reach} {b0 base' : Nat} {sp : Nat → Bool} {hd : Bool} {W : World} {v : Value} {d : DataW H} {ps : List MemPlace} (hval : Value.okWide Try.prog W r b0 25 v) (h : DataW.Trod enc Try.prog W base' sp hd 25 v d ps) : ∃ q : Sk, v = .agg (scs q).toArray := by
  obtain ⟨cs, rfl, _⟩ := okWide_struct Try.underlying25 hval
  obtain ⟨fuel, hf⟩ := h
  obtain ⟨q, hq⟩ := open_sk0 hf
  have hq' : cs.toList = scs q := by simpa [Value.cells] using hq
  exact ⟨q, by rw [← hq']⟩
end
end JnD
end Go.Proofs.Ytgcebieihmlaoaa

/-
  JournalBlanks: whatever the input, the law answers true, and the input reads as it did.
-/
namespace Go.Proofs.Ytgcebieihmlaoaa.JournalBlanksLaw
open Go.ChangeShapes Go.WideShapes Go.ChangeAt Go.RowKit Go.SL
open DkB JnA JnD
open Go.ChangeMaps (open_string shut_string)

theorem own : ownKnob Try.prog.godebug = none := by kernel_rfl
theorem laidOut : laidOutB Try.prog = true := by kernel_rfl

set_option maxRecDepth 100000 in
theorem contract (H : Type) (enc : TypeId × Value → H) (W : World) (base : Nat) (args : Array Value) (ds gs : List (DataW H)) (before : List MemPlace)
    (hval : ∀ (j : Nat) t v, Try.f7.params[j]? = some t → args[j]? = some v → Value.okWide Try.prog W .any base t v)
    (hW : DataW.Whole enc Try.prog Try.f7.params.toList Rows.journalBlanksSpec.vars false W args.toList ds gs before) :
    Calls Try.prog 7 args W fun e W' => ∃ v, e = .returned v ∧ Rows.journalBlanksSpec.post enc Try.prog Try.f7 false true false false W args v W' := by
  have hW' := hW
  obtain ⟨p, q, hA0, hV, rfl, hfz, hnd⟩ := hW
  have hA : DataW.TrodAll enc Try.prog W 0 (fun _ => true) true Try.f7.params.toList args.toList ds p := hA0
  rw [Try.params7] at hA hval
  obtain ⟨v0, vs0, d0, ds0, p0, q0, hargs, rfl, rfl, h0, r0⟩ := trodAll_cons hA
  obtain ⟨v1, vs1, d1, ds1, p1, q1, rfl, rfl, rfl, h1, r1⟩ := trodAll_cons r0
  obtain ⟨v2, vs2, d2, ds2, p2, q2, rfl, rfl, rfl, h2, r2⟩ := trodAll_cons r1
  obtain ⟨rfl, rfl, rfl⟩ := trodAll_nil r2
  obtain rfl : args = #[v0, v1, v2] := by cases args; simp_all
  obtain ⟨A0, c0, l0, rfl, hm0, ro0⟩ := open_ss (hval 0 62 v0 rfl rfl) h0
  obtain ⟨a1, rfl, rfl, rfl, m1⟩ := open_int Try.underlying3 (hval 1 3 v1 rfl rfl) h1
  obtain ⟨a2, rfl⟩ := open_sk (hval 2 25 v2 rfl rfl) h2
  obtain ⟨rfl, rfl⟩ := trodVars_none hV
  refine (law_calls (args := [.slice A0 l0.length c0, i64 a1, .agg (scs a2).toArray]) (Jn13.JournalBlanks_ct l0 A0 c0 a1 a2 _ ro0 hm0)).mono fun e W' ⟨he, hb⟩ => ?_
  exact ⟨_, he, law_post laidOut (by kernel_rfl) (by kernel_rfl) Try.underlying4 rfl hW' rfl hb⟩

set_option maxRecDepth 100000 in
theorem lifted (os : Os) (started : os.Started) (H : Type) (enc : TypeId × Value → H) :
    ReturnsInHanded {} Try.checked os 7 .any (Rows.journalBlanksSpec.pre6 enc Try.prog Try.f7 Rows.journalBlanksRow.domain false) (Rows.journalBlanksSpec.post enc Try.prog Try.f7 false true false false) := by
  refine returnsInHanded_of_change (C := Try.checked) own started (by kernel_rfl) Try.func7
    (ChangeSpec.witness6 (enc := enc) (C := Try.checked) false ⟨#[], #[.slice none 0 0, .int .i64 0, .agg #[.int .i64 0, .int .u64 0, .int .i64 0]], []⟩ 8 (by kernel_rfl) (by kernel_rfl) (by kernel_rfl) (by kernel_rfl)) ?_
  intro W base args ds gs before hval hW _ _
  exact contract H enc W base args ds gs before hval hW

theorem said : Rows.JournalBlanksSaid :=
  OpenClaim.holds_of_wide 7 Try.f7 rfl rfl rfl rfl rfl rfl rfl ⟨rfl, rfl, rfl, rfl, rfl⟩ rfl rfl rfl rfl rfl (by kernel_rfl) Try.func7 (by kernel_rfl)
    (of_decide_eq_true (by kernel_rfl)) (by unfold Func.isWrapper; first | (rw [if_pos (by decide +kernel)]; kernel_rfl) | (rw [if_neg (by decide +kernel)]; exact ⟨rfl, rfl⟩))
    (fun os started H enc _ => lifted os started H enc)
end Go.Proofs.Ytgcebieihmlaoaa.JournalBlanksLaw
#print axioms Go.Proofs.Ytgcebieihmlaoaa.JournalBlanksLaw.said
