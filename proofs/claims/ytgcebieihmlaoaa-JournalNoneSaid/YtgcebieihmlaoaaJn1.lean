/-
  The builder of texts; a journal: what it is in memory, its small functions.
-/
import Derived.Test.YtgcebieihmlaoaaProg
import Derived.Test.YtgcebieihmlaoaaSlj
import Derived.Test.YtgcebieihmlaoaaDkN
import Derived.Test.YtgcebieihmlaoaaFr7
import Derived.Test.YtgcebieihmlaoaaSlz
namespace Go.Proofs.Ytgcebieihmlaoaa
open Go.SL Go.RowKit
set_option linter.unusedVariables false
set_option linter.unusedSimpArgs false
set_option maxRecDepth 100000
open DkA DkB DkC DkD DkE DkF DkG DkH DkI DkJ DkK DkL DkM DkN Fr1
namespace Jn1
theorem sz3 : (Try.prog.info? 3).map (·.size) = some 1 := by kernel_rfl
theorem sz4 : (Try.prog.info? 4).map (·.size) = some 1 := by kernel_rfl
theorem sz9 : (Try.prog.info? 9).map (·.size) = some 1 := by kernel_rfl
theorem sz42 : (Try.prog.info? 42).map (·.size) = some 1 := by kernel_rfl
theorem sz74 : (Try.prog.info? 74).map (·.size) = some 4 := by kernel_rfl
theorem sz80 : (Try.prog.info? 80).map (·.size) = some 1 := by kernel_rfl
theorem sz115 : (Try.prog.info? 115).map (·.size) = some 5 := by kernel_rfl
theorem sz122 : (Try.prog.info? 122).map (·.size) = some 2 := by kernel_rfl
theorem ti5 : TI Try.prog 5 [.int .u8 0] 1 1 := TI.of (by kernel_rfl) rfl rfl
theorem ti42 : TI Try.prog 42 [.int .i64 0] 1 8 := TI.of (by kernel_rfl) rfl rfl
theorem ti74 : TI Try.prog 74 [.int .i64 0, .int .i64 0, str [], .bool false] 4 40 := TI.of (by kernel_rfl) rfl rfl
theorem ti115 : TI Try.prog 115 [.pointer none, .int .i64 0, .int .i64 0, .int .i64 0, .slice none 0 0] 5 56 := TI.of (by kernel_rfl) rfl rfl
theorem ti122 : TI Try.prog 122 [.pointer none, .slice none 0 0] 2 32 := TI.of (by kernel_rfl) rfl rfl
theorem fo115_4 : FO Try.prog 115 4 4 1 false := FO.of Try.underlying115 rfl rfl (by kernel_rfl) Try.underlying113 rfl rfl
theorem fo122_1 : FO Try.prog 122 1 1 1 false := FO.of Try.underlying122 rfl rfl (by kernel_rfl) Try.underlying80 rfl rfl
theorem pl74 : PL Try.prog 74 [(0, 1), (1, 1), (2, 1), (3, 1)] := PL.of Try.underlying74 (by kernel_rfl)

/-- A builder: its address (once it was used), its bytes. -/
def bcell (b : Nat) (u : Bool) (A : Option Addr) (n c : Nat) : List Value := [.pointer (if u = true then some ⟨b, 0, none⟩ else none), .slice A n c]
theorem copyCheck_ct (b : Nat) (u : Bool) (A : Option Addr) (n c : Nat) (B : Frag) : CtC Try.prog 83 [.pointer (some ⟨b, 0, none⟩)] B (row b 122 (bcell b u A n c)) (.tuple #[]) (row b 122 (bcell b true A n c)) :=
  ⟨Go.SL.enters_of Try.func83 rfl (by kernel_rfl), fun N0 w R s => by
    obtain ⟨hg, hB, hN⟩ := s.blk
    cases u with
    | true =>
      refine (Any.Builder_copyCheck_used { Shelf.lays105 with } Shelf.Builder_Extra_105.toX72 b w (cell_of_heap hg rfl)).mono ?_
      rintro e w' ⟨rfl, rfl⟩
      exact ⟨_, B, _, rfl, ⟨rfl, rfl, rfl⟩, Frag.le_refl _, Below.refl _ _, s⟩
    | false =>
      refine (Any.Builder_copyCheck_fresh { Shelf.lays105 with } Shelf.Builder_Extra_105.toX72 b w (cell_of_heap hg rfl) (by simp [World.shape?, hg, bcell]; rfl) (by simp [World.frozen?, hg])).mono ?_
      rintro e w' ⟨rfl, rfl⟩
      refine ⟨_, B, _, rfl, ⟨rfl, rfl, rfl⟩, Frag.le_refl _, (Below.refl _ _).setCell (p := ⟨b, 0, none⟩) hN _, s.put ?_ (fun k hk => ?_) (by simp [World.setCell])⟩
      · simp [World.setCell, Array.getElem?_modify, hg, bcell]
      · simp only [World.setCell, Array.getElem?_modify]
        rw [if_neg (fun h => hk h.symm)]⟩

set_option maxHeartbeats 1000000 in
theorem BLen_ct (b : Nat) (u : Bool) (A : Option Addr) (n c : Nat) (B : Frag) : CtC Try.prog 60 [.pointer (some ⟨b, 0, none⟩)] B (row b 122 (bcell b u A n c)) (i64 (n : Int)) (row b 122 (bcell b u A n c)) := by
  refine Ct.of_body Try.func60 rfl (nt := 8) rfl (by kernel_rfl) rfl ?_
  intro N0 w0 R
  refine Cx.seq (fun K1 k1 => ?_)
  refine Cx.region ?_
  refine Lx.y (asg rfl) rfl ?_
  refine Lx.nil ?_
  refine Xx.tn (k1 _ _ _ _ ?_)
  refine Cx.seq (fun K2 k2 => ?_)
  refine Cx.region ?_
  refine Lx.y (mv rfl) rfl ?_
  refine Lx.y (nilc rfl) rfl ?_
  refine Lx.y (fa' fo122_1 rfl) rfl ?_
  refine Lx.y (ld Try.underlying80 rfl rfl rfl) rfl ?_
  refine Lx.y (lenV (ty' := 0) Try.underlying80 rfl) rfl ?_
  refine Lx.y (asg rfl) rfl ?_
  refine Lx.nil ?_
  refine Xx.tn (k2 _ _ _ _ ?_)
  refine Cx.ret ?_
  exact Xx.ret1 rfl rfl ⟨rfl, rfl, rfl⟩ (Frag.le_refl _) rfl

set_option maxHeartbeats 1000000 in
theorem BWrite_ct (b : Nat) (u : Bool) (A : Option Addr) (l s : List UInt8) (c : Nat) (B : Frag) (hl : l.length + s.length ≤ 140737488355328) : Ct Try.prog 61 [.pointer (some ⟨b, 0, none⟩), str s] B (row b 122 (bcell b u A l.length c) * sbuf 5 1 A l.length c (u8s l)) (fun v B' H' => B' = B ∧ v = .tuple #[i64 (s.length : Int), .nilIface] ∧ ∃ A' c', (0 < (l ++ s).length → c' ≠ 0) ∧ H' = row b 122 (bcell b true A' (l ++ s).length c') * sbuf 5 1 A' (l ++ s).length c' (u8s (l ++ s))) := by
  refine Ct.of_body Try.func61 rfl (nt := 19) rfl (by kernel_rfl) rfl ?_
  intro N0 w0 R
  simp only [star_assoc]
  refine Cx.seq (fun K1 k1 => ?_)
  refine Cx.region ?_
  refine Lx.y (asg rfl) rfl ?_
  refine Lx.y (asg rfl) rfl ?_
  refine Lx.nil ?_
  refine Xx.tn (k1 _ _ _ _ ?_)
  refine Cx.seq (fun K2 k2 => ?_)
  refine Cx.region ?_
  refine Lx.y (mv rfl) rfl ?_
  refine Lx.co rfl rfl rfl (copyCheck_ct b u A l.length c _) (rfl) rfl ?_
  refine Lx.nil ?_
  refine Xx.tn (k2 _ _ _ _ ?_)
  refine Cx.seq (fun K3 k3 => ?_)
  refine Cx.region ?_
  refine Lx.y (mv rfl) rfl ?_
  refine Lx.y (mv rfl) rfl ?_
  refine Lx.y (nilc rfl) rfl ?_
  refine Lx.y (fa' fo122_1 rfl) rfl ?_
  refine Lx.y (ld Try.underlying80 rfl rfl rfl) rfl ?_
  refine Lx.y (mv rfl) rfl ?_
  refine Lx.o (appT (et := 5) (A := A) (l.length + s.length) (u8s (l ++ s)) Try.underlying80 Try.underlying9 ti5 rfl rfl (by omega) (by omega) rfl (by rw [u8s_app])) rfl (fun v B' H' hΦ hB => ?_)
  obtain ⟨A2, c2, rfl, hA2, hc2, hBB, rfl⟩ := hΦ
  have hBB2 := hBB.symm
  subst hBB2
  clear hB
  refine Lx.y (nilc rfl) rfl ?_
  refine Lx.y (fa' fo122_1 rfl) rfl ?_
  refine Lx.st (stO Try.underlying80 sz80 rfl rfl rfl (by show 1 < 2; omega) rfl) ?_
  refine Lx.nil ?_
  refine Xx.tn (k3 _ _ _ _ ?_)
  refine Cx.seq (fun K4 k4 => ?_)
  refine Cx.region ?_
  refine Lx.y (mv rfl) rfl ?_
  refine Lx.y (lenS Try.underlying9 rfl) rfl ?_
  refine Lx.y (asg rfl) rfl ?_
  refine Lx.y (asg rfl) rfl ?_
  refine Lx.nil ?_
  refine Xx.tn (k4 _ _ _ _ ?_)
  refine Cx.ret ?_
  exact Xx.ret2 rfl rfl rfl ⟨rfl, rfl, A2, c2, by rw [List.length_append]; intro h; omega, rfl⟩ (Frag.le_refl _) (by unfold bcell; rw [List.length_append]; ac_rfl)

set_option maxHeartbeats 1000000 in
theorem BString_ct (b : Nat) (u : Bool) (A : Option Addr) (l : List UInt8) (c : Nat) (B : Frag) (hz : A = none ∨ c ≠ 0) (hl : l.length ≤ 140737488355328) : CtC Try.prog 62 [.pointer (some ⟨b, 0, none⟩)] B (row b 122 (bcell b u A l.length c) * sbuf 5 1 A l.length c (u8s l)) (str l) (row b 122 (bcell b u A l.length c)) := by
  refine Ct.of_body Try.func62 rfl (nt := 14) rfl (by kernel_rfl) rfl ?_
  intro N0 w0 R
  simp only [star_assoc]
  refine Cx.seq (fun K1 k1 => ?_)
  refine Cx.region ?_
  refine Lx.y (asg rfl) rfl ?_
  refine Lx.nil ?_
  refine Xx.tn (k1 _ _ _ _ ?_)
  refine Cx.seq (fun K2 k2 => ?_)
  refine Cx.drawn (by kernel_rfl) ?_
  refine Dx.p (i := 0) rfl (by kernel_rfl) (mv rfl) rfl ?_
  refine Dx.p (i := 1) rfl (by kernel_rfl) (nilc rfl) rfl ?_
  refine Dx.p (i := 2) rfl (by kernel_rfl) (fa' fo122_1 rfl) rfl ?_
  refine Dx.r (i := 3) rfl (by kernel_rfl) (ld Try.underlying80 rfl rfl rfl) rfl ?_
  refine Dx.p (i := 4) rfl (by kernel_rfl) (usD rfl hz) rfl ?_
  refine Dx.p (i := 5) rfl (by kernel_rfl) (mv rfl) rfl ?_
  refine Dx.p (i := 6) rfl (by kernel_rfl) (nilc rfl) rfl ?_
  refine Dx.p (i := 7) rfl (by kernel_rfl) (fa' fo122_1 rfl) rfl ?_
  refine Dx.r (i := 8) rfl (by kernel_rfl) (ld Try.underlying80 rfl rfl rfl) rfl ?_
  refine Dx.p (i := 9) rfl (by kernel_rfl) (lenV (ty' := 0) Try.underlying80 rfl) rfl ?_
  refine Dx.one (i := 10) (by kernel_rfl) ?_
  refine Dstep.o (i := 10) rfl (usS (et := 5) (A := A) (n := l.length) (c := c) Try.underlying155 (by kernel_rfl) rfl rfl rfl (by omega)) rfl (fun v B' H' hΦ hB => ?_)
  obtain ⟨rfl, hBB, rfl⟩ := hΦ
  have hBB2 := hBB.symm
  subst hBB2
  refine ⟨JOk.yes (JOk.yes (JOk.top) (ld Try.underlying80 rfl rfl rfl)) (ld Try.underlying80 rfl rfl rfl), ?_⟩
  refine Dx.p (i := 11) rfl (by kernel_rfl) (asg rfl) rfl ?_
  refine Dx.done (by kernel_rfl) ?_
  refine Xx.tn (k2 _ _ _ _ ?_)
  refine Cx.ret ?_
  exact Xx.ret1 rfl rfl ⟨rfl, rfl, rfl⟩ (Frag.le_refl _) rfl

/-- A record: its file, its place there, its body, whether it is as it was. -/
structure Rc where
  file : Nat
  at_ : Nat
  body : List UInt8
  good : Bool
def rcc (r : Rc) : List Value := [i64 (r.file : Int), i64 (r.at_ : Int), str r.body, .bool r.good]
theorem rcc_len (r : Rc) : (rcc r).length = 4 := rfl
theorem rcc_all (l : List Rc) : (l.flatMap rcc).all (·.oneCell') = true := by
  rw [List.all_eq_true]; intro v hv
  obtain ⟨x, _, hx⟩ := List.mem_flatMap.1 hv
  exact List.all_eq_true.1 (show (rcc x).all (·.oneCell') = true from rfl) v hx
/-- A journal. -/
structure Jn where
  db : Nat
  most : Int
  last : Nat
  long : Nat
  l : List Rc
  Al : Option Addr
  cl : Nat
def jcs (j : Jn) : List Value := [.pointer (some ⟨j.db, 0, none⟩), i64 j.most, i64 (j.last : Int), i64 (j.long : Int), .slice j.Al j.l.length j.cl]
def jnH (jb : Nat) (j : Jn) : HP := row jb 115 (jcs j) * sbuf 74 4 j.Al j.l.length j.cl (j.l.flatMap rcc)
def atV (l : List Rc) (i : Int) : Value := if h : 0 ≤ i ∧ i < l.length then .tuple #[.agg (rcc (l[i.toNat]'(by omega))).toArray, .bool true] else .tuple #[.agg ([i64 0, i64 0, str [], .bool false] : List Value).toArray, .bool false]

set_option maxHeartbeats 1000000 in
theorem JLen_ct (jb : Nat) (j : Jn) (B : Frag) : CtC Try.prog 36 [.pointer (some ⟨jb, 0, none⟩)] B (jnH jb j) (i64 (j.l.length : Int)) (jnH jb j) := by
  refine Ct.of_body Try.func36 rfl (nt := 10) rfl (by kernel_rfl) rfl ?_
  intro N0 w0 R
  unfold jnH
  simp only [star_assoc]
  refine Cx.seq (fun K1 k1 => ?_)
  refine Cx.region ?_
  refine Lx.y (asg rfl) rfl ?_
  refine Lx.nil ?_
  refine Xx.tn (k1 _ _ _ _ ?_)
  refine Cx.seq (fun K2 k2 => ?_)
  refine Cx.seq (fun K3 k3 => ?_)
  refine Cx.region ?_
  refine Lx.y (mv rfl) rfl ?_
  refine Lx.y (Yx.ff (eqNilP Try.underlying70 rfl rfl) rfl) rfl ?_
  refine Lx.nil ?_
  refine Xx.tn (k3 _ _ _ _ ?_)
  refine Cx.condF rfl ?_
  refine Cx.skip ?_
  refine Xx.tn (k2 _ _ _ _ ?_)
  refine Cx.seq (fun K4 k4 => ?_)
  refine Cx.region ?_
  refine Lx.y (mv rfl) rfl ?_
  refine Lx.y (nilc rfl) rfl ?_
  refine Lx.y (fa' fo115_4 rfl) rfl ?_
  refine Lx.y (ld Try.underlying113 rfl rfl rfl) rfl ?_
  refine Lx.y (lenV (ty' := 0) Try.underlying113 rfl) rfl ?_
  refine Lx.y (asg rfl) rfl ?_
  refine Lx.nil ?_
  refine Xx.tn (k4 _ _ _ _ ?_)
  refine Cx.ret ?_
  exact Xx.ret1 rfl rfl ⟨rfl, rfl, rfl⟩ (Frag.le_refl _) (by ac_rfl)

set_option maxHeartbeats 1000000 in
theorem JLen_nil (B : Frag) : CtP Try.prog 36 [.pointer none] B (i64 0) := by
  refine CtB.of_body Try.func36 rfl (nt := 10) rfl (by kernel_rfl) rfl ?_
  intro N0 w0 R
  refine Cx.seq (fun K1 k1 => ?_)
  refine Cx.region ?_
  refine Lx.y (asg rfl) rfl ?_
  refine Lx.nil ?_
  refine Xx.tn (k1 _ _ _ _ ?_)
  refine Cx.seq (fun K2 k2 => ?_)
  refine Cx.seq (fun K3 k3 => ?_)
  refine Cx.region ?_
  refine Lx.y (mv rfl) rfl ?_
  refine Lx.y (Yx.tt (eqNilP Try.underlying70 rfl rfl) rfl) rfl ?_
  refine Lx.nil ?_
  refine Xx.tn (k3 _ _ _ _ ?_)
  refine Cx.condT rfl ?_
  refine Cx.seq (fun K4 k4 => ?_)
  refine Cx.region ?_
  refine Lx.y (asg rfl) rfl ?_
  refine Lx.nil ?_
  refine Xx.tn (k4 _ _ _ _ ?_)
  refine Cx.ret ?_
  refine Xx.tr ?_
  exact Xx.rB1 rfl rfl ⟨rfl, rfl⟩ (Frag.le_refl _) rfl

set_option maxHeartbeats 1000000 in
theorem JFiles_nil (B : Frag) : CtP Try.prog 41 [.pointer none] B (i64 0) := by
  refine CtB.of_body Try.func41 rfl (nt := 9) rfl (by kernel_rfl) rfl ?_
  intro N0 w0 R
  refine Cx.seq (fun K1 k1 => ?_)
  refine Cx.region ?_
  refine Lx.y (asg rfl) rfl ?_
  refine Lx.nil ?_
  refine Xx.tn (k1 _ _ _ _ ?_)
  refine Cx.seq (fun K2 k2 => ?_)
  refine Cx.seq (fun K3 k3 => ?_)
  refine Cx.region ?_
  refine Lx.y (mv rfl) rfl ?_
  refine Lx.y (Yx.tt (eqNilP Try.underlying70 rfl rfl) rfl) rfl ?_
  refine Lx.nil ?_
  refine Xx.tn (k3 _ _ _ _ ?_)
  refine Cx.condT rfl ?_
  refine Cx.seq (fun K4 k4 => ?_)
  refine Cx.region ?_
  refine Lx.y (asg rfl) rfl ?_
  refine Lx.nil ?_
  refine Xx.tn (k4 _ _ _ _ ?_)
  refine Cx.ret ?_
  refine Xx.tr ?_
  exact Xx.rB1 rfl rfl ⟨rfl, rfl⟩ (Frag.le_refl _) rfl

set_option maxHeartbeats 2000000 in
theorem JAt_ct (jb : Nat) (j : Jn) (i : Int) (B : Frag) : CtC Try.prog 37 [.pointer (some ⟨jb, 0, none⟩), i64 i] B (jnH jb j) (atV j.l i) (jnH jb j) := by
  refine Ct.of_body Try.func37 rfl (nt := 29) rfl (by kernel_rfl) rfl ?_
  intro N0 w0 R
  unfold jnH
  simp only [star_assoc]
  refine Cx.seq (fun K1 k1 => ?_)
  refine Cx.region ?_
  refine Lx.new (allocO ti74) rfl (fun b4 => ?_)
  refine Lx.y (asg rfl) rfl ?_
  refine Lx.nil ?_
  refine Xx.tn (k1 _ _ _ _ ?_)
  refine Cx.seq (fun K2 k2 => ?_)
  refine Cx.seq (fun K3 k3 => ?_)
  refine Cx.region ?_
  refine Lx.y (mv rfl) rfl ?_
  refine Lx.y (Yx.ff (eqNilP Try.underlying70 rfl rfl) rfl) rfl ?_
  refine Lx.y (mv rfl) rfl ?_
  refine Lx.gT rfl rfl rfl ?_
  refine Lx.y (mv rfl) rfl ?_
  refine Lx.gT rfl rfl rfl ?_
  refine Lx.y (lss rfl rfl) rfl ?_
  refine Lx.y (pickF rfl rfl) rfl ?_
  refine Lx.y (mv rfl) rfl ?_
  refine Xx.ifD (t := 12) rfl (fun h4 => ?_) (fun h4 => ?_)
  · skip
    have g1 : i < 0 := h4
    refine Lx.gF rfl rfl rfl rfl ?_
    refine Lx.gF rfl rfl rfl rfl ?_
    refine Lx.gF rfl rfl rfl rfl ?_
    refine Lx.gF rfl rfl rfl rfl ?_
    refine Lx.gF rfl rfl rfl rfl ?_
    refine Lx.gF rfl rfl rfl rfl ?_
    refine Lx.gF rfl rfl rfl rfl ?_
    refine Lx.y (pickT rfl rfl) rfl ?_
    refine Lx.nil ?_
    refine Xx.tn (k3 _ _ _ _ ?_)
    refine Cx.condT rfl ?_
    refine Cx.seq (fun K5 k5 => ?_)
    refine Cx.region ?_
    refine Lx.y (bld ti74 pl74 rfl rfl) rfl ?_
    refine Lx.st (stA (d := .bool) sz74 rfl rfl rfl rfl (by show 0 + 4 ≤ 4; omega) rfl) ?_
    refine Lx.y (asg rfl) rfl ?_
    refine Lx.nil ?_
    refine Xx.tn (k5 _ _ _ _ ?_)
    refine Cx.ret ?_
    refine Xx.tr ?_
    exact Xx.retC rfl Try.underlying74 rfl sz74 rfl rfl rfl ⟨by unfold atV; rw [dif_neg (by omega)], rfl, rfl⟩ (Frag.le_refl _) (by ac_rfl)
  · skip
    have g1 : ¬ i < 0 := h4
    refine Lx.gT rfl rfl rfl ?_
    refine Lx.y (mv rfl) rfl ?_
    refine Lx.gT rfl rfl rfl ?_
    refine Lx.y (mv rfl) rfl ?_
    refine Lx.gT rfl rfl rfl ?_
    refine Lx.y (nilc rfl) rfl ?_
    refine Lx.gT rfl rfl rfl ?_
    refine Lx.y (fa' fo115_4 rfl) rfl ?_
    refine Lx.gT rfl rfl rfl ?_
    refine Lx.y (ld Try.underlying113 rfl rfl rfl) rfl ?_
    refine Lx.gT rfl rfl rfl ?_
    refine Lx.y (lenV (ty' := 0) Try.underlying113 rfl) rfl ?_
    refine Lx.gT rfl rfl rfl ?_
    refine Lx.y (geq rfl rfl) rfl ?_
    refine Lx.y (pickF rfl rfl) rfl ?_
    refine Lx.nil ?_
    refine Xx.tn (k3 _ _ _ _ ?_)
    refine Cx.condD rfl (fun h6 => ?_) (fun h6 => ?_)
    · skip
      have g2 := h6
      refine Cx.seq (fun K7 k7 => ?_)
      refine Cx.region ?_
      refine Lx.y (bld ti74 pl74 rfl rfl) rfl ?_
      refine Lx.st (stA (d := .bool) sz74 rfl rfl rfl rfl (by show 0 + 4 ≤ 4; omega) rfl) ?_
      refine Lx.y (asg rfl) rfl ?_
      refine Lx.nil ?_
      refine Xx.tn (k7 _ _ _ _ ?_)
      refine Cx.ret ?_
      refine Xx.tr ?_
      exact Xx.retC rfl Try.underlying74 rfl sz74 rfl rfl rfl ⟨by unfold atV; rw [dif_neg (by omega)], rfl, rfl⟩ (Frag.le_refl _) (by ac_rfl)
    · skip
      have g2 := h6
      have g2 : i < (j.l.length : Int) := by have h9 : ¬ (j.l.length : Int) ≤ i := g2; omega
      refine Xx.addrT j.Al (by omega) (fun ba hA hxl hxc => ?_)
      refine Cx.skip ?_
      refine Xx.tn (k2 _ _ _ _ ?_)
      refine Cx.seq (fun K8 k8 => ?_)
      refine Cx.region ?_
      refine Lx.y (mv rfl) rfl ?_
      refine Lx.y (nilc rfl) rfl ?_
      refine Lx.y (fa' fo115_4 rfl) rfl ?_
      refine Lx.y (Yx.val (ld Try.underlying113 rfl rfl rfl) (show _ = Value.slice (some ⟨ba, 0, none⟩) j.l.length j.cl from by rw [← hA])) rfl ?_
      refine Lx.y (mv rfl) rfl ?_
      rw [hA]
      refine Lx.y (ia (j := i.toNat) Try.underlying113 sz74 rfl rfl rfl (by omega) (by omega)) rfl ?_
      refine Lx.y (ldA Try.underlying74 rfl sz74 rfl (Cells.buf (b := ba) (m := 4) (show _ = rcc (j.l[i.toNat]'(by omega)) from by rw [Nat.zero_add]; exact DkF.flatG_at rcc_len i.toNat j.l (by omega)) (by rw [DkF.flatG_len rcc_len]; omega)) rfl) rfl ?_
      refine Lx.st (stA (d := .bool) sz74 rfl rfl rfl rfl (by show 0 + 4 ≤ 4; omega) rfl) ?_
      refine Lx.y (asg rfl) rfl ?_
      refine Lx.nil ?_
      refine Xx.tn (k8 _ _ _ _ ?_)
      refine Cx.ret ?_
      exact Xx.retC rfl Try.underlying74 rfl sz74 rfl rfl rfl ⟨by unfold atV; rw [dif_pos (by omega)]; rfl, rfl, rfl⟩ (Frag.le_refl _) (by rw [← hA]; ac_rfl)

set_option maxHeartbeats 1000000 in
theorem JAt_nil (i : Int) (B : Frag) : CtP Try.prog 37 [.pointer none, i64 i] B (.tuple #[.agg ([i64 0, i64 0, str [], .bool false] : List Value).toArray, .bool false]) := by
  refine CtB.of_body Try.func37 rfl (nt := 29) rfl (by kernel_rfl) rfl ?_
  intro N0 w0 R
  refine Cx.seq (fun K1 k1 => ?_)
  refine Cx.region ?_
  refine Lx.new (allocO ti74) rfl (fun b4 => ?_)
  refine Lx.y (asg rfl) rfl ?_
  refine Lx.nil ?_
  refine Xx.tn (k1 _ _ _ _ ?_)
  refine Cx.seq (fun K2 k2 => ?_)
  refine Cx.seq (fun K3 k3 => ?_)
  refine Cx.region ?_
  refine Lx.y (mv rfl) rfl ?_
  refine Lx.y (Yx.tt (eqNilP Try.underlying70 rfl rfl) rfl) rfl ?_
  refine Lx.y (mv rfl) rfl ?_
  refine Lx.gF rfl rfl rfl rfl ?_
  refine Lx.gF rfl rfl rfl rfl ?_
  refine Lx.y (pickT rfl rfl) rfl ?_
  refine Lx.y (mv rfl) rfl ?_
  refine Lx.gF rfl rfl rfl rfl ?_
  refine Lx.gF rfl rfl rfl rfl ?_
  refine Lx.gF rfl rfl rfl rfl ?_
  refine Lx.gF rfl rfl rfl rfl ?_
  refine Lx.gF rfl rfl rfl rfl ?_
  refine Lx.gF rfl rfl rfl rfl ?_
  refine Lx.gF rfl rfl rfl rfl ?_
  refine Lx.y (pickT rfl rfl) rfl ?_
  refine Lx.nil ?_
  refine Xx.tn (k3 _ _ _ _ ?_)
  refine Cx.condT rfl ?_
  refine Cx.seq (fun K4 k4 => ?_)
  refine Cx.region ?_
  refine Lx.y (bld ti74 pl74 rfl rfl) rfl ?_
  refine Lx.st (stA (d := .bool) sz74 rfl rfl rfl rfl (by show 0 + 4 ≤ 4; omega) rfl) ?_
  refine Lx.y (asg rfl) rfl ?_
  refine Lx.nil ?_
  refine Xx.tn (k4 _ _ _ _ ?_)
  refine Cx.ret ?_
  refine Xx.tr ?_
  exact Xx.rBc rfl Try.underlying74 rfl sz74 rfl rfl rfl ⟨rfl, rfl⟩ (Frag.le_refl _)

set_option maxHeartbeats 1000000 in
theorem JBlank_nil (i a n : Int) (B : Frag) : CtP Try.prog 39 [.pointer none, i64 i, i64 a, i64 n] B (i64 1) := by
  refine CtB.of_body Try.func39 rfl (nt := 121) rfl (by kernel_rfl) rfl ?_
  intro N0 w0 R
  refine Cx.seq (fun K1 k1 => ?_)
  refine Cx.region ?_
  refine Lx.y (asg rfl) rfl ?_
  refine Lx.nil ?_
  refine Xx.tn (k1 _ _ _ _ ?_)
  refine Cx.seq (fun K2 k2 => ?_)
  refine Cx.region ?_
  refine Lx.y (mv rfl) rfl ?_
  refine Lx.y (mv rfl) rfl ?_
  refine Lx.cp rfl rfl rfl (JAt_nil i _) rfl ?_
  refine Lx.y (mv rfl) rfl ?_
  refine Lx.y (ext rfl rfl) rfl ?_
  refine Lx.y (ext rfl rfl) rfl ?_
  refine Lx.new (allocO ti74) rfl (fun b9 => ?_)
  refine Lx.st (stA (d := .bool) sz74 rfl rfl rfl rfl (by show 0 + 4 ≤ 4; omega) rfl) ?_
  refine Lx.y (asg rfl) rfl ?_
  refine Lx.nil ?_
  refine Xx.tn (k2 _ _ _ _ ?_)
  refine Cx.seq (fun K3 k3 => ?_)
  refine Cx.seq (fun K4 k4 => ?_)
  refine Cx.region ?_
  refine Lx.y (mv rfl) rfl ?_
  refine Lx.y (not' rfl) rfl ?_
  refine Lx.y (mv rfl) rfl ?_
  refine Lx.gF rfl rfl rfl rfl ?_
  refine Lx.gF rfl rfl rfl rfl ?_
  refine Lx.y (pickT rfl rfl) rfl ?_
  refine Lx.y (mv rfl) rfl ?_
  refine Lx.gF rfl rfl rfl rfl ?_
  refine Lx.gF rfl rfl rfl rfl ?_
  refine Lx.y (pickT rfl rfl) rfl ?_
  refine Lx.y (mv rfl) rfl ?_
  refine Lx.gF rfl rfl rfl rfl ?_
  refine Lx.gF rfl rfl rfl rfl ?_
  refine Lx.gF rfl rfl rfl rfl ?_
  refine Lx.gF rfl rfl rfl rfl ?_
  refine Lx.gF rfl rfl rfl rfl ?_
  refine Lx.y (pickT rfl rfl) rfl ?_
  refine Lx.y (mv rfl) rfl ?_
  refine Lx.gF rfl rfl rfl rfl ?_
  refine Lx.gF rfl rfl rfl rfl ?_
  refine Lx.gF rfl rfl rfl rfl ?_
  refine Lx.gF rfl rfl rfl rfl ?_
  refine Lx.gF rfl rfl rfl rfl ?_
  refine Lx.gF rfl rfl rfl rfl ?_
  refine Lx.gF rfl rfl rfl rfl ?_
  refine Lx.y (pickT rfl rfl) rfl ?_
  refine Lx.nil ?_
  refine Xx.tn (k4 _ _ _ _ ?_)
  refine Cx.condT rfl ?_
  refine Cx.seq (fun K5 k5 => ?_)
  refine Cx.region ?_
  refine Lx.y (asg rfl) rfl ?_
  refine Lx.nil ?_
  refine Xx.tn (k5 _ _ _ _ ?_)
  refine Cx.ret ?_
  refine Xx.tr ?_
  exact Xx.dropB b9 (Xx.rB1 rfl rfl ⟨rfl, rfl⟩ (Frag.le_refl _) rfl)

set_option maxHeartbeats 1000000 in
theorem JAdd_nil (v : Value) (B : Frag) : CtP Try.prog 38 [.pointer none, v] B (.tuple #[i64 0, i64 1]) := by
  refine CtB.of_body Try.func38 rfl (nt := 123) rfl (by kernel_rfl) rfl ?_
  intro N0 w0 R
  refine Cx.seq (fun K1 k1 => ?_)
  refine Cx.region ?_
  refine Lx.y (asg rfl) rfl ?_
  refine Lx.y (asg rfl) rfl ?_
  refine Lx.nil ?_
  refine Xx.tn (k1 _ _ _ _ ?_)
  refine Cx.seq (fun K2 k2 => ?_)
  refine Cx.seq (fun K3 k3 => ?_)
  refine Cx.region ?_
  refine Lx.y (mv rfl) rfl ?_
  refine Lx.y (Yx.tt (eqNilP Try.underlying70 rfl rfl) rfl) rfl ?_
  refine Lx.nil ?_
  refine Xx.tn (k3 _ _ _ _ ?_)
  refine Cx.condT rfl ?_
  refine Cx.seq (fun K4 k4 => ?_)
  refine Cx.region ?_
  refine Lx.y (asg rfl) rfl ?_
  refine Lx.y (asg rfl) rfl ?_
  refine Lx.nil ?_
  refine Xx.tn (k4 _ _ _ _ ?_)
  refine Cx.ret ?_
  refine Xx.tr ?_
  exact Xx.rB2 rfl rfl rfl ⟨rfl, rfl⟩ (Frag.le_refl _) rfl

set_option maxHeartbeats 1000000 in
theorem JKeep_nil (n : Int) (B : Frag) : CtP Try.prog 40 [.pointer none, i64 n] B (i64 1) := by
  refine CtB.of_body Try.func40 rfl (nt := 135) rfl (by kernel_rfl) rfl ?_
  intro N0 w0 R
  refine Cx.seq (fun K1 k1 => ?_)
  refine Cx.region ?_
  refine Lx.new (boxO rfl rfl) rfl (fun bk => ?_)
  refine Lx.new (allocO ti42) rfl (fun bk1 => ?_)
  refine Lx.nil ?_
  refine Xx.tn (k1 _ _ _ _ ?_)
  refine Cx.seq (fun K2 k2 => ?_)
  refine Cx.seq (fun K3 k3 => ?_)
  refine Cx.region ?_
  refine Lx.y (ld Try.underlying70 rfl rfl rfl) rfl ?_
  refine Lx.y (Yx.tt (eqNilP Try.underlying70 rfl rfl) rfl) rfl ?_
  refine Lx.y (mv rfl) rfl ?_
  refine Lx.gF rfl rfl rfl rfl ?_
  refine Lx.gF rfl rfl rfl rfl ?_
  refine Lx.y (pickT rfl rfl) rfl ?_
  refine Lx.y (mv rfl) rfl ?_
  refine Lx.gF rfl rfl rfl rfl ?_
  refine Lx.gF rfl rfl rfl rfl ?_
  refine Lx.gF rfl rfl rfl rfl ?_
  refine Lx.gF rfl rfl rfl rfl ?_
  refine Lx.gF rfl rfl rfl rfl ?_
  refine Lx.gF rfl rfl rfl rfl ?_
  refine Lx.gF rfl rfl rfl rfl ?_
  refine Lx.y (pickT rfl rfl) rfl ?_
  refine Lx.nil ?_
  refine Xx.tn (k3 _ _ _ _ ?_)
  refine Cx.condT rfl ?_
  refine Cx.seq (fun K4 k4 => ?_)
  refine Cx.region ?_
  refine Lx.st (stO Try.underlying42 sz42 rfl rfl rfl (by show 0 < 1; omega) rfl) ?_
  refine Lx.nil ?_
  refine Xx.tn (k4 _ _ _ _ ?_)
  refine Cx.ret ?_
  refine Xx.tr ?_
  refine Xx.dropB bk ?_
  exact Xx.rBs rfl Try.underlying42 rfl rfl ⟨rfl, rfl⟩ (Frag.le_refl _)
end Jn1
end Go.Proofs.Ytgcebieihmlaoaa
