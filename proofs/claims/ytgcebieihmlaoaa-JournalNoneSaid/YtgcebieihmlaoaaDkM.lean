/-
  A disk that is none; a disk that is the same.
-/
import Derived.Test.YtgcebieihmlaoaaProg
import Derived.Test.YtgcebieihmlaoaaSlj
import Derived.Test.YtgcebieihmlaoaaDkL
namespace Go.Proofs.Ytgcebieihmlaoaa
open Go.SL Go.RowKit
set_option linter.unusedVariables false
set_option linter.unusedSimpArgs false
set_option maxRecDepth 100000
open DkA DkB DkC DkD DkE DkF DkG DkH DkI DkJ DkK DkL
namespace DkM
theorem sz3 : (Try.prog.info? 3).map (·.size) = some 1 := by kernel_rfl
theorem sz5 : (Try.prog.info? 5).map (·.size) = some 1 := by kernel_rfl
theorem sz25 : (Try.prog.info? 25).map (·.size) = some 3 := by kernel_rfl
theorem ti3 : TI Try.prog 3 [.int .i64 0] 1 8 := TI.of (by kernel_rfl) rfl rfl
theorem ti5 : TI Try.prog 5 [.int .u8 0] 1 1 := TI.of (by kernel_rfl) rfl rfl
theorem ti97 : TI Try.prog 97 [.map none, .int .i64 0, .bool false, .slice none 0 0, .int .i64 0] 5 56 := TI.of (by kernel_rfl) rfl rfl
theorem ti102 : TI Try.prog 102 [.slice none 0 0, .slice none 0 0, .slice none 0 0] 3 72 := TI.of (by kernel_rfl) rfl rfl
theorem fo97_0 : FO Try.prog 97 0 0 1 false := FO.of Try.underlying97 rfl rfl (by kernel_rfl) Try.underlying94 rfl rfl
theorem fo97_1 : FO Try.prog 97 1 1 1 false := FO.of Try.underlying97 rfl rfl (by kernel_rfl) Try.underlying3 rfl rfl
theorem fo97_2 : FO Try.prog 97 2 2 1 false := FO.of Try.underlying97 rfl rfl (by kernel_rfl) Try.underlying4 rfl rfl
theorem fo97_3 : FO Try.prog 97 3 3 1 false := FO.of Try.underlying97 rfl rfl (by kernel_rfl) Try.underlying54 rfl rfl
theorem fo97_4 : FO Try.prog 97 4 4 1 false := FO.of Try.underlying97 rfl rfl (by kernel_rfl) Try.underlying3 rfl rfl
theorem fo102_0 : FO Try.prog 102 0 0 1 false := FO.of Try.underlying102 rfl rfl (by kernel_rfl) Try.underlying80 rfl rfl
theorem fo102_1 : FO Try.prog 102 1 1 1 false := FO.of Try.underlying102 rfl rfl (by kernel_rfl) Try.underlying80 rfl rfl
theorem fo102_2 : FO Try.prog 102 2 2 1 false := FO.of Try.underlying102 rfl rfl (by kernel_rfl) Try.underlying39 rfl rfl
theorem pl97 : PL Try.prog 97 [(0, 1), (1, 1), (2, 1), (3, 1), (4, 1)] := PL.of Try.underlying97 (by kernel_rfl)
theorem pl102 : PL Try.prog 102 [(0, 1), (1, 1), (2, 1)] := PL.of Try.underlying102 (by kernel_rfl)

theorem map_inj {α β : Type} (f : α → β) : ∀ {l : List α}, (l.map f).Nodup → ∀ {a b : α}, a ∈ l → b ∈ l → f a = f b → a = b := by
  intro l
  induction l with
  | nil => intro _ a b h; cases h
  | cons x l ih =>
    intro h a b ha hb e
    rw [List.map_cons, List.nodup_cons] at h
    rcases List.mem_cons.1 ha with rfl | ha'
    · rcases List.mem_cons.1 hb with rfl | hb'
      · rfl
      · exact absurd (List.mem_map.2 ⟨b, hb', e.symm⟩) h.1
    · rcases List.mem_cons.1 hb with rfl | hb'
      · exact absurd (List.mem_map.2 ⟨a, ha', e⟩) h.1
      · exact ih h.2 ha' hb' e
theorem findM_none {k : Int} : ∀ {fs : List Fi}, findF k fs = none → findM k (fs.map (·.m)) = none := by
  intro fs h
  rw [← findF_m, h]; rfl
theorem setM_new {f : Fm} : ∀ {ms : List Fm}, findM f.n ms = none → setM f ms = ms ++ [f] := by
  intro ms
  induction ms with
  | nil => intro _; rfl
  | cons g ms ih =>
    intro h
    simp only [findM] at h
    split at h
    · cases h
    · rename_i e
      simp only [setM]; rw [if_neg e, ih h]; rfl
theorem CtP.of_c {P : Program} {f : FuncId} {args : List Value} {B : Frag} {v : Value} (h : CtC P f args B 1 v 1) : CtP P f args B v :=
  CtB.of_ct (Ct.mono h fun v' B' H' ⟨e1, e2, e3⟩ => ⟨⟨e1, e2⟩, e3⟩)

set_option maxHeartbeats 1000000 in
theorem Room_nil0 (n : Int) (B : Frag) : CtC Try.prog 20 [.pointer none, i64 n] B 1 (.tuple #[]) 1 := by
  refine Ct.of_body Try.func20 rfl (nt := 14) rfl (by kernel_rfl) rfl ?_
  intro N0 w0 R
  refine Cx.seq (fun K1 k1 => ?_)
  refine Cx.region ?_
  refine Lx.y (mv rfl) rfl ?_
  refine Lx.y (Yx.ff (neNilP Try.underlying26 rfl rfl) rfl) rfl ?_
  refine Lx.y (mv rfl) rfl ?_
  refine Lx.gF rfl rfl rfl rfl ?_
  refine Lx.gF rfl rfl rfl rfl ?_
  refine Lx.y (pickF rfl rfl) rfl ?_
  refine Lx.nil ?_
  refine Xx.tn (k1 _ _ _ _ ?_)
  refine Cx.condF rfl ?_
  refine Cx.skip ?_
  exact Xx.end0 rfl ⟨rfl, rfl, rfl⟩ (Frag.le_refl _) rfl

set_option maxHeartbeats 1000000 in
theorem Plan_nil0 (v : Value) (B : Frag) : CtC Try.prog 21 [.pointer none, v] B 1 (.tuple #[]) 1 := by
  refine Ct.of_body Try.func21 rfl (nt := 11) rfl (by kernel_rfl) rfl ?_
  intro N0 w0 R
  refine Cx.seq (fun K1 k1 => ?_)
  refine Cx.region ?_
  refine Lx.y (mv rfl) rfl ?_
  refine Lx.y (Yx.ff (neNilP Try.underlying26 rfl rfl) rfl) rfl ?_
  refine Lx.nil ?_
  refine Xx.tn (k1 _ _ _ _ ?_)
  refine Cx.condF rfl ?_
  refine Cx.skip ?_
  exact Xx.end0 rfl ⟨rfl, rfl, rfl⟩ (Frag.le_refl _) rfl

set_option maxHeartbeats 1000000 in
theorem Crash_nil (mask : BitVec 64) (torn : Int) (B : Frag) : CtP Try.prog 17 [.pointer none, u64 mask, i64 torn] B (.tuple #[]) := by
  refine CtB.of_body Try.func17 rfl (nt := 52) rfl (by kernel_rfl) rfl ?_
  intro N0 w0 R
  refine Cx.seq (fun K1 k1 => ?_)
  refine Cx.region ?_
  refine Lx.new (boxO rfl rfl) rfl (fun tb => ?_)
  refine Lx.nil ?_
  refine Xx.tn (k1 _ _ _ _ ?_)
  refine Cx.seq (fun K2 k2 => ?_)
  refine Cx.seq (fun K3 k3 => ?_)
  refine Cx.region ?_
  refine Lx.y (mv rfl) rfl ?_
  refine Lx.y (Yx.tt (eqNilP Try.underlying26 rfl rfl) rfl) rfl ?_
  refine Lx.y (mv rfl) rfl ?_
  refine Lx.gF rfl rfl rfl rfl ?_
  refine Lx.gF rfl rfl rfl rfl ?_
  refine Lx.gF rfl rfl rfl rfl ?_
  refine Lx.gF rfl rfl rfl rfl ?_
  refine Lx.y (pickT rfl rfl) rfl ?_
  refine Lx.nil ?_
  refine Xx.tn (k3 _ _ _ _ ?_)
  refine Cx.condT rfl ?_
  refine Cx.ret ?_
  refine Xx.tr ?_
  exact Xx.dropB tb (Xx.rB0 rfl ⟨rfl, rfl⟩ (Frag.le_refl _) rfl)

set_option maxHeartbeats 1000000 in
theorem Append_nil (n : Int) (s : List UInt8) (B : Frag) : CtP Try.prog 15 [.pointer none, i64 n, str s] B (.tuple #[i64 0, i64 7]) := by
  refine CtB.of_body Try.func15 rfl (nt := 82) rfl (by kernel_rfl) rfl ?_
  intro N0 w0 R
  refine Cx.seq (fun K1 k1 => ?_)
  refine Cx.region ?_
  refine Lx.y (asg rfl) rfl ?_
  refine Lx.y (asg rfl) rfl ?_
  refine Lx.nil ?_
  refine Xx.tn (k1 _ _ _ _ ?_)
  refine Cx.seq (fun K2 k2 => ?_)
  refine Cx.block ?_
  refine Cx.seq (fun K3 k3 => ?_)
  refine Cx.region ?_
  refine Lx.y (mv rfl) rfl ?_
  refine Lx.y (Yx.tt (eqNilP Try.underlying26 rfl rfl) rfl) rfl ?_
  refine Lx.y (mv rfl) rfl ?_
  refine Lx.gF rfl rfl rfl rfl ?_
  refine Lx.gF rfl rfl rfl rfl ?_
  refine Lx.gF rfl rfl rfl rfl ?_
  refine Lx.gF rfl rfl rfl rfl ?_
  refine Lx.y (pickT rfl rfl) rfl ?_
  refine Lx.y (asg rfl) rfl ?_
  refine Lx.nil ?_
  refine Xx.tn (k3 _ _ _ _ ?_)
  refine Cx.condT rfl ?_
  refine Cx.seq (fun K4 k4 => ?_)
  refine Cx.region ?_
  refine Lx.y (asg rfl) rfl ?_
  refine Lx.y (asg rfl) rfl ?_
  refine Lx.nil ?_
  refine Xx.tn (k4 _ _ _ _ ?_)
  refine Cx.ret ?_
  refine Xx.br ?_
  refine Xx.tr ?_
  exact Xx.rB2 rfl rfl rfl ⟨rfl, rfl⟩ (Frag.le_refl _) rfl

set_option maxHeartbeats 1000000 in
theorem file_nil (n : Int) (B : Frag) : CtP Try.prog 47 [.pointer none, i64 n] B (.tuple #[.pointer none, i64 7]) := by
  refine CtB.of_body Try.func47 rfl (nt := 24) rfl (by kernel_rfl) rfl ?_
  intro N0 w0 R
  refine Cx.seq (fun K1 k1 => ?_)
  refine Cx.region ?_
  refine Lx.y (asg rfl) rfl ?_
  refine Lx.y (asg rfl) rfl ?_
  refine Lx.nil ?_
  refine Xx.tn (k1 _ _ _ _ ?_)
  refine Cx.seq (fun K2 k2 => ?_)
  refine Cx.seq (fun K3 k3 => ?_)
  refine Cx.region ?_
  refine Lx.y (mv rfl) rfl ?_
  refine Lx.y (Yx.tt (eqNilP Try.underlying26 rfl rfl) rfl) rfl ?_
  refine Lx.y (mv rfl) rfl ?_
  refine Lx.gF rfl rfl rfl rfl ?_
  refine Lx.gF rfl rfl rfl rfl ?_
  refine Lx.gF rfl rfl rfl rfl ?_
  refine Lx.gF rfl rfl rfl rfl ?_
  refine Lx.y (pickT rfl rfl) rfl ?_
  refine Lx.nil ?_
  refine Xx.tn (k3 _ _ _ _ ?_)
  refine Cx.condT rfl ?_
  refine Cx.seq (fun K4 k4 => ?_)
  refine Cx.region ?_
  refine Lx.y (asg rfl) rfl ?_
  refine Lx.y (asg rfl) rfl ?_
  refine Lx.nil ?_
  refine Xx.tn (k4 _ _ _ _ ?_)
  refine Cx.ret ?_
  refine Xx.tr ?_
  exact Xx.rB2 rfl rfl rfl ⟨rfl, rfl⟩ (Frag.le_refl _) rfl

set_option maxHeartbeats 1000000 in
theorem Read_nil (n : Int) (B : Frag) : CtP Try.prog 14 [.pointer none, i64 n] B (.tuple #[str [], i64 7]) := by
  refine CtB.of_body Try.func14 rfl (nt := 22) rfl (by kernel_rfl) rfl ?_
  intro N0 w0 R
  refine Cx.seq (fun K1 k1 => ?_)
  refine Cx.region ?_
  refine Lx.y (asg rfl) rfl ?_
  refine Lx.y (asg rfl) rfl ?_
  refine Lx.nil ?_
  refine Xx.tn (k1 _ _ _ _ ?_)
  refine Cx.seq (fun K2 k2 => ?_)
  refine Cx.region ?_
  refine Lx.y (mv rfl) rfl ?_
  refine Lx.y (mv rfl) rfl ?_
  refine Lx.cp rfl rfl rfl (file_nil _ _) rfl ?_
  refine Lx.y (mv rfl) rfl ?_
  refine Lx.y (ext rfl rfl) rfl ?_
  refine Lx.y (ext rfl rfl) rfl ?_
  refine Lx.y (asg rfl) rfl ?_
  refine Lx.y (asg rfl) rfl ?_
  refine Lx.nil ?_
  refine Xx.tn (k2 _ _ _ _ ?_)
  refine Cx.seq (fun K3 k3 => ?_)
  refine Cx.seq (fun K4 k4 => ?_)
  refine Cx.region ?_
  refine Lx.y (mv rfl) rfl ?_
  refine Lx.y (Yx.tt (neI rfl rfl) rfl) rfl ?_
  refine Lx.nil ?_
  refine Xx.tn (k4 _ _ _ _ ?_)
  refine Cx.condT rfl ?_
  refine Cx.seq (fun K5 k5 => ?_)
  refine Cx.region ?_
  refine Lx.y (mv rfl) rfl ?_
  refine Lx.y (asg rfl) rfl ?_
  refine Lx.y (asg rfl) rfl ?_
  refine Lx.nil ?_
  refine Xx.tn (k5 _ _ _ _ ?_)
  refine Cx.ret ?_
  refine Xx.tr ?_
  exact Xx.rB2 rfl rfl rfl ⟨rfl, rfl⟩ (Frag.le_refl _) rfl

set_option maxHeartbeats 1000000 in
theorem Write_nil (n a : Int) (s : List UInt8) (B : Frag) : CtP Try.prog 24 [.pointer none, i64 n, i64 a, str s] B (i64 7) := by
  refine CtB.of_body Try.func24 rfl (nt := 60) rfl (by kernel_rfl) rfl ?_
  intro N0 w0 R
  refine Cx.seq (fun K1 k1 => ?_)
  refine Cx.region ?_
  refine Lx.y (asg rfl) rfl ?_
  refine Lx.nil ?_
  refine Xx.tn (k1 _ _ _ _ ?_)
  refine Cx.seq (fun K2 k2 => ?_)
  refine Cx.region ?_
  refine Lx.y (mv rfl) rfl ?_
  refine Lx.y (mv rfl) rfl ?_
  refine Lx.cp rfl rfl rfl (file_nil _ _) rfl ?_
  refine Lx.y (mv rfl) rfl ?_
  refine Lx.y (ext rfl rfl) rfl ?_
  refine Lx.y (ext rfl rfl) rfl ?_
  refine Lx.y (asg rfl) rfl ?_
  refine Lx.y (asg rfl) rfl ?_
  refine Lx.nil ?_
  refine Xx.tn (k2 _ _ _ _ ?_)
  refine Cx.seq (fun K3 k3 => ?_)
  refine Cx.seq (fun K4 k4 => ?_)
  refine Cx.region ?_
  refine Lx.y (mv rfl) rfl ?_
  refine Lx.y (Yx.tt (neI rfl rfl) rfl) rfl ?_
  refine Lx.nil ?_
  refine Xx.tn (k4 _ _ _ _ ?_)
  refine Cx.condT rfl ?_
  refine Cx.seq (fun K5 k5 => ?_)
  refine Cx.region ?_
  refine Lx.y (mv rfl) rfl ?_
  refine Lx.y (asg rfl) rfl ?_
  refine Lx.nil ?_
  refine Xx.tn (k5 _ _ _ _ ?_)
  refine Cx.ret ?_
  refine Xx.tr ?_
  exact Xx.rB1 rfl rfl ⟨rfl, rfl⟩ (Frag.le_refl _) rfl

set_option maxHeartbeats 1000000 in
theorem Sync_nil (n : Int) (B : Frag) : CtP Try.prog 13 [.pointer none, i64 n] B (i64 7) := by
  refine CtB.of_body Try.func13 rfl (nt := 29) rfl (by kernel_rfl) rfl ?_
  intro N0 w0 R
  refine Cx.seq (fun K1 k1 => ?_)
  refine Cx.region ?_
  refine Lx.y (asg rfl) rfl ?_
  refine Lx.nil ?_
  refine Xx.tn (k1 _ _ _ _ ?_)
  refine Cx.seq (fun K2 k2 => ?_)
  refine Cx.region ?_
  refine Lx.y (mv rfl) rfl ?_
  refine Lx.y (mv rfl) rfl ?_
  refine Lx.cp rfl rfl rfl (file_nil _ _) rfl ?_
  refine Lx.y (mv rfl) rfl ?_
  refine Lx.y (ext rfl rfl) rfl ?_
  refine Lx.y (ext rfl rfl) rfl ?_
  refine Lx.y (asg rfl) rfl ?_
  refine Lx.y (asg rfl) rfl ?_
  refine Lx.nil ?_
  refine Xx.tn (k2 _ _ _ _ ?_)
  refine Cx.seq (fun K3 k3 => ?_)
  refine Cx.seq (fun K4 k4 => ?_)
  refine Cx.region ?_
  refine Lx.y (mv rfl) rfl ?_
  refine Lx.y (Yx.tt (neI rfl rfl) rfl) rfl ?_
  refine Lx.nil ?_
  refine Xx.tn (k4 _ _ _ _ ?_)
  refine Cx.condT rfl ?_
  refine Cx.seq (fun K5 k5 => ?_)
  refine Cx.region ?_
  refine Lx.y (mv rfl) rfl ?_
  refine Lx.y (asg rfl) rfl ?_
  refine Lx.nil ?_
  refine Xx.tn (k5 _ _ _ _ ?_)
  refine Cx.ret ?_
  refine Xx.tr ?_
  exact Xx.rB1 rfl rfl ⟨rfl, rfl⟩ (Frag.le_refl _) rfl

set_option maxHeartbeats 1000000 in
theorem Cut_nil (n a : Int) (B : Frag) : CtP Try.prog 25 [.pointer none, i64 n, i64 a] B (i64 7) := by
  refine CtB.of_body Try.func25 rfl (nt := 51) rfl (by kernel_rfl) rfl ?_
  intro N0 w0 R
  refine Cx.seq (fun K1 k1 => ?_)
  refine Cx.region ?_
  refine Lx.y (asg rfl) rfl ?_
  refine Lx.nil ?_
  refine Xx.tn (k1 _ _ _ _ ?_)
  refine Cx.seq (fun K2 k2 => ?_)
  refine Cx.region ?_
  refine Lx.y (mv rfl) rfl ?_
  refine Lx.y (mv rfl) rfl ?_
  refine Lx.cp rfl rfl rfl (file_nil _ _) rfl ?_
  refine Lx.y (mv rfl) rfl ?_
  refine Lx.y (ext rfl rfl) rfl ?_
  refine Lx.y (ext rfl rfl) rfl ?_
  refine Lx.y (asg rfl) rfl ?_
  refine Lx.y (asg rfl) rfl ?_
  refine Lx.nil ?_
  refine Xx.tn (k2 _ _ _ _ ?_)
  refine Cx.seq (fun K3 k3 => ?_)
  refine Cx.seq (fun K4 k4 => ?_)
  refine Cx.region ?_
  refine Lx.y (mv rfl) rfl ?_
  refine Lx.y (Yx.tt (neI rfl rfl) rfl) rfl ?_
  refine Lx.nil ?_
  refine Xx.tn (k4 _ _ _ _ ?_)
  refine Cx.condT rfl ?_
  refine Cx.seq (fun K5 k5 => ?_)
  refine Cx.region ?_
  refine Lx.y (mv rfl) rfl ?_
  refine Lx.y (asg rfl) rfl ?_
  refine Lx.nil ?_
  refine Xx.tn (k5 _ _ _ _ ?_)
  refine Cx.ret ?_
  refine Xx.tr ?_
  exact Xx.rB1 rfl rfl ⟨rfl, rfl⟩ (Frag.le_refl _) rfl

set_option maxHeartbeats 1000000 in
theorem Remove_nil (n : Int) (B : Frag) : CtP Try.prog 26 [.pointer none, i64 n] B (i64 7) := by
  refine CtB.of_body Try.func26 rfl (nt := 23) rfl (by kernel_rfl) rfl ?_
  intro N0 w0 R
  refine Cx.seq (fun K1 k1 => ?_)
  refine Cx.region ?_
  refine Lx.y (asg rfl) rfl ?_
  refine Lx.nil ?_
  refine Xx.tn (k1 _ _ _ _ ?_)
  refine Cx.seq (fun K2 k2 => ?_)
  refine Cx.seq (fun K3 k3 => ?_)
  refine Cx.region ?_
  refine Lx.y (mv rfl) rfl ?_
  refine Lx.y (mv rfl) rfl ?_
  refine Lx.cp rfl rfl rfl (file_nil _ _) rfl ?_
  refine Lx.y (mv rfl) rfl ?_
  refine Lx.y (ext rfl rfl) rfl ?_
  refine Lx.y (ext rfl rfl) rfl ?_
  refine Lx.y (asg rfl) rfl ?_
  refine Lx.y (asg rfl) rfl ?_
  refine Lx.nil ?_
  refine Xx.tn (k3 _ _ _ _ ?_)
  refine Cx.seq (fun K4 k4 => ?_)
  refine Cx.region ?_
  refine Lx.y (mv rfl) rfl ?_
  refine Lx.y (Yx.tt (neI rfl rfl) rfl) rfl ?_
  refine Lx.nil ?_
  refine Xx.tn (k4 _ _ _ _ ?_)
  refine Cx.condT rfl ?_
  refine Cx.seq (fun K5 k5 => ?_)
  refine Cx.region ?_
  refine Lx.y (mv rfl) rfl ?_
  refine Lx.y (asg rfl) rfl ?_
  refine Lx.nil ?_
  refine Xx.tn (k5 _ _ _ _ ?_)
  refine Cx.ret ?_
  refine Xx.tr ?_
  exact Xx.rB1 rfl rfl ⟨rfl, rfl⟩ (Frag.le_refl _) rfl

set_option maxHeartbeats 1000000 in
theorem Files_nil  (B : Frag) : CtP Try.prog 12 [.pointer none] B (.slice none 0 0) := by
  refine CtB.of_body Try.func12 rfl (nt := 11) rfl (by kernel_rfl) rfl ?_
  intro N0 w0 R
  refine Cx.seq (fun K1 k1 => ?_)
  refine Cx.region ?_
  refine Lx.y (asg rfl) rfl ?_
  refine Lx.nil ?_
  refine Xx.tn (k1 _ _ _ _ ?_)
  refine Cx.seq (fun K2 k2 => ?_)
  refine Cx.seq (fun K3 k3 => ?_)
  refine Cx.region ?_
  refine Lx.y (mv rfl) rfl ?_
  refine Lx.y (Yx.tt (eqNilP Try.underlying26 rfl rfl) rfl) rfl ?_
  refine Lx.nil ?_
  refine Xx.tn (k3 _ _ _ _ ?_)
  refine Cx.condT rfl ?_
  refine Cx.seq (fun K4 k4 => ?_)
  refine Cx.region ?_
  refine Lx.y (asg rfl) rfl ?_
  refine Lx.nil ?_
  refine Xx.tn (k4 _ _ _ _ ?_)
  refine Cx.ret ?_
  refine Xx.tr ?_
  exact Xx.rB1 rfl rfl ⟨rfl, rfl⟩ (Frag.le_refl _) rfl

set_option maxHeartbeats 1000000 in
theorem Used_nil  (B : Frag) : CtP Try.prog 27 [.pointer none] B (i64 0) := by
  refine CtB.of_body Try.func27 rfl (nt := 26) rfl (by kernel_rfl) rfl ?_
  intro N0 w0 R
  refine Cx.seq (fun K1 k1 => ?_)
  refine Cx.region ?_
  refine Lx.y (asg rfl) rfl ?_
  refine Lx.nil ?_
  refine Xx.tn (k1 _ _ _ _ ?_)
  refine Cx.seq (fun K2 k2 => ?_)
  refine Cx.seq (fun K3 k3 => ?_)
  refine Cx.region ?_
  refine Lx.y (mv rfl) rfl ?_
  refine Lx.y (Yx.tt (eqNilP Try.underlying26 rfl rfl) rfl) rfl ?_
  refine Lx.nil ?_
  refine Xx.tn (k3 _ _ _ _ ?_)
  refine Cx.condT rfl ?_
  refine Cx.seq (fun K4 k4 => ?_)
  refine Cx.region ?_
  refine Lx.y (asg rfl) rfl ?_
  refine Lx.nil ?_
  refine Xx.tn (k4 _ _ _ _ ?_)
  refine Cx.ret ?_
  refine Xx.tr ?_
  exact Xx.rB1 rfl rfl ⟨rfl, rfl⟩ (Frag.le_refl _) rfl

set_option maxHeartbeats 1000000 in
theorem Dead_nil  (B : Frag) : CtP Try.prog 28 [.pointer none] B (.bool true) := by
  refine CtB.of_body Try.func28 rfl (nt := 11) rfl (by kernel_rfl) rfl ?_
  intro N0 w0 R
  refine Cx.seq (fun K1 k1 => ?_)
  refine Cx.region ?_
  refine Lx.y (asg rfl) rfl ?_
  refine Lx.nil ?_
  refine Xx.tn (k1 _ _ _ _ ?_)
  refine Cx.seq (fun K2 k2 => ?_)
  refine Cx.region ?_
  refine Lx.y (mv rfl) rfl ?_
  refine Lx.y (Yx.tt (eqNilP Try.underlying26 rfl rfl) rfl) rfl ?_
  refine Lx.y (mv rfl) rfl ?_
  refine Lx.gF rfl rfl rfl rfl ?_
  refine Lx.gF rfl rfl rfl rfl ?_
  refine Lx.gF rfl rfl rfl rfl ?_
  refine Lx.gF rfl rfl rfl rfl ?_
  refine Lx.y (pickT rfl rfl) rfl ?_
  refine Lx.y (asg rfl) rfl ?_
  refine Lx.nil ?_
  refine Xx.tn (k2 _ _ _ _ ?_)
  refine Cx.ret ?_
  exact Xx.rB1 rfl rfl ⟨rfl, rfl⟩ (Frag.le_refl _) rfl

set_option maxHeartbeats 1000000 in
theorem Up_nil  (B : Frag) : CtP Try.prog 18 [.pointer none] B (.bool false) := by
  refine CtB.of_body Try.func18 rfl (nt := 15) rfl (by kernel_rfl) rfl ?_
  intro N0 w0 R
  refine Cx.seq (fun K1 k1 => ?_)
  refine Cx.region ?_
  refine Lx.y (asg rfl) rfl ?_
  refine Lx.nil ?_
  refine Xx.tn (k1 _ _ _ _ ?_)
  refine Cx.seq (fun K2 k2 => ?_)
  refine Cx.seq (fun K3 k3 => ?_)
  refine Cx.region ?_
  refine Lx.y (mv rfl) rfl ?_
  refine Lx.y (Yx.tt (eqNilP Try.underlying26 rfl rfl) rfl) rfl ?_
  refine Lx.y (mv rfl) rfl ?_
  refine Lx.gF rfl rfl rfl rfl ?_
  refine Lx.gF rfl rfl rfl rfl ?_
  refine Lx.gF rfl rfl rfl rfl ?_
  refine Lx.gF rfl rfl rfl rfl ?_
  refine Lx.gF rfl rfl rfl rfl ?_
  refine Lx.y (pickT rfl rfl) rfl ?_
  refine Lx.nil ?_
  refine Xx.tn (k3 _ _ _ _ ?_)
  refine Cx.condT rfl ?_
  refine Cx.seq (fun K4 k4 => ?_)
  refine Cx.region ?_
  refine Lx.y (asg rfl) rfl ?_
  refine Lx.nil ?_
  refine Xx.tn (k4 _ _ _ _ ?_)
  refine Cx.ret ?_
  refine Xx.tr ?_
  exact Xx.rB1 rfl rfl ⟨rfl, rfl⟩ (Frag.le_refl _) rfl

set_option maxHeartbeats 1000000 in
theorem Changes_nil  (B : Frag) : CtP Try.prog 29 [.pointer none] B (i64 0) := by
  refine CtB.of_body Try.func29 rfl (nt := 9) rfl (by kernel_rfl) rfl ?_
  intro N0 w0 R
  refine Cx.seq (fun K1 k1 => ?_)
  refine Cx.region ?_
  refine Lx.y (asg rfl) rfl ?_
  refine Lx.nil ?_
  refine Xx.tn (k1 _ _ _ _ ?_)
  refine Cx.seq (fun K2 k2 => ?_)
  refine Cx.seq (fun K3 k3 => ?_)
  refine Cx.region ?_
  refine Lx.y (mv rfl) rfl ?_
  refine Lx.y (Yx.tt (eqNilP Try.underlying26 rfl rfl) rfl) rfl ?_
  refine Lx.nil ?_
  refine Xx.tn (k3 _ _ _ _ ?_)
  refine Cx.condT rfl ?_
  refine Cx.seq (fun K4 k4 => ?_)
  refine Cx.region ?_
  refine Lx.y (asg rfl) rfl ?_
  refine Lx.nil ?_
  refine Xx.tn (k4 _ _ _ _ ?_)
  refine Cx.ret ?_
  refine Xx.tr ?_
  exact Xx.rB1 rfl rfl ⟨rfl, rfl⟩ (Frag.le_refl _) rfl

set_option maxHeartbeats 1000000 in
theorem Loose_nil  (B : Frag) : CtP Try.prog 19 [.pointer none] B (i64 0) := by
  refine CtB.of_body Try.func19 rfl (nt := 25) rfl (by kernel_rfl) rfl ?_
  intro N0 w0 R
  refine Cx.seq (fun K1 k1 => ?_)
  refine Cx.region ?_
  refine Lx.y (asg rfl) rfl ?_
  refine Lx.nil ?_
  refine Xx.tn (k1 _ _ _ _ ?_)
  refine Cx.seq (fun K2 k2 => ?_)
  refine Cx.seq (fun K3 k3 => ?_)
  refine Cx.region ?_
  refine Lx.y (mv rfl) rfl ?_
  refine Lx.y (Yx.tt (eqNilP Try.underlying26 rfl rfl) rfl) rfl ?_
  refine Lx.nil ?_
  refine Xx.tn (k3 _ _ _ _ ?_)
  refine Cx.condT rfl ?_
  refine Cx.seq (fun K4 k4 => ?_)
  refine Cx.region ?_
  refine Lx.y (asg rfl) rfl ?_
  refine Lx.nil ?_
  refine Xx.tn (k4 _ _ _ _ ?_)
  refine Cx.ret ?_
  refine Xx.tr ?_
  exact Xx.rB1 rfl rfl ⟨rfl, rfl⟩ (Frag.le_refl _) rfl

set_option maxHeartbeats 1000000 in
theorem Clone_nil  (B : Frag) : CtP Try.prog 23 [.pointer none] B (.pointer none) := by
  refine CtB.of_body Try.func23 rfl (nt := 61) rfl (by kernel_rfl) rfl ?_
  intro N0 w0 R
  refine Cx.seq (fun K1 k1 => ?_)
  refine Cx.region ?_
  refine Lx.y (asg rfl) rfl ?_
  refine Lx.nil ?_
  refine Xx.tn (k1 _ _ _ _ ?_)
  refine Cx.seq (fun K2 k2 => ?_)
  refine Cx.seq (fun K3 k3 => ?_)
  refine Cx.region ?_
  refine Lx.y (mv rfl) rfl ?_
  refine Lx.y (Yx.tt (eqNilP Try.underlying26 rfl rfl) rfl) rfl ?_
  refine Lx.nil ?_
  refine Xx.tn (k3 _ _ _ _ ?_)
  refine Cx.condT rfl ?_
  refine Cx.seq (fun K4 k4 => ?_)
  refine Cx.region ?_
  refine Lx.y (asg rfl) rfl ?_
  refine Lx.nil ?_
  refine Xx.tn (k4 _ _ _ _ ?_)
  refine Cx.ret ?_
  refine Xx.tr ?_
  exact Xx.rB1 rfl rfl ⟨rfl, rfl⟩ (Frag.le_refl _) rfl

set_option maxHeartbeats 4000000 in
theorem Clone_ct (d : Dk) (db : Nat) (B : Frag) (hF : d.abs.Fit) : Ct Try.prog 23 [.pointer (some ⟨db, 0, none⟩)] B (dkH db d) (fun v B' H' => B' = B ∧ ∃ (cb : Nat) (d' : Dk), v = .pointer (some ⟨cb, 0, none⟩) ∧ d'.abs.fs.Perm d.abs.fs ∧ d'.abs = { d.abs with fs := d'.abs.fs } ∧ H' = dkH db d * dkH cb d') := by
  have hpl : d.plan.length ≤ 1000000 := hF.plan
  refine Ct.of_body Try.func23 rfl (nt := 61) rfl (by kernel_rfl) rfl ?_
  intro N0 w0 R
  unfold dkH
  simp only [star_assoc]
  refine Cx.seq (fun K1 k1 => ?_)
  refine Cx.region ?_
  refine Lx.y (asg rfl) rfl ?_
  refine Lx.nil ?_
  refine Xx.tn (k1 _ _ _ _ ?_)
  refine Cx.seq (fun K2 k2 => ?_)
  refine Cx.seq (fun K3 k3 => ?_)
  refine Cx.region ?_
  refine Lx.y (mv rfl) rfl ?_
  refine Lx.y (Yx.ff (eqNilP Try.underlying26 rfl rfl) rfl) rfl ?_
  refine Lx.nil ?_
  refine Xx.tn (k3 _ _ _ _ ?_)
  refine Cx.condF rfl ?_
  refine Cx.skip ?_
  refine Xx.tn (k2 _ _ _ _ ?_)
  refine Cx.seq (fun K4 k4 => ?_)
  refine Cx.drawn (by kernel_rfl) ?_
  refine Dx.p (i := 1) rfl (by kernel_rfl) (mv rfl) rfl ?_
  refine Dx.p (i := 2) rfl (by kernel_rfl) (nilc rfl) rfl ?_
  refine Dx.p (i := 3) rfl (by kernel_rfl) (fa' fo97_1 rfl) rfl ?_
  refine Dx.r (i := 4) rfl (by kernel_rfl) (ld Try.underlying3 rfl rfl rfl) rfl ?_
  refine Dx.p (i := 5) rfl (by kernel_rfl) (mv rfl) rfl ?_
  refine Dx.p (i := 6) rfl (by kernel_rfl) (nilc rfl) rfl ?_
  refine Dx.p (i := 7) rfl (by kernel_rfl) (fa' fo97_2 rfl) rfl ?_
  refine Dx.r (i := 8) rfl (by kernel_rfl) (ld Try.underlying4 rfl rfl rfl) rfl ?_
  refine Dx.p (i := 9) rfl (by kernel_rfl) (mv rfl) rfl ?_
  refine Dx.p (i := 10) rfl (by kernel_rfl) (nilc rfl) rfl ?_
  refine Dx.p (i := 11) rfl (by kernel_rfl) (fa' fo97_3 rfl) rfl ?_
  refine Dx.r (i := 12) rfl (by kernel_rfl) (ld Try.underlying54 rfl rfl rfl) rfl ?_
  refine Dx.p (i := 14) rfl (by kernel_rfl) (mv rfl) rfl ?_
  refine Dx.p (i := 15) rfl (by kernel_rfl) (nilc rfl) rfl ?_
  refine Dx.p (i := 16) rfl (by kernel_rfl) (fa' fo97_4 rfl) rfl ?_
  refine Dx.r (i := 17) rfl (by kernel_rfl) (ld Try.underlying3 rfl rfl rfl) rfl ?_
  refine Dx.two (i := 0) (j := 13) (by kernel_rfl) ?_ ?_
  · skip
    refine Dstep.o (i := 0) rfl (mkM) rfl (fun v B' H' hΦ hB => ?_)
    obtain ⟨mb2, rfl, hBB, rfl⟩ := hΦ
    have hBB2 := hBB.symm
    subst hBB2
    refine ⟨JOk.yes (JOk.yes (JOk.yes (JOk.yes (JOk.top) (ld Try.underlying3 rfl rfl rfl)) (ld Try.underlying4 rfl rfl rfl)) (ld Try.underlying54 rfl rfl rfl)) (ld Try.underlying3 rfl rfl rfl), ?_⟩
    refine Dx.one (i := 13) (by kernel_rfl) ?_
    refine Dstep.o (i := 13) rfl (Ox.call rfl rfl rfl (ClS_ct d.Ap d.plan.length d.cp (d.plan.flatMap scs) _ (plan_all _) (by omega) (by omega)) (pickS _)) rfl (fun v B' H' hΦ hB => ?_)
    obtain ⟨_, rfl, hΦ⟩ := hΦ
    obtain ⟨hBB, A9, c9, rfl, rfl⟩ := hΦ
    have hBB2 := hBB.symm
    subst hBB2
    clear hB
    simp only [star_assoc]
    refine ⟨JOk.yes (JOk.edge (JOk.yes (JOk.yes (JOk.top) (ld Try.underlying3 rfl rfl rfl)) (ld Try.underlying4 rfl rfl rfl)) (by kernel_rfl)) (ld Try.underlying3 rfl rfl rfl), ?_⟩
    refine Dx.p (i := 18) rfl (by kernel_rfl) (bld ti97 pl97 rfl rfl) rfl ?_
    refine Dx.one (i := 19) (by kernel_rfl) ?_
    refine Dstep.o (i := 19) rfl (boxA rfl) rfl (fun v B' H' hΦ hB => ?_)
    obtain ⟨cb, rfl, hBB, rfl⟩ := hΦ; have hBB2 := hBB.symm; subst hBB2; clear hB
    refine ⟨JOk.yes (JOk.yes (JOk.yes (JOk.yes (JOk.top) (ld Try.underlying3 rfl rfl rfl)) (ld Try.underlying4 rfl rfl rfl)) (ld Try.underlying54 rfl rfl rfl)) (ld Try.underlying3 rfl rfl rfl), ?_⟩
    refine Dx.p (i := 20) rfl (by kernel_rfl) (asg rfl) rfl ?_
    refine Dx.done (by kernel_rfl) ?_
    refine Xx.tn (k4 _ _ _ _ ?_)
    refine Cx.seq (fun K5 k5 => ?_)
    refine Cx.seq (fun K6 k6 => ?_)
    refine Cx.region ?_
    refine Lx.y (mv rfl) rfl ?_
    refine Lx.y (nilc rfl) rfl ?_
    refine Lx.y (fa' fo97_0 rfl) rfl ?_
    refine Lx.y (ld Try.underlying94 rfl rfl rfl) rfl ?_
    refine Xx.openF d.mb fun Z c hS hZ => ?_
    refine Lx.o (rgM Try.underlying94 rfl) rfl (fun v B' H' hΦ hB => ?_)
    obtain ⟨it, rfl, hBB, rfl⟩ := hΦ
    have hBB2 := hBB.symm
    subst hBB2
    clear hB
    refine Lx.nil ?_
    refine Xx.tn (k6 _ _ _ _ ?_)
    refine Cx.block ?_
    refine Cx.loopK (Sub.cons (s := 0) rfl (Sub.cons (s := 2) rfl (Sub.cons (s := 3) rfl (Sub.cons (s := 6) rfl (Sub.cons (s := 7) rfl (Sub.cons (s := 8) rfl (Sub.cons (s := 9) rfl (Sub.cons (s := 10) rfl (Sub.cons (s := 11) rfl (Sub.cons (s := 12) rfl (Sub.cons (s := 13) rfl (Sub.cons (s := 14) rfl (Sub.cons (s := 15) rfl (Sub.cons (s := 16) rfl (Sub.cons (s := 17) rfl (Sub.cons (s := 18) rfl (Sub.cons (s := 19) rfl (Sub.cons (s := 20) rfl (Sub.cons (s := 21) rfl (Sub.cons (s := 22) rfl (Sub.cons (s := 23) rfl (Sub.cons (s := 24) rfl (Sub.cons (s := 25) rfl (Sub.cons (s := 26) rfl (Sub.cons (s := 27) rfl (Sub.cons (s := 28) rfl (Sub.cons (s := 29) rfl (Sub.cons (s := 30) rfl (Sub.cons (s := 31) rfl (Sub.cons (s := 32) rfl (Sub.nil _))))))))))))))))))))))))))))))) (fun m ρ' B' H' => ∃ (dz : List (Fi × Nat)) (fs' : List Fi), (VisF Z dz ∧ fs'.map (·.m) = dz.map (·.1.m)) ∧ m = Z.length - dz.length ∧ ρ' = [] ∧ B = B' ∧ blk it (itObj d.mb c (dz.map (mz fkv))) * (blk d.mb (mapObj (Z.map (mz fkv)) c) * (row db 97 (dcs d) * (sbuf 25 3 d.Ap d.plan.length d.cp (d.plan.flatMap scs) * (fisH d.fs * (row cb 97 [.map (some mb2), i64 d.room, .bool d.dead, .slice A9 d.plan.length c9, i64 ((d.ch : Nat) : Int)] * (imap mb2 (fs'.map fkv) * (sbuf 25 3 A9 d.plan.length c9 (d.plan.flatMap scs) * (fisH fs' * R)))))))) = H') ⟨[], [], ⟨VisF.nil Z, rfl⟩, rfl, rfl, rfl, by unfold fisH; rw [List.map_nil, one_star]; ac_rfl⟩ (Sub.cons (s := 0) rfl (Sub.cons (s := 2) rfl (Sub.cons (s := 3) rfl (Sub.cons (s := 6) rfl (Sub.cons (s := 7) rfl (Sub.cons (s := 8) rfl (Sub.cons (s := 9) rfl (Sub.cons (s := 10) rfl (Sub.cons (s := 11) rfl (Sub.cons (s := 12) rfl (Sub.cons (s := 13) rfl (Sub.cons (s := 14) rfl (Sub.cons (s := 15) rfl (Sub.cons (s := 16) rfl (Sub.cons (s := 17) rfl (Sub.cons (s := 18) rfl (Sub.cons (s := 19) rfl (Sub.cons (s := 20) rfl (Sub.cons (s := 21) rfl (Sub.cons (s := 22) rfl (Sub.cons (s := 23) rfl (Sub.cons (s := 24) rfl (Sub.cons (s := 25) rfl (Sub.cons (s := 26) rfl (Sub.cons (s := 27) rfl (Sub.cons (s := 28) rfl (Sub.cons (s := 29) rfl (Sub.cons (s := 30) rfl (Sub.cons (s := 31) rfl (Sub.cons (s := 32) rfl (Sub.nil _))))))))))))))))))))))))))))))) ?_
    rintro m ρ' B' H' ⟨dz, fs', ⟨hv, hfs⟩, rfl, rfl, rfl, rfl⟩
    refine Cx.seq (fun K7 k7 => ?_)
    refine Cx.region ?_
    refine Lx.o (nxF hS hv rfl) rfl (fun v B' H' hΦ hB => ?_)
    obtain ⟨o, dz2, rfl, ha, hBB, rfl⟩ := hΦ
    have hBB2 := hBB.symm
    subst hBB2
    clear hB
    refine Lx.y (ext rfl (nx0 _)) rfl ?_
    refine Lx.nil ?_
    refine Xx.tn (k7 _ _ _ _ ?_)
    refine Cx.seq (fun K8 k8 => ?_)
    refine Cx.condB rfl (fun h9 => ?_) (fun h9 => ?_)
    · skip
      obtain ⟨z, rfl⟩ : ∃ z, o = some z := by
        cases o with
        | none => exact absurd h9 (by simp)
        | some z => exact ⟨z, rfl⟩
      obtain ⟨rfl, hzZ, hzn⟩ := ha
      have hzf : z.1 ∈ d.fs := by rw [← hZ]; exact List.mem_map.2 ⟨z, hzZ, rfl⟩
      obtain ⟨Rf, hRf⟩ := fisH_mem hzf
      rw [hRf]
      simp only [show fiH z.1 = row z.1.b 102 (fcs z.1) * (sbuf 5 1 z.1.An z.1.m.now.length z.1.cn (u8s z.1.m.now) * (sbuf 5 1 z.1.As z.1.m.sure.length z.1.cs (u8s z.1.m.sure) * sbuf 3 1 z.1.Al z.1.m.loose.length z.1.cl (nv z.1.m.loose))) from rfl, star_assoc]
      have hv2 := hv.step hzZ hzn
      have hvl := hv2.len
      rw [List.length_append, List.length_singleton] at hvl
      have hzo := hF.ok (List.mem_map.2 ⟨_, hzf, rfl⟩)
      have hz3 := hzo.2.2.1
      have hz4 := hzo.2.2.2
      have hz5 := hzo.loose
      have hnf : findF z.1.m.n fs' = none := by
        cases hq : findF z.1.m.n fs' with
        | none => rfl
        | some g =>
          exfalso
          obtain ⟨h1, h2⟩ := findF_mem hq
          have h3 : g.m ∈ dz.map (·.1.m) := by rw [← hfs]; exact List.mem_map.2 ⟨_, h1, rfl⟩
          obtain ⟨y, hy, hye⟩ := List.mem_map.1 h3
          have h4 : (Z.map fun z : Fi × Nat => z.1.m.n).Nodup := by
            have := hF.nd
            rw [show Z.map (fun z : Fi × Nat => z.1.m.n) = d.abs.fs.map (·.n) from by unfold Dk.abs; simp only [← hZ, List.map_map]; rfl]
            exact this
          have h5 : y = z := map_inj _ h4 (hv.1 y hy) hzZ (by show y.1.m.n = z.1.m.n; rw [hye, h2])
          exact hzn (List.mem_map.2 ⟨y, hy, by rw [h5]⟩)
      refine Cx.skip ?_
      refine Xx.tn (k8 _ _ _ _ ?_)
      refine Cx.block ?_
      refine Cx.seq (fun K10 k10 => ?_)
      refine Cx.region ?_
      refine Lx.y (entF hS hzZ rfl) rfl ?_
      refine Lx.y (ext rfl rfl) rfl ?_
      refine Lx.y (ext rfl rfl) rfl ?_
      refine Lx.y (asg rfl) rfl ?_
      refine Lx.y (asg rfl) rfl ?_
      refine Lx.nil ?_
      refine Xx.tn (k10 _ _ _ _ ?_)
      refine Cx.drawn (by kernel_rfl) ?_
      refine Dx.p (i := 0) rfl (by kernel_rfl) (mv rfl) rfl ?_
      refine Dx.p (i := 1) rfl (by kernel_rfl) (nilc rfl) rfl ?_
      refine Dx.p (i := 2) rfl (by kernel_rfl) (fa' fo97_0 rfl) rfl ?_
      refine Dx.r (i := 3) rfl (by kernel_rfl) (ld Try.underlying94 rfl rfl rfl) rfl ?_
      refine Dx.p (i := 4) rfl (by kernel_rfl) (mv rfl) rfl ?_
      refine Dx.p (i := 5) rfl (by kernel_rfl) (mv rfl) rfl ?_
      refine Dx.p (i := 6) rfl (by kernel_rfl) (nilc rfl) rfl ?_
      refine Dx.p (i := 7) rfl (by kernel_rfl) (fa' fo102_0 rfl) rfl ?_
      refine Dx.r (i := 8) rfl (by kernel_rfl) (ld Try.underlying80 rfl rfl rfl) rfl ?_
      refine Dx.p (i := 10) rfl (by kernel_rfl) (mv rfl) rfl ?_
      refine Dx.p (i := 11) rfl (by kernel_rfl) (nilc rfl) rfl ?_
      refine Dx.p (i := 12) rfl (by kernel_rfl) (fa' fo102_1 rfl) rfl ?_
      refine Dx.r (i := 13) rfl (by kernel_rfl) (ld Try.underlying80 rfl rfl rfl) rfl ?_
      refine Dx.p (i := 15) rfl (by kernel_rfl) (mv rfl) rfl ?_
      refine Dx.p (i := 16) rfl (by kernel_rfl) (nilc rfl) rfl ?_
      refine Dx.p (i := 17) rfl (by kernel_rfl) (fa' fo102_2 rfl) rfl ?_
      refine Dx.r (i := 18) rfl (by kernel_rfl) (ld Try.underlying39 rfl rfl rfl) rfl ?_
      refine Dx.one (i := 9) (by kernel_rfl) ?_
      refine Dstep.o (i := 9) rfl (Ox.call rfl rfl rfl (ClB_ct z.1.An z.1.m.now.length z.1.cn (u8s z.1.m.now) _ (u8_all _) (by omega) (by omega)) (pickS _)) rfl (fun v B' H' hΦ hB => ?_)
      obtain ⟨_, rfl, hΦ⟩ := hΦ
      obtain ⟨hBB, A1, c1, rfl, rfl⟩ := hΦ
      have hBB2 := hBB.symm
      subst hBB2
      clear hB
      simp only [star_assoc]
      refine ⟨JOk.yes (JOk.yes (JOk.edge (JOk.yes (JOk.top) (ld Try.underlying94 rfl rfl rfl)) (by kernel_rfl)) (ld Try.underlying80 rfl rfl rfl)) (ld Try.underlying39 rfl rfl rfl), ?_⟩
      refine Dx.one (i := 14) (by kernel_rfl) ?_
      refine Dstep.o (i := 14) rfl (Ox.call rfl rfl rfl (ClB_ct z.1.As z.1.m.sure.length z.1.cs (u8s z.1.m.sure) _ (u8_all _) (by omega) (by omega)) (pickS _)) rfl (fun v B' H' hΦ hB => ?_)
      obtain ⟨_, rfl, hΦ⟩ := hΦ
      obtain ⟨hBB, A2, c2, rfl, rfl⟩ := hΦ
      have hBB2 := hBB.symm
      subst hBB2
      clear hB
      simp only [star_assoc]
      refine ⟨JOk.yes (JOk.edge (JOk.yes (JOk.yes (JOk.top) (ld Try.underlying94 rfl rfl rfl)) (ld Try.underlying80 rfl rfl rfl)) (by kernel_rfl)) (ld Try.underlying39 rfl rfl rfl), ?_⟩
      refine Dx.one (i := 19) (by kernel_rfl) ?_
      refine Dstep.o (i := 19) rfl (Ox.call rfl rfl rfl (ClI_ct z.1.Al z.1.m.loose.length z.1.cl (nv z.1.m.loose) _ (nv_all _) (by omega) (by omega)) (pickS _)) rfl (fun v B' H' hΦ hB => ?_)
      obtain ⟨_, rfl, hΦ⟩ := hΦ
      obtain ⟨hBB, A3, c3, rfl, rfl⟩ := hΦ
      have hBB2 := hBB.symm
      subst hBB2
      clear hB
      simp only [star_assoc]
      refine ⟨JOk.edge (JOk.yes (JOk.yes (JOk.yes (JOk.top) (ld Try.underlying94 rfl rfl rfl)) (ld Try.underlying80 rfl rfl rfl)) (ld Try.underlying80 rfl rfl rfl)) (by kernel_rfl), ?_⟩
      refine Dx.p (i := 20) rfl (by kernel_rfl) (bld ti102 pl102 rfl rfl) rfl ?_
      refine Dx.one (i := 21) (by kernel_rfl) ?_
      refine Dstep.o (i := 21) rfl (boxA rfl) rfl (fun v B' H' hΦ hB => ?_)
      obtain ⟨fb, rfl, hBB, rfl⟩ := hΦ; have hBB2 := hBB.symm; subst hBB2; clear hB
      refine ⟨JOk.yes (JOk.yes (JOk.yes (JOk.yes (JOk.top) (ld Try.underlying94 rfl rfl rfl)) (ld Try.underlying80 rfl rfl rfl)) (ld Try.underlying80 rfl rfl rfl)) (ld Try.underlying39 rfl rfl rfl), ?_⟩
      refine Dx.one (i := 22) (by kernel_rfl) ?_
      refine Dstep.o0 (i := 22) rfl (stM Try.underlying94 Try.underlying3 rfl rfl rfl) (fun v B' H' hΦ hB => ?_)
      obtain ⟨hBB, rfl⟩ := hΦ
      have hBB2 := hBB.symm
      subst hBB2
      refine ⟨JOk.edge (JOk.edge (JOk.edge (JOk.edge (JOk.top) (by kernel_rfl)) (by kernel_rfl)) (by kernel_rfl)) (by kernel_rfl), ?_⟩
      refine Dx.done (by kernel_rfl) ?_
      refine Xx.bn ?_
      exact Xx.againK ⟨dz ++ [z], setF ⟨z.1.m, fb, A1, c1, A2, c2, A3, c3⟩ fs', ⟨hv2, by rw [setF_m, setM_new (findM_none (fs := fs') hnf), hfs, List.map_append]; rfl⟩, rfl, rfl, rfl, (by rw [fisH_new (f' := ⟨z.1.m, fb, A1, c1, A2, c2, A3, c3⟩) hnf, ← mset_set, hRf]; unfold fiH fcs; dsimp only; ac_rfl)⟩ (by rw [List.length_append, List.length_singleton]; omega) (Sub.cons (s := 0) rfl (Sub.cons (s := 2) rfl (Sub.cons (s := 3) rfl (Sub.cons (s := 6) rfl (Sub.cons (s := 7) rfl (Sub.cons (s := 8) rfl (Sub.cons (s := 9) rfl (Sub.cons (s := 10) rfl (Sub.cons (s := 11) rfl (Sub.cons (s := 12) rfl (Sub.cons (s := 13) rfl (Sub.cons (s := 14) rfl (Sub.cons (s := 15) rfl (Sub.cons (s := 16) rfl (Sub.cons (s := 17) rfl (Sub.cons (s := 18) rfl (Sub.cons (s := 19) rfl (Sub.cons (s := 20) rfl (Sub.cons (s := 21) rfl (Sub.cons (s := 22) rfl (Sub.cons (s := 23) rfl (Sub.cons (s := 24) rfl (Sub.cons (s := 25) rfl (Sub.cons (s := 26) rfl (Sub.cons (s := 27) rfl (Sub.cons (s := 28) rfl (Sub.cons (s := 29) rfl (Sub.cons (s := 30) rfl (Sub.cons (s := 31) rfl (Sub.cons (s := 32) rfl (Sub.nil _)))))))))))))))))))))))))))))))
    · skip
      obtain rfl : o = none := by
        cases o with
        | none => rfl
        | some z => exact absurd h9 (by simp)
      obtain ⟨rfl, hall⟩ := ha
      have hp := hv.all hS hall
      rw [hZ] at hp
      refine Cx.exit ?_
      refine Xx.te ?_
      refine Xx.te ?_
      refine Xx.bh ?_
      refine Xx.tn (k5 _ _ _ _ ?_)
      refine Cx.seq (fun K11 k11 => ?_)
      refine Cx.region ?_
      refine Lx.y (mv rfl) rfl ?_
      refine Lx.y (asg rfl) rfl ?_
      refine Lx.nil ?_
      refine Xx.tn (k11 _ _ _ _ ?_)
      refine Cx.ret ?_
      refine Xx.closeF d.mb hS hZ (Xx.dropB it ?_)
      have hper : (fs'.map (·.m)).Perm (d.fs.map (·.m)) := by rw [hfs]; have := hp.map (·.m); rw [List.map_map] at this; exact this
      exact Xx.ret1 rfl rfl ⟨rfl, cb, ⟨fs', d.room, d.dead, d.plan, d.ch, mb2, A9, c9⟩, rfl, hper, rfl, rfl⟩ (Frag.le_refl _) (by unfold dcs; dsimp only; ac_rfl)
  refine Dstep.o (i := 13) rfl (Ox.call rfl rfl rfl (ClS_ct d.Ap d.plan.length d.cp (d.plan.flatMap scs) _ (plan_all _) (by omega) (by omega)) (pickS _)) rfl (fun v B' H' hΦ hB => ?_)
  obtain ⟨_, rfl, hΦ⟩ := hΦ
  obtain ⟨hBB, A9, c9, rfl, rfl⟩ := hΦ
  have hBB2 := hBB.symm
  subst hBB2
  clear hB
  simp only [star_assoc]
  refine ⟨JOk.yes (JOk.edge (JOk.yes (JOk.yes (JOk.top) (ld Try.underlying3 rfl rfl rfl)) (ld Try.underlying4 rfl rfl rfl)) (by kernel_rfl)) (ld Try.underlying3 rfl rfl rfl), ?_⟩
  refine Dx.one (i := 0) (by kernel_rfl) ?_
  refine Dstep.o (i := 0) rfl (mkM) rfl (fun v B' H' hΦ hB => ?_)
  obtain ⟨mb2, rfl, hBB, rfl⟩ := hΦ
  have hBB2 := hBB.symm
  subst hBB2
  refine ⟨JOk.yes (JOk.yes (JOk.yes (JOk.yes (JOk.top) (ld Try.underlying3 rfl rfl rfl)) (ld Try.underlying4 rfl rfl rfl)) (ld Try.underlying54 rfl rfl rfl)) (ld Try.underlying3 rfl rfl rfl), ?_⟩
  refine Dx.p (i := 18) rfl (by kernel_rfl) (bld ti97 pl97 rfl rfl) rfl ?_
  refine Dx.one (i := 19) (by kernel_rfl) ?_
  refine Dstep.o (i := 19) rfl (boxA rfl) rfl (fun v B' H' hΦ hB => ?_)
  obtain ⟨cb, rfl, hBB, rfl⟩ := hΦ; have hBB2 := hBB.symm; subst hBB2; clear hB
  refine ⟨JOk.yes (JOk.yes (JOk.yes (JOk.yes (JOk.top) (ld Try.underlying3 rfl rfl rfl)) (ld Try.underlying4 rfl rfl rfl)) (ld Try.underlying54 rfl rfl rfl)) (ld Try.underlying3 rfl rfl rfl), ?_⟩
  refine Dx.p (i := 20) rfl (by kernel_rfl) (asg rfl) rfl ?_
  refine Dx.done (by kernel_rfl) ?_
  refine Xx.tn (k4 _ _ _ _ ?_)
  refine Cx.seq (fun K12 k12 => ?_)
  refine Cx.seq (fun K13 k13 => ?_)
  refine Cx.region ?_
  refine Lx.y (mv rfl) rfl ?_
  refine Lx.y (nilc rfl) rfl ?_
  refine Lx.y (fa' fo97_0 rfl) rfl ?_
  refine Lx.y (ld Try.underlying94 rfl rfl rfl) rfl ?_
  refine Xx.openF d.mb fun Z c hS hZ => ?_
  refine Lx.o (rgM Try.underlying94 rfl) rfl (fun v B' H' hΦ hB => ?_)
  obtain ⟨it, rfl, hBB, rfl⟩ := hΦ
  have hBB2 := hBB.symm
  subst hBB2
  clear hB
  refine Lx.nil ?_
  refine Xx.tn (k13 _ _ _ _ ?_)
  refine Cx.block ?_
  refine Cx.loopK (Sub.cons (s := 0) rfl (Sub.cons (s := 2) rfl (Sub.cons (s := 3) rfl (Sub.cons (s := 6) rfl (Sub.cons (s := 7) rfl (Sub.cons (s := 8) rfl (Sub.cons (s := 9) rfl (Sub.cons (s := 10) rfl (Sub.cons (s := 11) rfl (Sub.cons (s := 12) rfl (Sub.cons (s := 13) rfl (Sub.cons (s := 14) rfl (Sub.cons (s := 15) rfl (Sub.cons (s := 16) rfl (Sub.cons (s := 17) rfl (Sub.cons (s := 18) rfl (Sub.cons (s := 19) rfl (Sub.cons (s := 20) rfl (Sub.cons (s := 21) rfl (Sub.cons (s := 22) rfl (Sub.cons (s := 23) rfl (Sub.cons (s := 24) rfl (Sub.cons (s := 25) rfl (Sub.cons (s := 26) rfl (Sub.cons (s := 27) rfl (Sub.cons (s := 28) rfl (Sub.cons (s := 29) rfl (Sub.cons (s := 30) rfl (Sub.cons (s := 31) rfl (Sub.cons (s := 32) rfl (Sub.nil _))))))))))))))))))))))))))))))) (fun m ρ' B' H' => ∃ (dz : List (Fi × Nat)) (fs' : List Fi), (VisF Z dz ∧ fs'.map (·.m) = dz.map (·.1.m)) ∧ m = Z.length - dz.length ∧ ρ' = [] ∧ B = B' ∧ blk it (itObj d.mb c (dz.map (mz fkv))) * (blk d.mb (mapObj (Z.map (mz fkv)) c) * (row db 97 (dcs d) * (sbuf 25 3 d.Ap d.plan.length d.cp (d.plan.flatMap scs) * (fisH d.fs * (row cb 97 [.map (some mb2), i64 d.room, .bool d.dead, .slice A9 d.plan.length c9, i64 ((d.ch : Nat) : Int)] * (imap mb2 (fs'.map fkv) * (sbuf 25 3 A9 d.plan.length c9 (d.plan.flatMap scs) * (fisH fs' * R)))))))) = H') ⟨[], [], ⟨VisF.nil Z, rfl⟩, rfl, rfl, rfl, by unfold fisH; rw [List.map_nil, one_star]; ac_rfl⟩ (Sub.cons (s := 0) rfl (Sub.cons (s := 2) rfl (Sub.cons (s := 3) rfl (Sub.cons (s := 6) rfl (Sub.cons (s := 7) rfl (Sub.cons (s := 8) rfl (Sub.cons (s := 9) rfl (Sub.cons (s := 10) rfl (Sub.cons (s := 11) rfl (Sub.cons (s := 12) rfl (Sub.cons (s := 13) rfl (Sub.cons (s := 14) rfl (Sub.cons (s := 15) rfl (Sub.cons (s := 16) rfl (Sub.cons (s := 17) rfl (Sub.cons (s := 18) rfl (Sub.cons (s := 19) rfl (Sub.cons (s := 20) rfl (Sub.cons (s := 21) rfl (Sub.cons (s := 22) rfl (Sub.cons (s := 23) rfl (Sub.cons (s := 24) rfl (Sub.cons (s := 25) rfl (Sub.cons (s := 26) rfl (Sub.cons (s := 27) rfl (Sub.cons (s := 28) rfl (Sub.cons (s := 29) rfl (Sub.cons (s := 30) rfl (Sub.cons (s := 31) rfl (Sub.cons (s := 32) rfl (Sub.nil _))))))))))))))))))))))))))))))) ?_
  rintro m ρ' B' H' ⟨dz, fs', ⟨hv, hfs⟩, rfl, rfl, rfl, rfl⟩
  refine Cx.seq (fun K14 k14 => ?_)
  refine Cx.region ?_
  refine Lx.o (nxF hS hv rfl) rfl (fun v B' H' hΦ hB => ?_)
  obtain ⟨o, dz2, rfl, ha, hBB, rfl⟩ := hΦ
  have hBB2 := hBB.symm
  subst hBB2
  clear hB
  refine Lx.y (ext rfl (nx0 _)) rfl ?_
  refine Lx.nil ?_
  refine Xx.tn (k14 _ _ _ _ ?_)
  refine Cx.seq (fun K15 k15 => ?_)
  refine Cx.condB rfl (fun h16 => ?_) (fun h16 => ?_)
  · skip
    obtain ⟨z, rfl⟩ : ∃ z, o = some z := by
      cases o with
      | none => exact absurd h16 (by simp)
      | some z => exact ⟨z, rfl⟩
    obtain ⟨rfl, hzZ, hzn⟩ := ha
    have hzf : z.1 ∈ d.fs := by rw [← hZ]; exact List.mem_map.2 ⟨z, hzZ, rfl⟩
    obtain ⟨Rf, hRf⟩ := fisH_mem hzf
    rw [hRf]
    simp only [show fiH z.1 = row z.1.b 102 (fcs z.1) * (sbuf 5 1 z.1.An z.1.m.now.length z.1.cn (u8s z.1.m.now) * (sbuf 5 1 z.1.As z.1.m.sure.length z.1.cs (u8s z.1.m.sure) * sbuf 3 1 z.1.Al z.1.m.loose.length z.1.cl (nv z.1.m.loose))) from rfl, star_assoc]
    have hv2 := hv.step hzZ hzn
    have hvl := hv2.len
    rw [List.length_append, List.length_singleton] at hvl
    have hzo := hF.ok (List.mem_map.2 ⟨_, hzf, rfl⟩)
    have hz3 := hzo.2.2.1
    have hz4 := hzo.2.2.2
    have hz5 := hzo.loose
    have hnf : findF z.1.m.n fs' = none := by
      cases hq : findF z.1.m.n fs' with
      | none => rfl
      | some g =>
        exfalso
        obtain ⟨h1, h2⟩ := findF_mem hq
        have h3 : g.m ∈ dz.map (·.1.m) := by rw [← hfs]; exact List.mem_map.2 ⟨_, h1, rfl⟩
        obtain ⟨y, hy, hye⟩ := List.mem_map.1 h3
        have h4 : (Z.map fun z : Fi × Nat => z.1.m.n).Nodup := by
          have := hF.nd
          rw [show Z.map (fun z : Fi × Nat => z.1.m.n) = d.abs.fs.map (·.n) from by unfold Dk.abs; simp only [← hZ, List.map_map]; rfl]
          exact this
        have h5 : y = z := map_inj _ h4 (hv.1 y hy) hzZ (by show y.1.m.n = z.1.m.n; rw [hye, h2])
        exact hzn (List.mem_map.2 ⟨y, hy, by rw [h5]⟩)
    refine Cx.skip ?_
    refine Xx.tn (k15 _ _ _ _ ?_)
    refine Cx.block ?_
    refine Cx.seq (fun K17 k17 => ?_)
    refine Cx.region ?_
    refine Lx.y (entF hS hzZ rfl) rfl ?_
    refine Lx.y (ext rfl rfl) rfl ?_
    refine Lx.y (ext rfl rfl) rfl ?_
    refine Lx.y (asg rfl) rfl ?_
    refine Lx.y (asg rfl) rfl ?_
    refine Lx.nil ?_
    refine Xx.tn (k17 _ _ _ _ ?_)
    refine Cx.drawn (by kernel_rfl) ?_
    refine Dx.p (i := 0) rfl (by kernel_rfl) (mv rfl) rfl ?_
    refine Dx.p (i := 1) rfl (by kernel_rfl) (nilc rfl) rfl ?_
    refine Dx.p (i := 2) rfl (by kernel_rfl) (fa' fo97_0 rfl) rfl ?_
    refine Dx.r (i := 3) rfl (by kernel_rfl) (ld Try.underlying94 rfl rfl rfl) rfl ?_
    refine Dx.p (i := 4) rfl (by kernel_rfl) (mv rfl) rfl ?_
    refine Dx.p (i := 5) rfl (by kernel_rfl) (mv rfl) rfl ?_
    refine Dx.p (i := 6) rfl (by kernel_rfl) (nilc rfl) rfl ?_
    refine Dx.p (i := 7) rfl (by kernel_rfl) (fa' fo102_0 rfl) rfl ?_
    refine Dx.r (i := 8) rfl (by kernel_rfl) (ld Try.underlying80 rfl rfl rfl) rfl ?_
    refine Dx.p (i := 10) rfl (by kernel_rfl) (mv rfl) rfl ?_
    refine Dx.p (i := 11) rfl (by kernel_rfl) (nilc rfl) rfl ?_
    refine Dx.p (i := 12) rfl (by kernel_rfl) (fa' fo102_1 rfl) rfl ?_
    refine Dx.r (i := 13) rfl (by kernel_rfl) (ld Try.underlying80 rfl rfl rfl) rfl ?_
    refine Dx.p (i := 15) rfl (by kernel_rfl) (mv rfl) rfl ?_
    refine Dx.p (i := 16) rfl (by kernel_rfl) (nilc rfl) rfl ?_
    refine Dx.p (i := 17) rfl (by kernel_rfl) (fa' fo102_2 rfl) rfl ?_
    refine Dx.r (i := 18) rfl (by kernel_rfl) (ld Try.underlying39 rfl rfl rfl) rfl ?_
    refine Dx.one (i := 9) (by kernel_rfl) ?_
    refine Dstep.o (i := 9) rfl (Ox.call rfl rfl rfl (ClB_ct z.1.An z.1.m.now.length z.1.cn (u8s z.1.m.now) _ (u8_all _) (by omega) (by omega)) (pickS _)) rfl (fun v B' H' hΦ hB => ?_)
    obtain ⟨_, rfl, hΦ⟩ := hΦ
    obtain ⟨hBB, A1, c1, rfl, rfl⟩ := hΦ
    have hBB2 := hBB.symm
    subst hBB2
    clear hB
    simp only [star_assoc]
    refine ⟨JOk.yes (JOk.yes (JOk.edge (JOk.yes (JOk.top) (ld Try.underlying94 rfl rfl rfl)) (by kernel_rfl)) (ld Try.underlying80 rfl rfl rfl)) (ld Try.underlying39 rfl rfl rfl), ?_⟩
    refine Dx.one (i := 14) (by kernel_rfl) ?_
    refine Dstep.o (i := 14) rfl (Ox.call rfl rfl rfl (ClB_ct z.1.As z.1.m.sure.length z.1.cs (u8s z.1.m.sure) _ (u8_all _) (by omega) (by omega)) (pickS _)) rfl (fun v B' H' hΦ hB => ?_)
    obtain ⟨_, rfl, hΦ⟩ := hΦ
    obtain ⟨hBB, A2, c2, rfl, rfl⟩ := hΦ
    have hBB2 := hBB.symm
    subst hBB2
    clear hB
    simp only [star_assoc]
    refine ⟨JOk.yes (JOk.edge (JOk.yes (JOk.yes (JOk.top) (ld Try.underlying94 rfl rfl rfl)) (ld Try.underlying80 rfl rfl rfl)) (by kernel_rfl)) (ld Try.underlying39 rfl rfl rfl), ?_⟩
    refine Dx.one (i := 19) (by kernel_rfl) ?_
    refine Dstep.o (i := 19) rfl (Ox.call rfl rfl rfl (ClI_ct z.1.Al z.1.m.loose.length z.1.cl (nv z.1.m.loose) _ (nv_all _) (by omega) (by omega)) (pickS _)) rfl (fun v B' H' hΦ hB => ?_)
    obtain ⟨_, rfl, hΦ⟩ := hΦ
    obtain ⟨hBB, A3, c3, rfl, rfl⟩ := hΦ
    have hBB2 := hBB.symm
    subst hBB2
    clear hB
    simp only [star_assoc]
    refine ⟨JOk.edge (JOk.yes (JOk.yes (JOk.yes (JOk.top) (ld Try.underlying94 rfl rfl rfl)) (ld Try.underlying80 rfl rfl rfl)) (ld Try.underlying80 rfl rfl rfl)) (by kernel_rfl), ?_⟩
    refine Dx.p (i := 20) rfl (by kernel_rfl) (bld ti102 pl102 rfl rfl) rfl ?_
    refine Dx.one (i := 21) (by kernel_rfl) ?_
    refine Dstep.o (i := 21) rfl (boxA rfl) rfl (fun v B' H' hΦ hB => ?_)
    obtain ⟨fb, rfl, hBB, rfl⟩ := hΦ; have hBB2 := hBB.symm; subst hBB2; clear hB
    refine ⟨JOk.yes (JOk.yes (JOk.yes (JOk.yes (JOk.top) (ld Try.underlying94 rfl rfl rfl)) (ld Try.underlying80 rfl rfl rfl)) (ld Try.underlying80 rfl rfl rfl)) (ld Try.underlying39 rfl rfl rfl), ?_⟩
    refine Dx.one (i := 22) (by kernel_rfl) ?_
    refine Dstep.o0 (i := 22) rfl (stM Try.underlying94 Try.underlying3 rfl rfl rfl) (fun v B' H' hΦ hB => ?_)
    obtain ⟨hBB, rfl⟩ := hΦ
    have hBB2 := hBB.symm
    subst hBB2
    refine ⟨JOk.edge (JOk.edge (JOk.edge (JOk.edge (JOk.top) (by kernel_rfl)) (by kernel_rfl)) (by kernel_rfl)) (by kernel_rfl), ?_⟩
    refine Dx.done (by kernel_rfl) ?_
    refine Xx.bn ?_
    exact Xx.againK ⟨dz ++ [z], setF ⟨z.1.m, fb, A1, c1, A2, c2, A3, c3⟩ fs', ⟨hv2, by rw [setF_m, setM_new (findM_none (fs := fs') hnf), hfs, List.map_append]; rfl⟩, rfl, rfl, rfl, (by rw [fisH_new (f' := ⟨z.1.m, fb, A1, c1, A2, c2, A3, c3⟩) hnf, ← mset_set, hRf]; unfold fiH fcs; dsimp only; ac_rfl)⟩ (by rw [List.length_append, List.length_singleton]; omega) (Sub.cons (s := 0) rfl (Sub.cons (s := 2) rfl (Sub.cons (s := 3) rfl (Sub.cons (s := 6) rfl (Sub.cons (s := 7) rfl (Sub.cons (s := 8) rfl (Sub.cons (s := 9) rfl (Sub.cons (s := 10) rfl (Sub.cons (s := 11) rfl (Sub.cons (s := 12) rfl (Sub.cons (s := 13) rfl (Sub.cons (s := 14) rfl (Sub.cons (s := 15) rfl (Sub.cons (s := 16) rfl (Sub.cons (s := 17) rfl (Sub.cons (s := 18) rfl (Sub.cons (s := 19) rfl (Sub.cons (s := 20) rfl (Sub.cons (s := 21) rfl (Sub.cons (s := 22) rfl (Sub.cons (s := 23) rfl (Sub.cons (s := 24) rfl (Sub.cons (s := 25) rfl (Sub.cons (s := 26) rfl (Sub.cons (s := 27) rfl (Sub.cons (s := 28) rfl (Sub.cons (s := 29) rfl (Sub.cons (s := 30) rfl (Sub.cons (s := 31) rfl (Sub.cons (s := 32) rfl (Sub.nil _)))))))))))))))))))))))))))))))
  · skip
    obtain rfl : o = none := by
      cases o with
      | none => rfl
      | some z => exact absurd h16 (by simp)
    obtain ⟨rfl, hall⟩ := ha
    have hp := hv.all hS hall
    rw [hZ] at hp
    refine Cx.exit ?_
    refine Xx.te ?_
    refine Xx.te ?_
    refine Xx.bh ?_
    refine Xx.tn (k12 _ _ _ _ ?_)
    refine Cx.seq (fun K18 k18 => ?_)
    refine Cx.region ?_
    refine Lx.y (mv rfl) rfl ?_
    refine Lx.y (asg rfl) rfl ?_
    refine Lx.nil ?_
    refine Xx.tn (k18 _ _ _ _ ?_)
    refine Cx.ret ?_
    refine Xx.closeF d.mb hS hZ (Xx.dropB it ?_)
    have hper : (fs'.map (·.m)).Perm (d.fs.map (·.m)) := by rw [hfs]; have := hp.map (·.m); rw [List.map_map] at this; exact this
    exact Xx.ret1 rfl rfl ⟨rfl, cb, ⟨fs', d.room, d.dead, d.plan, d.ch, mb2, A9, c9⟩, rfl, hper, rfl, rfl⟩ (Frag.le_refl _) (by unfold dcs; dsimp only; ac_rfl)
end DkM
end Go.Proofs.Ytgcebieihmlaoaa
