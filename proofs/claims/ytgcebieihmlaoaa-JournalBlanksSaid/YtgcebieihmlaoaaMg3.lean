/-
  Texts of this seat, one behind the other: DkB, Shelf, DkC, Slw, DkD, DkE, DkF, DkG, Slx, DkH, DkI, DkJ, DkK.
-/
import Derived.Test.YtgcebieihmlaoaaProg
import Derived.Shelf.Sort.Plain
import Derived.Shelf.Strings.Prefix
import Derived.Shelf.Strings.Repeat
import Derived.Shelf.Slices.In.SortNone
import Derived.Deep.AppendSrc
import Derived.Test.YtgcebieihmlaoaaMg2

/-
  A disk: what it is; its small functions.
-/
namespace Go.Proofs.Ytgcebieihmlaoaa
open Go.SL Go.RowKit
set_option linter.unusedVariables false
set_option linter.unusedSimpArgs false
set_option maxRecDepth 100000
open DkA
namespace DkB
theorem sz3 : (Try.prog.info? 3).map (·.size) = some 1 := by kernel_rfl
theorem sz4 : (Try.prog.info? 4).map (·.size) = some 1 := by kernel_rfl
theorem sz5 : (Try.prog.info? 5).map (·.size) = some 1 := by kernel_rfl
theorem sz25 : (Try.prog.info? 25).map (·.size) = some 3 := by kernel_rfl
theorem ti3 : TI Try.prog 3 [.int .i64 0] 1 8 := TI.of (by kernel_rfl) rfl rfl
theorem ti5 : TI Try.prog 5 [.int .u8 0] 1 1 := TI.of (by kernel_rfl) rfl rfl
theorem ti25 : TI Try.prog 25 [.int .i64 0, .int .u64 0, .int .i64 0] 3 24 := TI.of (by kernel_rfl) rfl rfl
theorem ti97 : TI Try.prog 97 [.map none, .int .i64 0, .bool false, .slice none 0 0, .int .i64 0] 5 56 := TI.of (by kernel_rfl) rfl rfl
theorem ti102 : TI Try.prog 102 [.slice none 0 0, .slice none 0 0, .slice none 0 0] 3 72 := TI.of (by kernel_rfl) rfl rfl
theorem fo97_0 : FO Try.prog 97 0 0 1 false := FO.of Try.underlying97 rfl rfl (by kernel_rfl) Try.underlying94 rfl rfl
theorem fo97_1 : FO Try.prog 97 1 1 1 false := FO.of Try.underlying97 rfl rfl (by kernel_rfl) Try.underlying3 rfl rfl
theorem fo97_2 : FO Try.prog 97 2 2 1 false := FO.of Try.underlying97 rfl rfl (by kernel_rfl) Try.underlying4 rfl rfl
theorem fo97_4 : FO Try.prog 97 4 4 1 false := FO.of Try.underlying97 rfl rfl (by kernel_rfl) Try.underlying3 rfl rfl
theorem fo102_0 : FO Try.prog 102 0 0 1 false := FO.of Try.underlying102 rfl rfl (by kernel_rfl) Try.underlying80 rfl rfl
theorem fo102_2 : FO Try.prog 102 2 2 1 false := FO.of Try.underlying102 rfl rfl (by kernel_rfl) Try.underlying39 rfl rfl
theorem pl97 : PL Try.prog 97 [(0, 1), (1, 1), (2, 1), (3, 1), (4, 1)] := PL.of Try.underlying97 (by kernel_rfl)

/-- A file: its number, its bytes, those that are sure, the sectors that are not. -/
structure Fm where
  n : Int
  now : List UInt8
  sure : List UInt8
  loose : List Nat
/-- When the power fails. -/
structure Sk where
  at_ : Int
  mask : BitVec 64
  torn : Int
def scs (x : Sk) : List Value := [i64 x.at_, u64 x.mask, i64 x.torn]
/-- A disk. -/
structure Dm where
  fs : List Fm
  room : Int
  dead : Bool
  plan : List Sk
  ch : Nat
/-- What it is in memory. -/
structure Fi where
  m : Fm
  b : Nat
  An : Option Addr
  cn : Nat
  As : Option Addr
  cs : Nat
  Al : Option Addr
  cl : Nat
structure Dk where
  fs : List Fi
  room : Int
  dead : Bool
  plan : List Sk
  ch : Nat
  mb : Nat
  Ap : Option Addr
  cp : Nat
def Dk.abs (d : Dk) : Dm := ⟨d.fs.map (·.m), d.room, d.dead, d.plan, d.ch⟩
def fcs (f : Fi) : List Value := [.slice f.An f.m.now.length f.cn, .slice f.As f.m.sure.length f.cs, .slice f.Al f.m.loose.length f.cl]
def fiH (f : Fi) : HP := row f.b 102 (fcs f) * (sbuf 5 1 f.An f.m.now.length f.cn (u8s f.m.now) * (sbuf 5 1 f.As f.m.sure.length f.cs (u8s f.m.sure) * sbuf 3 1 f.Al f.m.loose.length f.cl (nv f.m.loose)))
def fkv (f : Fi) : Int × Value := (f.m.n, .pointer (some ⟨f.b, 0, none⟩))
def fisH : List Fi → HP
  | [] => 1
  | f :: fs => fiH f * fisH fs
def dcs (d : Dk) : List Value := [.map (some d.mb), i64 d.room, .bool d.dead, .slice d.Ap d.plan.length d.cp, i64 ((d.ch : Nat) : Int)]
def dkH (db : Nat) (d : Dk) : HP := row db 97 (dcs d) * (imap d.mb (d.fs.map fkv) * (sbuf 25 3 d.Ap d.plan.length d.cp (d.plan.flatMap scs) * fisH d.fs))
/-- It is no greater than can be. -/
structure Dm.Fit (D : Dm) : Prop where
  nd : (D.fs.map (·.n)).Nodup
  rise : ∀ f ∈ D.fs, Rise f.loose
  lim : ∀ f ∈ D.fs, ∀ i ∈ f.loose, i < sec f.now.length
  len : D.fs.length ≤ 1000000
  now : ∀ f ∈ D.fs, f.now.length ≤ 68719476736
  sure : ∀ f ∈ D.fs, f.sure.length ≤ f.now.length
  room : 0 ≤ D.room ∧ D.room ≤ 9223372036854775807
  ch : D.ch ≤ 1152921504606846976
  plan : D.plan.length ≤ 1000000
theorem fisH_mem {fs : List Fi} {f : Fi} (h : f ∈ fs) : ∃ Rf, fisH fs = fiH f * Rf := by
  induction fs with
  | nil => cases h
  | cons g fs ih =>
    rcases List.mem_cons.1 h with rfl | h
    · exact ⟨_, rfl⟩
    · obtain ⟨Rf, e⟩ := ih h
      exact ⟨fiH g * Rf, by show fiH g * fisH fs = _; rw [e, star_left]⟩
def findF (k : Int) : List Fi → Option Fi
  | [] => none
  | f :: fs => if k = f.m.n then some f else findF k fs
def setF (f' : Fi) : List Fi → List Fi
  | [] => [f']
  | f :: fs => if f'.m.n = f.m.n then f' :: fs else f :: setF f' fs
def delF (k : Int) : List Fi → List Fi
  | [] => []
  | f :: fs => if k = f.m.n then fs else f :: delF k fs
def findM (k : Int) : List Fm → Option Fm
  | [] => none
  | f :: fs => if k = f.n then some f else findM k fs
def setM (f' : Fm) : List Fm → List Fm
  | [] => [f']
  | f :: fs => if f'.n = f.n then f' :: fs else f :: setM f' fs
def delM (k : Int) : List Fm → List Fm
  | [] => []
  | f :: fs => if k = f.n then fs else f :: delM k fs
theorem findF_m (k : Int) (fs : List Fi) : (findF k fs).map (·.m) = findM k (fs.map (·.m)) := by
  induction fs with
  | nil => rfl
  | cons f fs ih =>
    simp only [findF, findM, List.map_cons]
    split
    · rfl
    · exact ih
theorem setF_m (f' : Fi) (fs : List Fi) : (setF f' fs).map (·.m) = setM f'.m (fs.map (·.m)) := by
  induction fs with
  | nil => rfl
  | cons f fs ih =>
    simp only [setF, setM, List.map_cons]
    split
    · rfl
    · rw [List.map_cons, ih]
theorem delF_m (k : Int) (fs : List Fi) : (delF k fs).map (·.m) = delM k (fs.map (·.m)) := by
  induction fs with
  | nil => rfl
  | cons f fs ih =>
    simp only [delF, delM, List.map_cons]
    split
    · rfl
    · rw [List.map_cons, ih]
theorem mget_find (k : Int) (fs : List Fi) : mget k (fs.map fkv) = (findF k fs).map fun f => .pointer (some ⟨f.b, 0, none⟩) := by
  induction fs with
  | nil => rfl
  | cons f fs ih =>
    show (if k = f.m.n then _ else _) = _
    simp only [findF]
    split
    · rfl
    · exact ih
theorem mset_set (f' : Fi) (fs : List Fi) : mset f'.m.n (.pointer (some ⟨f'.b, 0, none⟩)) (fs.map fkv) = (setF f' fs).map fkv := by
  induction fs with
  | nil => rfl
  | cons f fs ih =>
    show (if f'.m.n = f.m.n then _ else _) = _
    simp only [setF]
    split
    · rfl
    · rw [ih]; rfl
theorem mdel_del (k : Int) (fs : List Fi) : mdel k (fs.map fkv) = (delF k fs).map fkv := by
  induction fs with
  | nil => rfl
  | cons f fs ih =>
    show (if k = f.m.n then _ else _) = _
    simp only [delF]
    split
    · rfl
    · rw [ih]; rfl
theorem findF_mem {k : Int} {fs : List Fi} {f : Fi} (h : findF k fs = some f) : f ∈ fs ∧ f.m.n = k := by
  induction fs with
  | nil => cases h
  | cons g fs ih =>
    simp only [findF] at h
    split at h
    · rename_i e; cases h; exact ⟨by simp, e.symm⟩
    · obtain ⟨h1, h2⟩ := ih h; exact ⟨by simp [h1], h2⟩
theorem fisH_find {k : Int} {fs : List Fi} {f : Fi} (h : findF k fs = some f) : ∃ Rf, fisH fs = fiH f * Rf ∧ (∀ f', f'.m.n = k → fisH (setF f' fs) = fiH f' * Rf) ∧ fisH (delF k fs) = Rf := by
  induction fs with
  | nil => cases h
  | cons g fs ih =>
    simp only [findF] at h
    split at h
    · rename_i e
      cases h
      exact ⟨_, rfl, fun f' hf => by simp only [setF]; rw [if_pos (hf.trans e)]; rfl, by simp only [delF]; rw [if_pos e]⟩
    · rename_i e
      obtain ⟨Rf, h1, h2, h3⟩ := ih h
      refine ⟨fiH g * Rf, by show fiH g * fisH fs = _; rw [h1, star_left], fun f' hf => ?_, ?_⟩
      · simp only [setF]; rw [if_neg (by rw [hf]; exact e)]
        show fiH g * fisH (setF f' fs) = _
        rw [h2 f' hf, star_left]
      · simp only [delF]; rw [if_neg e]
        show fiH g * fisH (delF k fs) = _
        rw [h3]
theorem fisH_new {fs : List Fi} {f' : Fi} (h : findF f'.m.n fs = none) : fisH (setF f' fs) = fiH f' * fisH fs := by
  induction fs with
  | nil => rfl
  | cons g fs ih =>
    simp only [findF] at h
    split at h
    · cases h
    · rename_i e
      simp only [setF]; rw [if_neg e]
      show fiH g * fisH (setF f' fs) = fiH f' * (fiH g * fisH fs)
      rw [ih h, star_left]
theorem setF_same {k : Int} {fs : List Fi} {f f' : Fi} (h : findF k fs = some f) (hn : f'.m.n = k) (hb : f'.b = f.b) : (setF f' fs).map fkv = fs.map fkv := by
  induction fs with
  | nil => cases h
  | cons g fs ih =>
    simp only [findF] at h
    simp only [setF]
    split at h
    · rename_i e
      cases h
      rw [if_pos (hn.trans e), List.map_cons, List.map_cons]
      congr 1
      unfold fkv
      rw [hn, hb, e]
    · rename_i e
      rw [if_neg (by rw [hn]; exact e), List.map_cons, List.map_cons, ih h]
def usedM (ms : List Fm) : Nat := (ms.map fun m => sec m.now.length).sum
def looseM (ms : List Fm) : Nat := (ms.map fun m => m.loose.length).sum
theorem usedM_snoc (dz : List (Fi × Nat)) (z : Fi × Nat) : usedM ((dz ++ [z]).map (·.1.m)) = usedM (dz.map (·.1.m)) + sec z.1.m.now.length := by
  unfold usedM; rw [List.map_append, List.map_append, List.sum_append]; simp
theorem looseM_snoc (dz : List (Fi × Nat)) (z : Fi × Nat) : looseM ((dz ++ [z]).map (·.1.m)) = looseM (dz.map (·.1.m)) + z.1.m.loose.length := by
  unfold looseM; rw [List.map_append, List.map_append, List.sum_append]; simp
theorem usedM_perm {dz : List (Fi × Nat)} {fs : List Fi} (h : (dz.map (·.1)).Perm fs) : usedM (dz.map (·.1.m)) = usedM (fs.map (·.m)) := by
  unfold usedM
  have := ((h.map (·.m)).map fun m => sec m.now.length).sum_nat
  rw [List.map_map, List.map_map] at this
  rw [List.map_map]
  exact this
theorem looseM_perm {dz : List (Fi × Nat)} {fs : List Fi} (h : (dz.map (·.1)).Perm fs) : looseM (dz.map (·.1.m)) = looseM (fs.map (·.m)) := by
  unfold looseM
  have := ((h.map (·.m)).map fun m => m.loose.length).sum_nat
  rw [List.map_map, List.map_map] at this
  rw [List.map_map]
  exact this
theorem sum_le {α : Type} (g : α → Nat) (k : Nat) : ∀ (l : List α), (∀ x ∈ l, g x ≤ k) → (l.map g).sum ≤ l.length * k := by
  intro l
  induction l with
  | nil => intro _; simp
  | cons x l ih =>
    intro h
    have h1 := h x (by simp)
    have h2 := ih fun y hy => h y (by simp [hy])
    rw [List.map_cons, List.sum_cons, List.length_cons, Nat.succ_mul]; omega
theorem rise_len (l : List Nat) (k : Nat) (hr : Rise l) (hk : ∀ i ∈ l, i < k) : l.length ≤ k := by
  have h1 : l.Nodup := hr.imp (fun h e => by omega)
  have := nodup_len l (List.range k) h1 (fun i hi => List.mem_range.2 (hk i hi))
  rwa [List.length_range] at this
theorem Dm.Fit.loose {D : Dm} (h : D.Fit) {f : Fm} (hf : f ∈ D.fs) : f.loose.length ≤ sec f.now.length := rise_len _ _ (h.rise f hf) (h.lim f hf)
/-- a file as it may be -/
def Fm.Ok (f : Fm) : Prop := Rise f.loose ∧ (∀ i ∈ f.loose, i < sec f.now.length) ∧ f.now.length ≤ 68719476736 ∧ f.sure.length ≤ f.now.length
theorem Dm.Fit.ok {D : Dm} (h : D.Fit) {f : Fm} (hf : f ∈ D.fs) : f.Ok := ⟨h.rise f hf, h.lim f hf, h.now f hf, h.sure f hf⟩
theorem Fm.Ok.loose {f : Fm} (h : f.Ok) : f.loose.length ≤ 1073741825 := by
  have := rise_len _ _ h.1 h.2.1
  have := h.2.2.1
  unfold sec at *; omega

set_option maxHeartbeats 1000000 in
theorem New_ct (n : Int) (B : Frag) : Ct Try.prog 22 [i64 n] B 1 (fun v B' H' => B' = B ∧ ((n < 0 ∧ v = .tuple #[.pointer none, i64 1] ∧ H' = 1) ∨ (0 ≤ n ∧ ∃ db mb, v = .tuple #[.pointer (some ⟨db, 0, none⟩), i64 0] ∧ H' = dkH db ⟨[], n, false, [], 0, mb, none, 0⟩))) := by
  refine Ct.of_body Try.func22 rfl (nt := 10) rfl (by kernel_rfl) rfl ?_
  intro N0 w0 R
  rw [one_star]
  refine Cx.seq (fun K1 k1 => ?_)
  refine Cx.region ?_
  refine Lx.y (asg rfl) rfl ?_
  refine Lx.y (asg rfl) rfl ?_
  refine Lx.nil ?_
  refine Xx.tn (k1 _ _ _ _ ?_)
  refine Cx.seq (fun K2 k2 => ?_)
  refine Cx.seq (fun K3 k3 => ?_)
  refine Cx.region ?_
  refine Lx.y (mv rfl) rfl ?_
  refine Lx.y (lss rfl rfl) rfl ?_
  refine Lx.nil ?_
  refine Xx.tn (k3 _ _ _ _ ?_)
  refine Cx.condD rfl (fun h4 => ?_) (fun h4 => ?_)
  · skip
    have hn := h4
    refine Cx.seq (fun K5 k5 => ?_)
    refine Cx.region ?_
    refine Lx.y (asg rfl) rfl ?_
    refine Lx.y (asg rfl) rfl ?_
    refine Lx.nil ?_
    refine Xx.tn (k5 _ _ _ _ ?_)
    refine Cx.ret ?_
    refine Xx.tr ?_
    exact Xx.ret2 rfl rfl rfl ⟨rfl, .inl ⟨hn, rfl, rfl⟩⟩ (Frag.le_refl _) (by rw [one_star])
  · skip
    have hn := h4
    refine Cx.skip ?_
    refine Xx.tn (k2 _ _ _ _ ?_)
    refine Cx.seq (fun K6 k6 => ?_)
    refine Cx.region ?_
    refine Lx.o (mkM) rfl (fun v B' H' hΦ hB => ?_)
    obtain ⟨mb, rfl, hBB, rfl⟩ := hΦ
    have hBB2 := hBB.symm
    subst hBB2
    clear hB
    refine Lx.y (mv rfl) rfl ?_
    refine Lx.y (bld ti97 pl97 rfl rfl) rfl ?_
    refine Lx.new (boxA rfl) rfl (fun db => ?_)
    refine Lx.y (asg rfl) rfl ?_
    refine Lx.y (asg rfl) rfl ?_
    refine Lx.nil ?_
    refine Xx.tn (k6 _ _ _ _ ?_)
    refine Cx.ret ?_
    exact Xx.ret2 rfl rfl rfl ⟨rfl, .inr ⟨by omega, db, mb, rfl, rfl⟩⟩ (Frag.le_refl _) (by unfold dkH fisH; simp only [List.length_nil, List.flatMap_nil, List.map_nil]; rw [sbuf_nil, one_star, star_one, star_assoc]; rfl)

set_option maxHeartbeats 1000000 in
theorem Used_ct (d : Dk) (db : Nat) (B : Frag) (hF : d.abs.Fit) : CtC Try.prog 27 [.pointer (some ⟨db, 0, none⟩)] B (dkH db d) (i64 ((usedM d.abs.fs : Nat) : Int)) (dkH db d) := by
  refine Ct.of_body Try.func27 rfl (nt := 26) rfl (by kernel_rfl) rfl ?_
  intro N0 w0 R
  unfold dkH
  simp only [star_assoc]
  refine Cx.seq (fun K1 k1 => ?_)
  refine Cx.region ?_
  refine Lx.y (asg rfl) rfl ?_
  refine Lx.nil ?_
  refine Xx.tn (k1 _ _ _ _ ?_)
  refine Cx.seq (fun K2 k2 => ?_)
  refine Cx.seq (fun K3 k3 => ?_)
  refine Cx.region ?_
  refine Lx.y (mv rfl) rfl ?_
  refine Lx.y (Yx.ff (eqNilP Try.underlying26 rfl rfl) rfl) rfl ?_
  refine Lx.nil ?_
  refine Xx.tn (k3 _ _ _ _ ?_)
  refine Cx.condF rfl ?_
  refine Cx.skip ?_
  refine Xx.tn (k2 _ _ _ _ ?_)
  refine Cx.seq (fun K4 k4 => ?_)
  refine Cx.region ?_
  refine Lx.y (asg rfl) rfl ?_
  refine Lx.nil ?_
  refine Xx.tn (k4 _ _ _ _ ?_)
  refine Cx.seq (fun K5 k5 => ?_)
  refine Cx.seq (fun K6 k6 => ?_)
  refine Cx.region ?_
  refine Lx.y (mv rfl) rfl ?_
  refine Lx.y (nilc rfl) rfl ?_
  refine Lx.y (fa' fo97_0 rfl) rfl ?_
  refine Lx.y (ld Try.underlying94 rfl rfl rfl) rfl ?_
  refine Xx.openF d.mb fun Z c hS hZ => ?_
  refine Lx.o (rgM Try.underlying94 rfl) rfl (fun v B' H' hΦ hB => ?_)
  obtain ⟨it, rfl, hBB, rfl⟩ := hΦ
  have hBB2 := hBB.symm
  subst hBB2
  clear hB
  refine Lx.nil ?_
  refine Xx.tn (k6 _ _ _ _ ?_)
  refine Cx.block ?_
  refine Cx.loopK (Sub.cons (s := 0) rfl (Sub.cons (s := 2) rfl (Sub.cons (s := 6) rfl (Sub.cons (s := 7) rfl (Sub.cons (s := 8) rfl (Sub.cons (s := 9) rfl (Sub.cons (s := 10) rfl (Sub.cons (s := 11) rfl (Sub.cons (s := 12) rfl (Sub.nil _)))))))))) (fun m ρ' B' H' => ∃ (dz : List (Fi × Nat)), (VisF Z dz) ∧ m = Z.length - dz.length ∧ ρ' = [(3, i64 ((usedM (dz.map (·.1.m)) : Nat) : Int))] ∧ B = B' ∧ blk it (itObj d.mb c (dz.map (mz fkv))) * (blk d.mb (mapObj (Z.map (mz fkv)) c) * (row db 97 (dcs d) * (sbuf 25 3 d.Ap d.plan.length d.cp (d.plan.flatMap scs) * (fisH d.fs * R)))) = H') ⟨[], VisF.nil Z, rfl, rfl, rfl, rfl⟩ (Sub.cons (s := 3) rfl (Sub.cons (s := 0) rfl (Sub.cons (s := 2) rfl (Sub.cons (s := 6) rfl (Sub.cons (s := 7) rfl (Sub.cons (s := 8) rfl (Sub.cons (s := 9) rfl (Sub.cons (s := 10) rfl (Sub.cons (s := 11) rfl (Sub.cons (s := 12) rfl (Sub.nil _))))))))))) ?_
  rintro m ρ' B' H' ⟨dz, hv, rfl, rfl, rfl, rfl⟩
  refine Cx.seq (fun K7 k7 => ?_)
  refine Cx.region ?_
  refine Lx.o (nxF hS hv rfl) rfl (fun v B' H' hΦ hB => ?_)
  obtain ⟨o, dz2, rfl, ha, hBB, rfl⟩ := hΦ
  have hBB2 := hBB.symm
  subst hBB2
  clear hB
  refine Lx.y (ext rfl (nx0 _)) rfl ?_
  refine Lx.nil ?_
  refine Xx.tn (k7 _ _ _ _ ?_)
  refine Cx.seq (fun K8 k8 => ?_)
  refine Cx.condB rfl (fun h9 => ?_) (fun h9 => ?_)
  · skip
    obtain ⟨z, rfl⟩ : ∃ z, o = some z := by
      cases o with
      | none => exact absurd h9 (by simp)
      | some z => exact ⟨z, rfl⟩
    obtain ⟨rfl, hzZ, hzn⟩ := ha
    have hzf : z.1 ∈ d.fs := by rw [← hZ]; exact List.mem_map.2 ⟨z, hzZ, rfl⟩
    obtain ⟨Rf, hRf⟩ := fisH_mem hzf
    rw [hRf]
    simp only [fiH, star_assoc]
    have hv2 := hv.step hzZ hzn
    have hvl := hv2.len
    rw [List.length_append, List.length_singleton] at hvl
    have hzw := hF.now _ (List.mem_map.2 ⟨_, hzf, rfl⟩)
    have hZl : Z.length = d.fs.length := by rw [← hZ, List.length_map]
    have hfl : d.fs.length ≤ 1000000 := by have := hF.len; unfold Dk.abs at this; simpa using this
    have hdl := hv.len
    have hub : usedM (dz.map (·.1.m)) ≤ dz.length * 1073741825 := by
      have := sum_le (fun m : Fm => sec m.now.length) 1073741825 (dz.map (·.1.m)) (fun m hm => by
        obtain ⟨y, hy, rfl⟩ := List.mem_map.1 hm
        have h9 : y.1 ∈ d.fs := by rw [← hZ]; exact List.mem_map.2 ⟨y, hv.1 y hy, rfl⟩
        have := hF.now _ (List.mem_map.2 ⟨_, h9, rfl⟩)
        show sec _ ≤ _
        unfold sec; omega)
      rw [List.length_map] at this; exact this
    have hsb : sec z.1.m.now.length ≤ 1073741825 := by unfold sec; omega
    refine Cx.skip ?_
    refine Xx.tn (k8 _ _ _ _ ?_)
    refine Cx.block ?_
    refine Cx.seq (fun K10 k10 => ?_)
    refine Cx.region ?_
    refine Lx.y (entF hS hzZ rfl) rfl ?_
    refine Lx.y (ext rfl rfl) rfl ?_
    refine Lx.y (asg rfl) rfl ?_
    refine Lx.nil ?_
    refine Xx.tn (k10 _ _ _ _ ?_)
    refine Cx.region ?_
    refine Lx.y (mv rfl) rfl ?_
    refine Lx.y (mv rfl) rfl ?_
    refine Lx.y (nilc rfl) rfl ?_
    refine Lx.y (fa' fo102_0 rfl) rfl ?_
    refine Lx.y (ld Try.underlying80 rfl rfl rfl) rfl ?_
    refine Lx.y (lenV (ty' := 0) Try.underlying80 rfl) rfl ?_
    refine Lx.cp rfl rfl rfl (sectors_ct z.1.m.now.length _ (by omega)) rfl ?_
    refine Lx.y (Yx.val (add rfl rfl (by first | exact wrap64 (by omega) (by omega) | rfl)) (show _ = i64 ((usedM (dz.map (·.1.m)) + sec z.1.m.now.length : Nat) : Int) from rfl)) rfl ?_
    refine Lx.y (asg rfl) rfl ?_
    refine Lx.nil ?_
    refine Xx.bn ?_
    exact Xx.againK ⟨dz ++ [z], hv2, rfl, rfl, rfl, (by rw [hRf]; simp only [fiH]; ac_rfl)⟩ (by rw [List.length_append, List.length_singleton]; omega) (Sub.consE (s := 3) rfl (by rw [usedM_snoc]) (Sub.cons (s := 0) rfl (Sub.cons (s := 2) rfl (Sub.cons (s := 6) rfl (Sub.cons (s := 7) rfl (Sub.cons (s := 8) rfl (Sub.cons (s := 9) rfl (Sub.cons (s := 10) rfl (Sub.cons (s := 11) rfl (Sub.cons (s := 12) rfl (Sub.nil _)))))))))))
  · skip
    obtain rfl : o = none := by
      cases o with
      | none => rfl
      | some z => exact absurd h9 (by simp)
    obtain ⟨rfl, hall⟩ := ha
    have hp := hv.all hS hall
    rw [hZ] at hp
    refine Cx.exit ?_
    refine Xx.te ?_
    refine Xx.te ?_
    refine Xx.bh ?_
    refine Xx.tn (k5 _ _ _ _ ?_)
    refine Cx.seq (fun K11 k11 => ?_)
    refine Cx.region ?_
    refine Lx.y (mv rfl) rfl ?_
    refine Lx.y (asg rfl) rfl ?_
    refine Lx.nil ?_
    refine Xx.tn (k11 _ _ _ _ ?_)
    refine Cx.ret ?_
    refine Xx.closeF d.mb hS hZ (Xx.dropB it ?_)
    exact Xx.ret1 rfl rfl ⟨by rw [usedM_perm hp]; rfl, rfl, rfl⟩ (Frag.le_refl _) (by ac_rfl)

set_option maxHeartbeats 1000000 in
theorem Loose_ct (d : Dk) (db : Nat) (B : Frag) (hF : d.abs.Fit) : CtC Try.prog 19 [.pointer (some ⟨db, 0, none⟩)] B (dkH db d) (i64 ((looseM d.abs.fs : Nat) : Int)) (dkH db d) := by
  refine Ct.of_body Try.func19 rfl (nt := 25) rfl (by kernel_rfl) rfl ?_
  intro N0 w0 R
  unfold dkH
  simp only [star_assoc]
  refine Cx.seq (fun K1 k1 => ?_)
  refine Cx.region ?_
  refine Lx.y (asg rfl) rfl ?_
  refine Lx.nil ?_
  refine Xx.tn (k1 _ _ _ _ ?_)
  refine Cx.seq (fun K2 k2 => ?_)
  refine Cx.seq (fun K3 k3 => ?_)
  refine Cx.region ?_
  refine Lx.y (mv rfl) rfl ?_
  refine Lx.y (Yx.ff (eqNilP Try.underlying26 rfl rfl) rfl) rfl ?_
  refine Lx.nil ?_
  refine Xx.tn (k3 _ _ _ _ ?_)
  refine Cx.condF rfl ?_
  refine Cx.skip ?_
  refine Xx.tn (k2 _ _ _ _ ?_)
  refine Cx.seq (fun K4 k4 => ?_)
  refine Cx.region ?_
  refine Lx.y (asg rfl) rfl ?_
  refine Lx.nil ?_
  refine Xx.tn (k4 _ _ _ _ ?_)
  refine Cx.seq (fun K5 k5 => ?_)
  refine Cx.seq (fun K6 k6 => ?_)
  refine Cx.region ?_
  refine Lx.y (mv rfl) rfl ?_
  refine Lx.y (nilc rfl) rfl ?_
  refine Lx.y (fa' fo97_0 rfl) rfl ?_
  refine Lx.y (ld Try.underlying94 rfl rfl rfl) rfl ?_
  refine Xx.openF d.mb fun Z c hS hZ => ?_
  refine Lx.o (rgM Try.underlying94 rfl) rfl (fun v B' H' hΦ hB => ?_)
  obtain ⟨it, rfl, hBB, rfl⟩ := hΦ
  have hBB2 := hBB.symm
  subst hBB2
  clear hB
  refine Lx.nil ?_
  refine Xx.tn (k6 _ _ _ _ ?_)
  refine Cx.block ?_
  refine Cx.loopK (Sub.cons (s := 0) rfl (Sub.cons (s := 2) rfl (Sub.cons (s := 6) rfl (Sub.cons (s := 7) rfl (Sub.cons (s := 8) rfl (Sub.cons (s := 9) rfl (Sub.cons (s := 10) rfl (Sub.cons (s := 11) rfl (Sub.cons (s := 12) rfl (Sub.nil _)))))))))) (fun m ρ' B' H' => ∃ (dz : List (Fi × Nat)), (VisF Z dz) ∧ m = Z.length - dz.length ∧ ρ' = [(3, i64 ((looseM (dz.map (·.1.m)) : Nat) : Int))] ∧ B = B' ∧ blk it (itObj d.mb c (dz.map (mz fkv))) * (blk d.mb (mapObj (Z.map (mz fkv)) c) * (row db 97 (dcs d) * (sbuf 25 3 d.Ap d.plan.length d.cp (d.plan.flatMap scs) * (fisH d.fs * R)))) = H') ⟨[], VisF.nil Z, rfl, rfl, rfl, rfl⟩ (Sub.cons (s := 3) rfl (Sub.cons (s := 0) rfl (Sub.cons (s := 2) rfl (Sub.cons (s := 6) rfl (Sub.cons (s := 7) rfl (Sub.cons (s := 8) rfl (Sub.cons (s := 9) rfl (Sub.cons (s := 10) rfl (Sub.cons (s := 11) rfl (Sub.cons (s := 12) rfl (Sub.nil _))))))))))) ?_
  rintro m ρ' B' H' ⟨dz, hv, rfl, rfl, rfl, rfl⟩
  refine Cx.seq (fun K7 k7 => ?_)
  refine Cx.region ?_
  refine Lx.o (nxF hS hv rfl) rfl (fun v B' H' hΦ hB => ?_)
  obtain ⟨o, dz2, rfl, ha, hBB, rfl⟩ := hΦ
  have hBB2 := hBB.symm
  subst hBB2
  clear hB
  refine Lx.y (ext rfl (nx0 _)) rfl ?_
  refine Lx.nil ?_
  refine Xx.tn (k7 _ _ _ _ ?_)
  refine Cx.seq (fun K8 k8 => ?_)
  refine Cx.condB rfl (fun h9 => ?_) (fun h9 => ?_)
  · skip
    obtain ⟨z, rfl⟩ : ∃ z, o = some z := by
      cases o with
      | none => exact absurd h9 (by simp)
      | some z => exact ⟨z, rfl⟩
    obtain ⟨rfl, hzZ, hzn⟩ := ha
    have hzf : z.1 ∈ d.fs := by rw [← hZ]; exact List.mem_map.2 ⟨z, hzZ, rfl⟩
    obtain ⟨Rf, hRf⟩ := fisH_mem hzf
    rw [hRf]
    simp only [fiH, star_assoc]
    have hv2 := hv.step hzZ hzn
    have hvl := hv2.len
    rw [List.length_append, List.length_singleton] at hvl
    have hzw := hF.now _ (List.mem_map.2 ⟨_, hzf, rfl⟩)
    have hZl : Z.length = d.fs.length := by rw [← hZ, List.length_map]
    have hfl : d.fs.length ≤ 1000000 := by have := hF.len; unfold Dk.abs at this; simpa using this
    have hdl := hv.len
    have hub : looseM (dz.map (·.1.m)) ≤ dz.length * 1073741825 := by
      have := sum_le (fun m : Fm => m.loose.length) 1073741825 (dz.map (·.1.m)) (fun m hm => by
        obtain ⟨y, hy, rfl⟩ := List.mem_map.1 hm
        have h9 : y.1 ∈ d.fs := by rw [← hZ]; exact List.mem_map.2 ⟨y, hv.1 y hy, rfl⟩
        have h8 := hF.now _ (List.mem_map.2 ⟨_, h9, rfl⟩)
        have h7 := hF.loose (List.mem_map.2 ⟨_, h9, rfl⟩)
        unfold sec at h7
        show y.1.m.loose.length ≤ _
        omega)
      rw [List.length_map] at this; exact this
    have hsb : z.1.m.loose.length ≤ 1073741825 := by
      have h7 := hF.loose (List.mem_map.2 ⟨_, hzf, rfl⟩)
      unfold sec at h7; omega
    refine Cx.skip ?_
    refine Xx.tn (k8 _ _ _ _ ?_)
    refine Cx.block ?_
    refine Cx.seq (fun K10 k10 => ?_)
    refine Cx.region ?_
    refine Lx.y (entF hS hzZ rfl) rfl ?_
    refine Lx.y (ext rfl rfl) rfl ?_
    refine Lx.y (asg rfl) rfl ?_
    refine Lx.nil ?_
    refine Xx.tn (k10 _ _ _ _ ?_)
    refine Cx.region ?_
    refine Lx.y (mv rfl) rfl ?_
    refine Lx.y (mv rfl) rfl ?_
    refine Lx.y (nilc rfl) rfl ?_
    refine Lx.y (fa' fo102_2 rfl) rfl ?_
    refine Lx.y (ld Try.underlying39 rfl rfl rfl) rfl ?_
    refine Lx.y (lenV (ty' := 0) Try.underlying39 rfl) rfl ?_
    refine Lx.y (Yx.val (add rfl rfl (by first | exact wrap64 (by omega) (by omega) | rfl)) (show _ = i64 ((looseM (dz.map (·.1.m)) + z.1.m.loose.length : Nat) : Int) from rfl)) rfl ?_
    refine Lx.y (asg rfl) rfl ?_
    refine Lx.nil ?_
    refine Xx.bn ?_
    exact Xx.againK ⟨dz ++ [z], hv2, rfl, rfl, rfl, (by rw [hRf]; simp only [fiH]; ac_rfl)⟩ (by rw [List.length_append, List.length_singleton]; omega) (Sub.consE (s := 3) rfl (by rw [looseM_snoc]) (Sub.cons (s := 0) rfl (Sub.cons (s := 2) rfl (Sub.cons (s := 6) rfl (Sub.cons (s := 7) rfl (Sub.cons (s := 8) rfl (Sub.cons (s := 9) rfl (Sub.cons (s := 10) rfl (Sub.cons (s := 11) rfl (Sub.cons (s := 12) rfl (Sub.nil _)))))))))))
  · skip
    obtain rfl : o = none := by
      cases o with
      | none => rfl
      | some z => exact absurd h9 (by simp)
    obtain ⟨rfl, hall⟩ := ha
    have hp := hv.all hS hall
    rw [hZ] at hp
    refine Cx.exit ?_
    refine Xx.te ?_
    refine Xx.te ?_
    refine Xx.bh ?_
    refine Xx.tn (k5 _ _ _ _ ?_)
    refine Cx.seq (fun K11 k11 => ?_)
    refine Cx.region ?_
    refine Lx.y (mv rfl) rfl ?_
    refine Lx.y (asg rfl) rfl ?_
    refine Lx.nil ?_
    refine Xx.tn (k11 _ _ _ _ ?_)
    refine Cx.ret ?_
    refine Xx.closeF d.mb hS hZ (Xx.dropB it ?_)
    exact Xx.ret1 rfl rfl ⟨by rw [looseM_perm hp]; rfl, rfl, rfl⟩ (Frag.le_refl _) (by ac_rfl)

set_option maxHeartbeats 1000000 in
theorem Dead_ct (d : Dk) (db : Nat) (B : Frag) : CtC Try.prog 28 [.pointer (some ⟨db, 0, none⟩)] B (dkH db d) (.bool d.dead) (dkH db d) := by
  refine Ct.of_body Try.func28 rfl (nt := 11) rfl (by kernel_rfl) rfl ?_
  intro N0 w0 R
  unfold dkH
  simp only [star_assoc]
  refine Cx.seq (fun K1 k1 => ?_)
  refine Cx.region ?_
  refine Lx.y (asg rfl) rfl ?_
  refine Lx.nil ?_
  refine Xx.tn (k1 _ _ _ _ ?_)
  refine Cx.seq (fun K2 k2 => ?_)
  refine Cx.region ?_
  refine Lx.y (mv rfl) rfl ?_
  refine Lx.y (Yx.ff (eqNilP Try.underlying26 rfl rfl) rfl) rfl ?_
  refine Lx.y (mv rfl) rfl ?_
  refine Lx.gT rfl rfl rfl ?_
  refine Lx.y (mv rfl) rfl ?_
  refine Lx.gT rfl rfl rfl ?_
  refine Lx.y (nilc rfl) rfl ?_
  refine Lx.gT rfl rfl rfl ?_
  refine Lx.y (fa' fo97_2 rfl) rfl ?_
  refine Lx.gT rfl rfl rfl ?_
  refine Lx.y (ld Try.underlying4 rfl rfl rfl) rfl ?_
  refine Lx.y (pickF rfl rfl) rfl ?_
  refine Lx.y (asg rfl) rfl ?_
  refine Lx.nil ?_
  refine Xx.tn (k2 _ _ _ _ ?_)
  refine Cx.ret ?_
  exact Xx.ret1 rfl rfl ⟨rfl, rfl, rfl⟩ (Frag.le_refl _) (by ac_rfl)

set_option maxHeartbeats 1000000 in
theorem Changes_ct (d : Dk) (db : Nat) (B : Frag) : CtC Try.prog 29 [.pointer (some ⟨db, 0, none⟩)] B (dkH db d) (i64 ((d.ch : Nat) : Int)) (dkH db d) := by
  refine Ct.of_body Try.func29 rfl (nt := 9) rfl (by kernel_rfl) rfl ?_
  intro N0 w0 R
  unfold dkH
  simp only [star_assoc]
  refine Cx.seq (fun K1 k1 => ?_)
  refine Cx.region ?_
  refine Lx.y (asg rfl) rfl ?_
  refine Lx.nil ?_
  refine Xx.tn (k1 _ _ _ _ ?_)
  refine Cx.seq (fun K2 k2 => ?_)
  refine Cx.seq (fun K3 k3 => ?_)
  refine Cx.region ?_
  refine Lx.y (mv rfl) rfl ?_
  refine Lx.y (Yx.ff (eqNilP Try.underlying26 rfl rfl) rfl) rfl ?_
  refine Lx.nil ?_
  refine Xx.tn (k3 _ _ _ _ ?_)
  refine Cx.condF rfl ?_
  refine Cx.skip ?_
  refine Xx.tn (k2 _ _ _ _ ?_)
  refine Cx.seq (fun K4 k4 => ?_)
  refine Cx.region ?_
  refine Lx.y (mv rfl) rfl ?_
  refine Lx.y (nilc rfl) rfl ?_
  refine Lx.y (fa' fo97_4 rfl) rfl ?_
  refine Lx.y (ld Try.underlying3 rfl rfl rfl) rfl ?_
  refine Lx.y (asg rfl) rfl ?_
  refine Lx.nil ?_
  refine Xx.tn (k4 _ _ _ _ ?_)
  refine Cx.ret ?_
  exact Xx.ret1 rfl rfl ⟨rfl, rfl, rfl⟩ (Frag.le_refl _) (by ac_rfl)

set_option maxHeartbeats 1000000 in
theorem Up_ct (d : Dk) (db : Nat) (B : Frag) : CtC Try.prog 18 [.pointer (some ⟨db, 0, none⟩)] B (dkH db d) (.bool d.dead) (dkH db {d with dead := false}) := by
  refine Ct.of_body Try.func18 rfl (nt := 15) rfl (by kernel_rfl) rfl ?_
  intro N0 w0 R
  unfold dkH
  simp only [star_assoc]
  refine Cx.seq (fun K1 k1 => ?_)
  refine Cx.region ?_
  refine Lx.y (asg rfl) rfl ?_
  refine Lx.nil ?_
  refine Xx.tn (k1 _ _ _ _ ?_)
  refine Cx.seq (fun K2 k2 => ?_)
  refine Cx.seq (fun K3 k3 => ?_)
  refine Cx.region ?_
  refine Lx.y (mv rfl) rfl ?_
  refine Lx.y (Yx.ff (eqNilP Try.underlying26 rfl rfl) rfl) rfl ?_
  refine Lx.y (mv rfl) rfl ?_
  refine Lx.gT rfl rfl rfl ?_
  refine Lx.y (mv rfl) rfl ?_
  refine Lx.gT rfl rfl rfl ?_
  refine Lx.y (nilc rfl) rfl ?_
  refine Lx.gT rfl rfl rfl ?_
  refine Lx.y (fa' fo97_2 rfl) rfl ?_
  refine Lx.gT rfl rfl rfl ?_
  refine Lx.y (ld Try.underlying4 rfl rfl rfl) rfl ?_
  refine Lx.gT rfl rfl rfl ?_
  refine Lx.y (not' rfl) rfl ?_
  refine Lx.y (pickF rfl rfl) rfl ?_
  refine Lx.nil ?_
  refine Xx.tn (k3 _ _ _ _ ?_)
  refine Cx.condB rfl (fun h4 => ?_) (fun h4 => ?_)
  · skip
    have hd : d.dead = false := by simpa using h4
    refine Cx.seq (fun K5 k5 => ?_)
    refine Cx.region ?_
    refine Lx.y (asg rfl) rfl ?_
    refine Lx.nil ?_
    refine Xx.tn (k5 _ _ _ _ ?_)
    refine Cx.ret ?_
    refine Xx.tr ?_
    exact Xx.ret1 rfl rfl ⟨by rw [hd], rfl, rfl⟩ (Frag.le_refl _) (by obtain ⟨fs, room, dead, plan, ch, mb, Ap, cp⟩ := d; obtain rfl : dead = false := hd; simp only [star_assoc])
  · skip
    have hd : d.dead = true := by simpa using h4
    refine Cx.skip ?_
    refine Xx.tn (k2 _ _ _ _ ?_)
    refine Cx.seq (fun K6 k6 => ?_)
    refine Cx.region ?_
    refine Lx.y (mv rfl) rfl ?_
    refine Lx.y (nilc rfl) rfl ?_
    refine Lx.y (fa' fo97_2 rfl) rfl ?_
    refine Lx.st (stO Try.underlying4 sz4 rfl rfl rfl (by show 2 < 5; omega) rfl) ?_
    refine Lx.nil ?_
    refine Xx.tn (k6 _ _ _ _ ?_)
    refine Cx.seq (fun K7 k7 => ?_)
    refine Cx.region ?_
    refine Lx.y (asg rfl) rfl ?_
    refine Lx.nil ?_
    refine Xx.tn (k7 _ _ _ _ ?_)
    refine Cx.ret ?_
    exact Xx.ret1 rfl rfl ⟨by rw [hd], rfl, rfl⟩ (Frag.le_refl _) (by simp only [star_assoc]; rfl)

set_option maxHeartbeats 1000000 in
theorem Room_ct (d : Dk) (db : Nat) (n : Int) (B : Frag) : CtC Try.prog 20 [.pointer (some ⟨db, 0, none⟩), i64 n] B (dkH db d) (.tuple #[]) (dkH db {d with room := if 0 ≤ n then n else d.room}) := by
  refine Ct.of_body Try.func20 rfl (nt := 14) rfl (by kernel_rfl) rfl ?_
  intro N0 w0 R
  unfold dkH
  simp only [star_assoc]
  refine Cx.seq (fun K1 k1 => ?_)
  refine Cx.region ?_
  refine Lx.y (mv rfl) rfl ?_
  refine Lx.y (Yx.tt (neNilP Try.underlying26 rfl rfl) rfl) rfl ?_
  refine Lx.y (mv rfl) rfl ?_
  refine Lx.gT rfl rfl rfl ?_
  refine Lx.y (mv rfl) rfl ?_
  refine Lx.gT rfl rfl rfl ?_
  refine Lx.y (geq rfl rfl) rfl ?_
  refine Lx.y (pickT rfl rfl) rfl ?_
  refine Lx.nil ?_
  refine Xx.tn (k1 _ _ _ _ ?_)
  refine Cx.condD rfl (fun h2 => ?_) (fun h2 => ?_)
  · skip
    have hn := h2
    refine Cx.region ?_
    refine Lx.y (mv rfl) rfl ?_
    refine Lx.y (mv rfl) rfl ?_
    refine Lx.y (nilc rfl) rfl ?_
    refine Lx.y (fa' fo97_1 rfl) rfl ?_
    refine Lx.st (stO Try.underlying3 sz3 rfl rfl rfl (by show 1 < 5; omega) rfl) ?_
    refine Lx.nil ?_
    exact Xx.end0 rfl ⟨rfl, rfl, rfl⟩ (Frag.le_refl _) (by rw [if_pos hn]; simp only [star_assoc]; rfl)
  · skip
    have hn := h2
    refine Cx.skip ?_
    exact Xx.end0 rfl ⟨rfl, rfl, rfl⟩ (Frag.le_refl _) (by rw [if_neg hn]; simp only [star_assoc])

/-- what "file" hands back -/
def fileV (d : Dk) (n : Int) : Value := if d.dead = true then .tuple #[.pointer none, i64 7] else match findF n d.fs with
  | none => .tuple #[.pointer none, i64 2]
  | some f => .tuple #[.pointer (some ⟨f.b, 0, none⟩), i64 0]

set_option maxHeartbeats 1000000 in
theorem file_ct (d : Dk) (db : Nat) (n : Int) (B : Frag) : CtC Try.prog 47 [.pointer (some ⟨db, 0, none⟩), i64 n] B (dkH db d) (fileV d n) (dkH db d) := by
  refine Ct.of_body Try.func47 rfl (nt := 24) rfl (by kernel_rfl) rfl ?_
  intro N0 w0 R
  unfold dkH
  simp only [star_assoc]
  refine Cx.seq (fun K1 k1 => ?_)
  refine Cx.region ?_
  refine Lx.y (asg rfl) rfl ?_
  refine Lx.y (asg rfl) rfl ?_
  refine Lx.nil ?_
  refine Xx.tn (k1 _ _ _ _ ?_)
  refine Cx.seq (fun K2 k2 => ?_)
  refine Cx.seq (fun K3 k3 => ?_)
  refine Cx.region ?_
  refine Lx.y (mv rfl) rfl ?_
  refine Lx.y (Yx.ff (eqNilP Try.underlying26 rfl rfl) rfl) rfl ?_
  refine Lx.y (mv rfl) rfl ?_
  refine Lx.gT rfl rfl rfl ?_
  refine Lx.y (mv rfl) rfl ?_
  refine Lx.gT rfl rfl rfl ?_
  refine Lx.y (nilc rfl) rfl ?_
  refine Lx.gT rfl rfl rfl ?_
  refine Lx.y (fa' fo97_2 rfl) rfl ?_
  refine Lx.gT rfl rfl rfl ?_
  refine Lx.y (ld Try.underlying4 rfl rfl rfl) rfl ?_
  refine Lx.y (pickF rfl rfl) rfl ?_
  refine Lx.nil ?_
  refine Xx.tn (k3 _ _ _ _ ?_)
  refine Cx.condB rfl (fun h4 => ?_) (fun h4 => ?_)
  · skip
    have hd := h4
    refine Cx.seq (fun K5 k5 => ?_)
    refine Cx.region ?_
    refine Lx.y (asg rfl) rfl ?_
    refine Lx.y (asg rfl) rfl ?_
    refine Lx.nil ?_
    refine Xx.tn (k5 _ _ _ _ ?_)
    refine Cx.ret ?_
    refine Xx.tr ?_
    exact Xx.ret2 rfl rfl rfl ⟨(by unfold fileV; rw [if_pos hd]), rfl, rfl⟩ (Frag.le_refl _) (by ac_rfl)
  · skip
    have hd := h4
    refine Cx.skip ?_
    refine Xx.tn (k2 _ _ _ _ ?_)
    refine Cx.seq (fun K6 k6 => ?_)
    refine Cx.region ?_
    refine Lx.y (mv rfl) rfl ?_
    refine Lx.y (nilc rfl) rfl ?_
    refine Lx.y (fa' fo97_0 rfl) rfl ?_
    refine Lx.y (ld Try.underlying94 rfl rfl rfl) rfl ?_
    refine Lx.y (mv rfl) rfl ?_
    refine Lx.y (lkM Try.underlying94 Try.underlying3 Try.zeroValue95 rfl rfl (v := .pointer ((findF n d.fs).map fun f => ⟨f.b, 0, none⟩)) (by rw [mget_find]; cases findF n d.fs <;> rfl)) rfl ?_
    refine Lx.y (asg rfl) rfl ?_
    refine Lx.nil ?_
    refine Xx.tn (k6 _ _ _ _ ?_)
    refine Cx.seq (fun K7 k7 => ?_)
    refine Cx.seq (fun K8 k8 => ?_)
    refine Cx.region ?_
    refine Lx.y (mv rfl) rfl ?_
    refine Lx.y (eqNilP Try.underlying95 rfl rfl) rfl ?_
    refine Lx.nil ?_
    refine Xx.tn (k8 _ _ _ _ ?_)
    refine Cx.condB rfl (fun h9 => ?_) (fun h9 => ?_)
    · skip
      have hf := h9
      refine Cx.seq (fun K10 k10 => ?_)
      refine Cx.region ?_
      refine Lx.y (asg rfl) rfl ?_
      refine Lx.y (asg rfl) rfl ?_
      refine Lx.nil ?_
      refine Xx.tn (k10 _ _ _ _ ?_)
      refine Cx.ret ?_
      refine Xx.tr ?_
      exact Xx.ret2 rfl rfl rfl ⟨(by unfold fileV; rw [if_neg (by rw [hd]; decide)]; cases hq : findF n d.fs with
        | none => rfl
        | some f => rw [hq] at hf; cases hf), rfl, rfl⟩ (Frag.le_refl _) (by ac_rfl)
    · skip
      have hf := h9
      refine Cx.skip ?_
      refine Xx.tn (k7 _ _ _ _ ?_)
      refine Cx.seq (fun K11 k11 => ?_)
      refine Cx.region ?_
      refine Lx.y (mv rfl) rfl ?_
      refine Lx.y (asg rfl) rfl ?_
      refine Lx.y (asg rfl) rfl ?_
      refine Lx.nil ?_
      refine Xx.tn (k11 _ _ _ _ ?_)
      refine Cx.ret ?_
      exact Xx.ret2 rfl rfl rfl ⟨(by unfold fileV; rw [if_neg (by rw [hd]; decide)]; cases hq : findF n d.fs with
        | none => rw [hq] at hf; cases hf
        | some f => rfl), rfl, rfl⟩ (Frag.le_refl _) (by ac_rfl)
end DkB
end Go.Proofs.Ytgcebieihmlaoaa

/-
  Contracts of the library, laid at this dump by the kit's own command.
-/
namespace Go.Proofs.Ytgcebieihmlaoaa
open Go.Shelf
def Shelf.lays189_ren : Go.Shelf.Ren := ⟨fun | 189 => 73 | 125 => 91 | 257 => 90 | 128 => 113 | 129 => 114 | 294 => 105 | 295 => 106 | 296 => 107 | 297 => 108 | 298 => 109 | 299 => 110 | 216 => 92 | 300 => 111 | 301 => 112 | 328 => 119 | 329 => 120 | 330 => 121 | 331 => 122 | 332 => 123 | 215 => 115 | 343 => 125 | n => n, fun | 28 => 39 | 3 => 3 | 46 => 143 | 0 => 0 | 51 => 110 | 53 => 23 | 4 => 4 | 183 => 176 | 182 => 175 | 131 => 134 | 5 => 5 | 9 => 9 | 218 => 184 | 222 => 106 | 228 => 189 | 229 => 190 | n => n, fun | n => n⟩
theorem Shelf.lays189 : Go.Proofs.Lays.n189 Try.prog Shelf.lays189_ren := {
  mixed := by kernel_rfl
  f125 := Try.func91.trans (congrArg some (by kernel_rfl))
  f128 := Try.func113.trans (congrArg some (by kernel_rfl))
  f129 := Try.func114.trans (congrArg some (by kernel_rfl))
  f189 := Try.func73.trans (congrArg some (by kernel_rfl))
  f215 := Try.func115.trans (congrArg some (by kernel_rfl))
  f216 := Try.func92.trans (congrArg some (by kernel_rfl))
  f257 := Try.func90.trans (congrArg some (by kernel_rfl))
  f294 := Try.func105.trans (congrArg some (by kernel_rfl))
  f295 := Try.func106.trans (congrArg some (by kernel_rfl))
  f296 := Try.func107.trans (congrArg some (by kernel_rfl))
  f297 := Try.func108.trans (congrArg some (by kernel_rfl))
  f298 := Try.func109.trans (congrArg some (by kernel_rfl))
  f299 := Try.func110.trans (congrArg some (by kernel_rfl))
  f300 := Try.func111.trans (congrArg some (by kernel_rfl))
  f301 := Try.func112.trans (congrArg some (by kernel_rfl))
  f328 := Try.func119.trans (congrArg some (by kernel_rfl))
  f329 := Try.func120.trans (congrArg some (by kernel_rfl))
  f330 := Try.func121.trans (congrArg some (by kernel_rfl))
  f331 := Try.func122.trans (congrArg some (by kernel_rfl))
  f332 := Try.func123.trans (congrArg some (by kernel_rfl))
  f343 := Try.func125.trans (congrArg some (by kernel_rfl))
  t0 := Try.underlying0
  a0 := Try.isAgg0
  z0 := Try.sizeOf0
  v0 := Try.zeroValue0
  t3 := Try.underlying3
  a3 := Try.isAgg3
  z3 := Try.sizeOf3
  v3 := Try.zeroValue3
  t4 := Try.underlying4
  a4 := Try.isAgg4
  z4 := Try.sizeOf4
  v4 := Try.zeroValue4
  t5 := Try.underlying5
  a5 := Try.isAgg5
  z5 := Try.sizeOf5
  v5 := Try.zeroValue5
  t9 := Try.underlying9
  a9 := Try.isAgg9
  z9 := Try.sizeOf9
  v9 := Try.zeroValue9
  t28 := Try.underlying39
  a28 := Try.isAgg39
  z28 := Try.sizeOf39
  v28 := Try.zeroValue39
  t46 := Try.underlying143
  a46 := Try.isAgg143
  z46 := Try.sizeOf143
  v46 := Try.zeroValue143
  t51 := Try.underlying110
  a51 := Try.isAgg110
  z51 := Try.sizeOf110
  v51 := Try.zeroValue110
  t53 := Try.underlying23
  a53 := Try.isAgg23
  z53 := Try.sizeOf23
  v53 := Try.zeroValue23
  t131 := Try.underlying134
  a131 := Try.isAgg134
  z131 := Try.sizeOf134
  v131 := Try.zeroValue134
  t182 := Try.underlying175
  a182 := Try.isAgg175
  z182 := Try.sizeOf175
  v182 := Try.zeroValue175
  t183 := Try.underlying176
  a183 := Try.isAgg176
  z183 := Try.sizeOf176
  v183 := Try.zeroValue176
  t218 := Try.underlying184
  a218 := Try.isAgg184
  z218 := Try.sizeOf184
  v218 := Try.zeroValue184
  t222 := Try.underlying106
  a222 := Try.isAgg106
  z222 := Try.sizeOf106
  v222 := Try.zeroValue106
  t228 := Try.underlying189
  a228 := Try.isAgg189
  z228 := Try.sizeOf189
  v228 := Try.zeroValue189
  t229 := Try.underlying190
  a229 := Try.isAgg190
  z229 := Try.sizeOf190
  v229 := Try.zeroValue190 }
open Go.Sort Go.RowKit in
theorem Shelf.slices_Sort_int (blk off cap : Nat) (zs : List Int) (w : World) (hH : Holds (Value.int .i64) w blk off zs.toArray) (hblk : blk < w.heap.size) (hsz : zs.length < 4611686018427387904) :
    Calls Try.prog 73 #[.slice (some ⟨blk, off, none⟩) zs.length cap] w fun e w' =>
      e = .returned (.tuple #[]) ∧ ∃ n os, w' = grow (putRow (Value.int .i64) (Sort.ahead w n) blk off (zs.mergeSort fun x y => decide (x ≤ y)).toArray) os := Any.slices_Sort_int Shelf.lays189 blk off cap zs w hH hblk hsz
def Shelf.lays99_ren : Go.Shelf.Ren := ⟨fun | 99 => 85 | 206 => 103 | n => n, fun | 9 => 9 | 4 => 4 | 3 => 3 | n => n, fun | n => n⟩
theorem Shelf.lays99 : Go.Proofs.Lays.n99 Try.prog Shelf.lays99_ren := {
  mixed := by kernel_rfl
  f99 := Try.func85.trans (congrArg some (by kernel_rfl))
  f206 := Try.func103.trans (congrArg some (by kernel_rfl))
  t3 := Try.underlying3
  a3 := Try.isAgg3
  z3 := Try.sizeOf3
  v3 := Try.zeroValue3
  t4 := Try.underlying4
  a4 := Try.isAgg4
  z4 := Try.sizeOf4
  v4 := Try.zeroValue4
  t9 := Try.underlying9
  a9 := Try.isAgg9
  z9 := Try.sizeOf9
  v9 := Try.zeroValue9 }
open Go.RowKit Go.Lib in
theorem Shelf.strings_HasPrefix (s p : ByteArray) (w : World) :
    Calls Try.prog 85 #[.string s, .string p] w fun e w' => e = .returned (.bool (Lib.hasPrefix s.data.toList p.data.toList)) ∧ w' = w := Any.strings_HasPrefix Shelf.lays99 s p w
def Shelf.lays105_ren : Go.Shelf.Ren := ⟨fun | 105 => 63 | 212 => 84 | 99 => 85 | 165 => 86 | 166 => 61 | 170 => 60 | 169 => 62 | 263 => 101 | 264 => 102 | 206 => 103 | 240 => 83 | 241 => 104 | 276 => 100 | 277 => 118 | n => n, fun | 9 => 9 | 3 => 3 | 4 => 4 | 20 => 20 | 0 => 0 | 46 => 143 | 109 => 156 | 5 => 5 | 72 => 122 | 76 => 126 | 51 => 110 | 146 => 170 | 53 => 23 | 148 => 172 | 70 => 120 | 37 => 80 | 75 => 125 | 127 => 155 | 164 => 168 | 80 => 128 | n => n, fun | n => n⟩
theorem Shelf.lays105 : Go.Proofs.Lays.n105 Try.prog Shelf.lays105_ren := {
  mixed := by kernel_rfl
  f99 := Try.func85.trans (congrArg some (by kernel_rfl))
  f105 := Try.func63.trans (congrArg some (by kernel_rfl))
  f165 := Try.func86.trans (congrArg some (by kernel_rfl))
  f166 := Try.func61.trans (congrArg some (by kernel_rfl))
  f169 := Try.func62.trans (congrArg some (by kernel_rfl))
  f170 := Try.func60.trans (congrArg some (by kernel_rfl))
  f206 := Try.func103.trans (congrArg some (by kernel_rfl))
  f212 := Try.func84.trans (congrArg some (by kernel_rfl))
  f240 := Try.func83.trans (congrArg some (by kernel_rfl))
  f241 := Try.func104.trans (congrArg some (by kernel_rfl))
  f263 := Try.func101.trans (congrArg some (by kernel_rfl))
  f264 := Try.func102.trans (congrArg some (by kernel_rfl))
  f276 := Try.func100.trans (congrArg some (by kernel_rfl))
  f277 := Try.func118.trans (congrArg some (by kernel_rfl))
  t0 := Try.underlying0
  a0 := Try.isAgg0
  z0 := Try.sizeOf0
  v0 := Try.zeroValue0
  t3 := Try.underlying3
  a3 := Try.isAgg3
  z3 := Try.sizeOf3
  v3 := Try.zeroValue3
  t4 := Try.underlying4
  a4 := Try.isAgg4
  z4 := Try.sizeOf4
  v4 := Try.zeroValue4
  t5 := Try.underlying5
  a5 := Try.isAgg5
  z5 := Try.sizeOf5
  v5 := Try.zeroValue5
  t9 := Try.underlying9
  a9 := Try.isAgg9
  z9 := Try.sizeOf9
  v9 := Try.zeroValue9
  t20 := Try.underlying20
  a20 := Try.isAgg20
  z20 := Try.sizeOf20
  v20 := Try.zeroValue20
  t37 := Try.underlying80
  a37 := Try.isAgg80
  z37 := Try.sizeOf80
  v37 := Try.zeroValue80
  t46 := Try.underlying143
  a46 := Try.isAgg143
  z46 := Try.sizeOf143
  v46 := Try.zeroValue143
  t51 := Try.underlying110
  a51 := Try.isAgg110
  z51 := Try.sizeOf110
  v51 := Try.zeroValue110
  t53 := Try.underlying23
  a53 := Try.isAgg23
  z53 := Try.sizeOf23
  v53 := Try.zeroValue23
  t70 := Try.underlying120
  a70 := Try.isAgg120
  z70 := Try.sizeOf120
  v70 := Try.zeroValue120
  t72 := Try.underlying122
  a72 := Try.isAgg122
  z72 := Try.sizeOf122
  v72 := Try.zeroValue122
  t75 := Try.underlying125
  a75 := Try.isAgg125
  z75 := Try.sizeOf125
  v75 := Try.zeroValue125
  t76 := Try.underlying126
  a76 := Try.isAgg126
  z76 := Try.sizeOf126
  v76 := Try.zeroValue126
  t109 := Try.underlying156
  a109 := Try.isAgg156
  z109 := Try.sizeOf156
  v109 := Try.zeroValue156
  t127 := Try.underlying155
  a127 := Try.isAgg155
  z127 := Try.sizeOf155
  v127 := Try.zeroValue155
  t146 := Try.underlying170
  a146 := Try.isAgg170
  z146 := Try.sizeOf170
  v146 := Try.zeroValue170
  t148 := Try.underlying172
  a148 := Try.isAgg172
  z148 := Try.sizeOf172
  v148 := Try.zeroValue172
  t164 := Try.underlying168
  a164 := Try.isAgg168
  z164 := Try.sizeOf168
  v164 := Try.zeroValue168 }
theorem Shelf.Builder_Extra_105 : Builder.Extra Try.prog Shelf.lays105_ren := {
  sizeBuilder := by kernel_rfl
  liesBuilder := by kernel_rfl
  t5 := Try.underlying5
  a5 := Try.isAgg5
  z5 := Try.sizeOf5
  v5 := Try.zeroValue5
  infoByte := by kernel_rfl
  cellsByte := by kernel_rfl
  sizeByte := by kernel_rfl
  neB5 := by decide }
open Go.RowKit Go.Lib in
theorem Shelf.strings_Repeat (s : ByteArray) (c : Nat) (w : World) (hc : c ≤ 9223372036854775807) (hlen : s.size * c ≤ 140737488355328) :
    Calls Try.prog 63 #[.string s, .int .i64 c] w fun e w' => e = .returned (.string ⟨(Lib.repeatL s.data.toList c).toArray⟩) ∧ Below w.heap.size w w' := Any.strings_Repeat Shelf.lays105 Shelf.Builder_Extra_105 s c w hc hlen
open Go.RowKit Go.Sort in
theorem Shelf.slices_Sort_int_none (p : Option Addr) (cap : Nat) (w : World) :
    Calls Try.prog 73 #[.slice p 0 cap] w fun e w' => e = .returned (.tuple #[]) ∧ w' = w := Any.slices_Sort_int_none Shelf.lays189 p cap w
end Go.Proofs.Ytgcebieihmlaoaa

/-
  The numbers of a disk's files, in order.
-/
namespace Go.Proofs.Ytgcebieihmlaoaa
open Go.SL Go.RowKit
set_option linter.unusedVariables false
set_option linter.unusedSimpArgs false
set_option maxRecDepth 100000
open DkA DkB
namespace DkC
theorem sz3 : (Try.prog.info? 3).map (·.size) = some 1 := by kernel_rfl
theorem sz5 : (Try.prog.info? 5).map (·.size) = some 1 := by kernel_rfl
theorem sz25 : (Try.prog.info? 25).map (·.size) = some 3 := by kernel_rfl
theorem sz39 : (Try.prog.info? 39).map (·.size) = some 1 := by kernel_rfl
theorem ti3 : TI Try.prog 3 [.int .i64 0] 1 8 := TI.of (by kernel_rfl) rfl rfl
theorem fo97_0 : FO Try.prog 97 0 0 1 false := FO.of Try.underlying97 rfl rfl (by kernel_rfl) Try.underlying94 rfl rfl

def kint (n : Int) : List Value := [i64 n]
theorem intsN (l : List Int) : (ints l).length = l.length := by simp [ints]

set_option maxHeartbeats 2000000 in
theorem Keys_it (fs : List Fi) (mb b1 : Nat) (B : Frag) : ItA Try.prog 74 [.pointer (some ⟨b1, 0, none⟩)] kint (fun xs : List Int => xs.length ≤ fs.length) (fun xs : List Int => xs.Perm (fs.map (·.m.n))) B (row b1 94 [.map (some mb)] * imap mb (fs.map fkv)) := by
  refine ⟨Go.SL.enters_of Try.func74 rfl (by kernel_rfl), fun lp J Jx hy B1 H1 hB1 hJ0 => ?_⟩
  refine Ct.of_bodyM Try.func74 rfl (nt := 14) rfl (by kernel_rfl) rfl ?_
  intro N0 w0 R
  simp only [star_assoc]
  refine Cx.seq (fun K1 k1 => ?_)
  refine Cx.region ?_
  refine Lx.y (ld Try.underlying94 rfl rfl rfl) rfl ?_
  refine Xx.openF mb fun Z c hS hZ => ?_
  refine Lx.o (rgM Try.underlying94 rfl) rfl (fun v B' H' hΦ hB => ?_)
  obtain ⟨it, rfl, hBB, rfl⟩ := hΦ
  have hBB2 := hBB.symm
  subst hBB2
  clear hB
  refine Lx.nil ?_
  refine Xx.tn (k1 _ _ _ _ ?_)
  refine Cx.block ?_
  refine Cx.loopK (Sub.cons (s := 0) rfl (Sub.cons (s := 1) rfl (Sub.cons (s := 4) rfl (Sub.cons (s := 5) rfl (Sub.nil _))))) (fun m ρ' B' H' => ∃ (dz : List (Fi × Nat)) (B2 : Frag) (H2 : HP), (VisF Z dz ∧ J (dz.map (·.1.m.n)) B2 H2 ∧ B1.le B2) ∧ m = Z.length - dz.length ∧ ρ' = [] ∧ B2 = B' ∧ blk it (itObj mb c (dz.map (mz fkv))) * (blk mb (mapObj (Z.map (mz fkv)) c) * (row b1 94 [.map (some mb)] * (H2 * R))) = H') ⟨[], _, _, ⟨VisF.nil Z, hJ0, Frag.le_refl _⟩, rfl, rfl, rfl, by ac_rfl⟩ (Sub.cons (s := 0) rfl (Sub.cons (s := 1) rfl (Sub.cons (s := 4) rfl (Sub.cons (s := 5) rfl (Sub.nil _))))) ?_
  rintro m ρ' B' H' ⟨dz, B2, H2, ⟨hv, hJ, hB2⟩, rfl, rfl, rfl, rfl⟩
  refine Cx.seq (fun K2 k2 => ?_)
  refine Cx.region ?_
  refine Lx.o (nxF hS hv rfl) rfl (fun v B' H' hΦ hB => ?_)
  obtain ⟨o, dz2, rfl, ha, hBB, rfl⟩ := hΦ
  have hBB2 := hBB.symm
  subst hBB2
  clear hB
  refine Lx.y (ext rfl (nx0 _)) rfl ?_
  refine Lx.nil ?_
  refine Xx.tn (k2 _ _ _ _ ?_)
  refine Cx.seq (fun K3 k3 => ?_)
  refine Cx.condB rfl (fun h4 => ?_) (fun h4 => ?_)
  · skip
    obtain ⟨z, rfl⟩ : ∃ z, o = some z := by
      cases o with
      | none => exact absurd h4 (by simp)
      | some z => exact ⟨z, rfl⟩
    obtain ⟨rfl, hzZ, hzn⟩ := ha
    have hv2 := hv.step hzZ hzn
    have hvl := hv2.len
    rw [List.length_append, List.length_singleton] at hvl
    have hZl : Z.length = fs.length := by rw [← hZ, List.length_map]
    refine Cx.skip ?_
    refine Xx.tn (k3 _ _ _ _ ?_)
    refine Cx.block ?_
    refine Cx.seq (fun K5 k5 => ?_)
    refine Cx.region ?_
    refine Lx.y (entF hS hzZ rfl) rfl ?_
    refine Lx.y (ext rfl rfl) rfl ?_
    refine Lx.y (asg rfl) rfl ?_
    refine Lx.nil ?_
    refine Xx.tn (k5 _ _ _ _ ?_)
    refine Cx.seq (fun K6 k6 => ?_)
    refine Cx.region ?_
    refine Lx.y (mv rfl) rfl ?_
    refine Lx.y (mv rfl) rfl ?_
    refine Lx.yield rfl rfl (hy (dz.map (·.1.m.n)) z.1.m.n B2 H2 (by show (dz.map (·.1.m.n) ++ [z.1.m.n]).length ≤ fs.length; rw [List.length_append, List.length_map, List.length_singleton]; omega) (Frag.le_trans hB1 hB2) hJ) (show _ = H2 * (blk it (itObj mb c ((dz ++ [z]).map (mz fkv))) * (blk mb (mapObj (Z.map (mz fkv)) c) * (row b1 94 [.map (some mb)] * R))) by ac_rfl) rfl ?_
    rintro t B7 H7 hΦ hB7
    refine Lx.y (not' rfl) rfl ?_
    refine Lx.nil ?_
    refine Xx.tn (k6 _ _ _ _ ?_)
    refine Cx.condB rfl (fun h7 => ?_) (fun h7 => ?_)
    · skip
      obtain ⟨_, hΦ⟩ : t = false ∧ Jx (dz.map (·.1.m.n) ++ [z.1.m.n]) B7 H7 := by simpa [show t = false by simpa using h7] using hΦ
      refine Cx.ret ?_
      refine Xx.br ?_
      refine Xx.tr ?_
      refine Xx.br ?_
      refine Xx.closeF mb hS hZ (Xx.dropB it ?_)
      exact Xx.rM (Ds := []) (fun a w f _ => results_none rfl _ _ _) ⟨H7, rfl, .inr ⟨_, hΦ⟩⟩ (Frag.le_trans hB2 hB7) (by rw [marks_nil, one_star]; ac_rfl)
    · skip
      obtain ⟨_, hΦ⟩ : t = true ∧ J (dz.map (·.1.m.n) ++ [z.1.m.n]) B7 H7 := by simpa [show t = true by simpa using h7] using hΦ
      refine Cx.skip ?_
      refine Xx.bn ?_
      exact Xx.againK ⟨dz ++ [z], _, _, ⟨hv2, by rw [List.map_append]; exact hΦ, Frag.le_trans hB2 hB7⟩, rfl, rfl, rfl, (by ac_rfl)⟩ (by rw [List.length_append, List.length_singleton]; omega) (Sub.cons (s := 0) rfl (Sub.cons (s := 1) rfl (Sub.cons (s := 4) rfl (Sub.cons (s := 5) rfl (Sub.nil _)))))
  · skip
    obtain rfl : o = none := by
      cases o with
      | none => rfl
      | some z => exact absurd h4 (by simp)
    obtain ⟨rfl, hall⟩ := ha
    have hp := hv.all hS hall
    rw [hZ] at hp
    refine Cx.exit ?_
    refine Xx.te ?_
    refine Xx.te ?_
    refine Xx.bh ?_
    refine Xx.closeF mb hS hZ (Xx.dropB it ?_)
    exact Xx.eM [] rfl (fun a w f _ => results_none rfl _ _ _) ⟨H2, rfl, .inl ⟨_, by have := hp.map (·.m.n); rw [List.map_map] at this; exact this, hJ⟩⟩ hB2 (by rw [marks_nil, one_star]; ac_rfl)

set_option maxHeartbeats 1000000 in
theorem Keys_ct (mb : Nat) (B : Frag) : Ct Try.prog 46 [.map (some mb)] B 1 (fun v B' H' => B' = B ∧ ∃ b1, v = .func (.func 74) #[] #[.pointer (some ⟨b1, 0, none⟩)] ∧ H' = row b1 94 [.map (some mb)]) := by
  refine Ct.of_body Try.func46 rfl (nt := 4) rfl (by kernel_rfl) rfl ?_
  intro N0 w0 R
  rw [one_star]
  refine Cx.seq (fun K1 k1 => ?_)
  refine Cx.region ?_
  refine Lx.new (boxO rfl rfl) rfl (fun b1 => ?_)
  refine Lx.y (asg rfl) rfl ?_
  refine Lx.nil ?_
  refine Xx.tn (k1 _ _ _ _ ?_)
  refine Cx.seq (fun K2 k2 => ?_)
  refine Cx.region ?_
  refine Lx.y (mkf rfl rfl) rfl ?_
  refine Lx.y (asg rfl) rfl ?_
  refine Lx.nil ?_
  refine Xx.tn (k2 _ _ _ _ ?_)
  refine Cx.ret ?_
  exact Xx.ret1 rfl rfl ⟨rfl, b1, rfl, rfl⟩ (Frag.le_refl _) rfl

set_option maxHeartbeats 2000000 in
theorem AppSeq_ct (fs : List Fi) (mb b1 : Nat) (B : Frag) (hn : fs.length ≤ 1000000) : Ct Try.prog 89 [.slice none 0 0, .func (.func 74) #[] #[.pointer (some ⟨b1, 0, none⟩)]] B (row b1 94 [.map (some mb)] * imap mb (fs.map fkv)) (fun v B' H' => ∃ xs A c, v = .slice A xs.length c ∧ xs.Perm (fs.map (·.m.n)) ∧ H' = (row b1 94 [.map (some mb)] * imap mb (fs.map fkv)) * sbuf 3 1 A xs.length c (ints xs)) := by
  refine Ct.of_bodyM Try.func89 rfl (nt := 13) rfl (by kernel_rfl) rfl ?_
  intro N0 w0 R
  refine Cx.seq (fun K1 k1 => ?_)
  refine Cx.region ?_
  refine Lx.new (boxO rfl rfl) rfl (fun b2 => ?_)
  refine Lx.y (asg rfl) rfl ?_
  refine Lx.nil ?_
  refine Xx.tn (k1 _ _ _ _ ?_)
  refine Cx.seq (fun K2 k2 => ?_)
  refine Cx.seq (fun K3 k3 => ?_)
  refine Cx.region ?_
  refine Lx.y (mv rfl) rfl ?_
  refine Lx.nil ?_
  refine Xx.tn (k3 _ _ _ _ ?_)
  refine Cx.block ?_
  refine Cx.rangeA (σ := _) (Sub.cons (s := 2) rfl (Sub.nil _)) rfl rfl (Keys_it fs mb b1 B) (show _ = (row b1 94 [.map (some mb)] * imap mb (fs.map fkv)) * ((row b2 39 [.slice none 0 0] * sbuf 3 1 none 0 0 (ints [])) * R) by rw [show ints [] = [] from rfl, sbuf_nil, star_one]; ac_rfl) rfl (fun _ => rfl) (fun pre B' H' => ∃ A c, H' = row b2 39 [.slice A pre.length c] * sbuf 3 1 A pre.length c (ints pre)) (fun _ _ _ _ => False) (fun pre x B1 ρ' B' H' => ρ' = [(5, i64 x)] ∧ pre.length + 1 ≤ fs.length ∧ B' = B1 ∧ ∃ A c, H' = row b2 39 [.slice A pre.length c] * sbuf 3 1 A pre.length c (ints pre)) (⟨none, 0, rfl⟩) ?_ ?_ ?_ ?_
  · rintro lz Nz wz pre x B1 H1 F K hxs hB1 hJ hK
    rw [List.length_append, List.length_singleton] at hxs
    refine Cx.region ?_
    refine Lx.y (asg rfl) rfl ?_
    refine Lx.nil ?_
    refine Xx.tn ?_
    exact Xx.sub (hK _ _ _ ⟨rfl, hxs, rfl, hJ⟩ (Frag.le_refl _)) (Sub.cons (s := 5) rfl (Sub.cons (s := 2) rfl (Sub.nil _)))
  · rintro lz Nz wz pre x B1 F ρ' B' H' hxs hB1 hBx hAS
    obtain ⟨rfl, hpl, hBB, A, c, rfl⟩ := hAS
    subst hBB
    rename Frag => B5
    simp only [star_assoc]
    refine Cx.block ?_
    refine Cx.region ?_
    refine Lx.y (ld Try.underlying39 rfl rfl rfl) rfl ?_
    refine Lx.y (mv rfl) rfl ?_
    refine Lx.bsl (bsl1 Try.underlying39 ti3 rfl rfl rfl (by decide)) rfl (fun bv => ?_)
    refine Lx.o (appN (A := A) (pre.length + 1) [i64 x] (ints (pre ++ [x])) Try.underlying39 Try.underlying39 ti3 rfl rfl rfl rfl rfl (by omega) (by omega) rfl (by simp [ints])) rfl (fun v B' H' hΦ hB => ?_)
    obtain ⟨A2, c2, rfl, hA2, hl2, hc2, hBB, rfl⟩ := hΦ
    subst hBB
    clear hB
    refine Lx.st (stO Try.underlying39 sz39 rfl rfl rfl (by simp) rfl) ?_
    refine Lx.nil ?_
    refine Xx.bn ?_
    refine Xx.dropB bv ?_
    exact Xx.rqn ⟨A2, c2, by rw [List.length_append]⟩ (Frag.le_refl _) (by ac_rfl)
  · rintro D xs B' H' hxs hBx hJ
    obtain ⟨A, c, rfl⟩ := hJ
    simp only [star_assoc]
    refine Xx.bn ?_
    refine Xx.tn (k2 _ _ _ _ ?_)
    refine Cx.seq (fun K4 k4 => ?_)
    refine Cx.region ?_
    refine Lx.y (ld Try.underlying39 rfl rfl rfl) rfl ?_
    refine Lx.y (asg rfl) rfl ?_
    refine Lx.nil ?_
    refine Xx.tn (k4 _ _ _ _ ?_)
    refine Cx.ret ?_
    refine Xx.dropB b2 ?_
    exact Xx.rM (Ds := [D]) (res1 rfl rfl) ⟨xs, A, c, rfl, hxs, rfl⟩ hBx (by rw [marks_cons, marks_nil, star_one]; ac_rfl)
  · rintro D c pre B' H' hBx hJx
    exact hJx.elim

set_option maxHeartbeats 1000000 in
theorem Collect_ct (fs : List Fi) (mb b1 : Nat) (B : Frag) (hn : fs.length ≤ 1000000) : Ct Try.prog 72 [.func (.func 74) #[] #[.pointer (some ⟨b1, 0, none⟩)]] B (row b1 94 [.map (some mb)] * imap mb (fs.map fkv)) (fun v B' H' => ∃ xs A c, v = .slice A xs.length c ∧ xs.Perm (fs.map (·.m.n)) ∧ H' = (row b1 94 [.map (some mb)] * imap mb (fs.map fkv)) * sbuf 3 1 A xs.length c (ints xs)) := by
  refine Ct.of_body Try.func72 rfl (nt := 5) rfl (by kernel_rfl) rfl ?_
  intro N0 w0 R
  refine Cx.seq (fun K1 k1 => ?_)
  refine Cx.region ?_
  refine Lx.y (asg rfl) rfl ?_
  refine Lx.nil ?_
  refine Xx.tn (k1 _ _ _ _ ?_)
  refine Cx.seq (fun K2 k2 => ?_)
  refine Cx.region ?_
  refine Lx.y (mv rfl) rfl ?_
  refine Lx.c rfl rfl rfl (AppSeq_ct fs mb b1 _ hn) (rfl) rfl ?_
  rintro v1 B1 H1 ⟨xs, A, c, rfl, hp, rfl⟩ hB1
  refine Lx.y (asg rfl) rfl ?_
  refine Lx.nil ?_
  refine Xx.tn (k2 _ _ _ _ ?_)
  refine Cx.ret ?_
  exact Xx.ret1 rfl rfl ⟨xs, A, c, rfl, hp, rfl⟩ hB1 rfl

theorem Sort_ct (zs : List Int) (A : Option Addr) (c : Nat) (et : TypeId) (B : Frag) (hz : zs.length < 4611686018427387904) :
    Ct Try.prog 73 [.slice A zs.length c] B (sbuf et 1 A zs.length c (ints zs)) (fun v B' H' => B' = B ∧ v = .tuple #[] ∧ H' = sbuf et 1 A zs.length c (ints (sortI zs))) :=
  Ct.of_sort (Go.SL.enters_of Try.func73 rfl (by kernel_rfl)) (fun blk off cap zs w h1 h2 h3 => Shelf.slices_Sort_int blk off cap zs w h1 h2 h3) (fun p cap w => Shelf.slices_Sort_int_none p cap w) zs A c et B hz
/-- two lists with the same members, each as often, are in order the same -/
theorem sortI_perm {xs ys : List Int} (h : xs.Perm ys) : sortI xs = sortI ys := by
  have ht : ∀ a b c : Int, decide (a ≤ b) = true → decide (b ≤ c) = true → decide (a ≤ c) = true := fun a b c h1 h2 => by
    simp only [decide_eq_true_eq] at *; omega
  have hl : ∀ a b : Int, (decide (a ≤ b) || decide (b ≤ a)) = true := fun a b => by
    rw [Bool.or_eq_true, decide_eq_true_eq, decide_eq_true_eq]; omega
  have p1 := List.pairwise_mergeSort ht hl xs
  have p2 := List.pairwise_mergeSort ht hl ys
  have hp : (sortI xs).Perm (sortI ys) := ((List.mergeSort_perm xs _).trans h).trans (List.mergeSort_perm ys _).symm
  refine List.Perm.eq_of_pairwise ?_ p1 p2 hp
  intro a b _ _ h1 h2
  simp only [decide_eq_true_eq] at h1 h2
  omega
theorem sortI_len (xs : List Int) : (sortI xs).length = xs.length := List.length_mergeSort _

set_option maxHeartbeats 1000000 in
theorem Sorted_ct (fs : List Fi) (mb b1 : Nat) (B : Frag) (hn : fs.length ≤ 1000000) : Ct Try.prog 45 [.func (.func 74) #[] #[.pointer (some ⟨b1, 0, none⟩)]] B (row b1 94 [.map (some mb)] * imap mb (fs.map fkv)) (fun v B' H' => ∃ A c, v = .slice A fs.length c ∧ H' = (row b1 94 [.map (some mb)] * imap mb (fs.map fkv)) * sbuf 3 1 A fs.length c (ints (sortI (fs.map (·.m.n))))) := by
  refine Ct.of_body Try.func45 rfl (nt := 9) rfl (by kernel_rfl) rfl ?_
  intro N0 w0 R
  refine Cx.seq (fun K1 k1 => ?_)
  refine Cx.region ?_
  refine Lx.y (asg rfl) rfl ?_
  refine Lx.nil ?_
  refine Xx.tn (k1 _ _ _ _ ?_)
  refine Cx.seq (fun K2 k2 => ?_)
  refine Cx.region ?_
  refine Lx.y (mv rfl) rfl ?_
  refine Lx.c rfl rfl rfl (Collect_ct fs mb b1 _ hn) (rfl) rfl ?_
  rintro v1 B1 H1 ⟨xs, A, c, rfl, hp, rfl⟩ hB1
  have hxl : xs.length = fs.length := by rw [hp.length_eq, List.length_map]
  simp only [star_assoc]
  refine Lx.y (asg rfl) rfl ?_
  refine Lx.nil ?_
  refine Xx.tn (k2 _ _ _ _ ?_)
  refine Cx.seq (fun K3 k3 => ?_)
  refine Cx.region ?_
  refine Lx.y (mv rfl) rfl ?_
  refine Lx.c rfl rfl rfl (Sort_ct xs A c _ _ (by omega)) (pickS _) rfl ?_
  rintro v2 B2 H2 ⟨hBB, rfl, rfl⟩ hB2
  subst hBB
  rw [sortI_perm hp, hxl]
  refine Lx.nil ?_
  refine Xx.tn (k3 _ _ _ _ ?_)
  refine Cx.seq (fun K4 k4 => ?_)
  refine Cx.region ?_
  refine Lx.y (mv rfl) rfl ?_
  refine Lx.y (asg rfl) rfl ?_
  refine Lx.nil ?_
  refine Xx.tn (k4 _ _ _ _ ?_)
  refine Cx.ret ?_
  exact Xx.ret1 rfl rfl ⟨A, c, rfl, rfl⟩ hB1 (by ac_rfl)

set_option maxHeartbeats 1000000 in
theorem Files_ct (d : Dk) (db : Nat) (B : Frag) (hn : d.fs.length ≤ 1000000) : Ct Try.prog 12 [.pointer (some ⟨db, 0, none⟩)] B (dkH db d) (fun v B' H' => ∃ A c, v = .slice A d.fs.length c ∧ H' = dkH db d * sbuf 3 1 A d.fs.length c (ints (sortI (d.fs.map (·.m.n))))) := by
  refine Ct.of_body Try.func12 rfl (nt := 11) rfl (by kernel_rfl) rfl ?_
  intro N0 w0 R
  unfold dkH
  simp only [star_assoc]
  refine Cx.seq (fun K1 k1 => ?_)
  refine Cx.region ?_
  refine Lx.y (asg rfl) rfl ?_
  refine Lx.nil ?_
  refine Xx.tn (k1 _ _ _ _ ?_)
  refine Cx.seq (fun K2 k2 => ?_)
  refine Cx.seq (fun K3 k3 => ?_)
  refine Cx.region ?_
  refine Lx.y (mv rfl) rfl ?_
  refine Lx.y (Yx.ff (eqNilP Try.underlying26 rfl rfl) rfl) rfl ?_
  refine Lx.nil ?_
  refine Xx.tn (k3 _ _ _ _ ?_)
  refine Cx.condF rfl ?_
  refine Cx.skip ?_
  refine Xx.tn (k2 _ _ _ _ ?_)
  refine Cx.seq (fun K4 k4 => ?_)
  refine Cx.region ?_
  refine Lx.y (mv rfl) rfl ?_
  refine Lx.y (nilc rfl) rfl ?_
  refine Lx.y (fa' fo97_0 rfl) rfl ?_
  refine Lx.y (ld Try.underlying94 rfl rfl rfl) rfl ?_
  refine Lx.c rfl rfl rfl (Keys_ct d.mb _) ((one_star _).symm) rfl ?_
  rintro v1 B1 H1 ⟨hBB, b1, rfl, rfl⟩ hB1
  subst hBB
  clear hB1
  refine Lx.c rfl rfl rfl (Sorted_ct d.fs d.mb b1 _ hn) ((show _ = (row b1 94 [.map (some d.mb)] * imap d.mb (d.fs.map fkv)) * (row db 97 (dcs d) * (sbuf 25 3 d.Ap d.plan.length d.cp (d.plan.flatMap scs) * (fisH d.fs * R))) by ac_rfl)) rfl ?_
  rintro v2 B2 H2 ⟨A, c, rfl, rfl⟩ hB2
  simp only [star_assoc]
  refine Lx.y (asg rfl) rfl ?_
  refine Lx.nil ?_
  refine Xx.tn (k4 _ _ _ _ ?_)
  refine Cx.ret ?_
  refine Xx.dropB b1 ?_
  exact Xx.ret1 rfl rfl ⟨A, c, rfl, rfl⟩ hB2 (by ac_rfl)
end DkC
end Go.Proofs.Ytgcebieihmlaoaa

/-
  max of two numbers; zeros put behind a buffer; copy into a buffer's part, and out of one.
-/
namespace Go.SL
open Go.RowKit
set_option linter.unusedVariables false
set_option linter.unusedSimpArgs false
section
variable {P : Program} {ρ : Sl} {S : World → Prop} {ty t t2 : TypeId} {x y : Operand} {v : Value}
theorem maxI {k : IntKind} {m n : Int} (hx : ev ρ x = some (.int k m)) (hy : ev ρ y = some (.int k n)) : Yx P (.call { callee := .builtin .max, args := #[x, y], argTypes := #[t, t2] }) ty ρ S (.int k (if n > m then n else m)) := .of (fun _ h => by cases h) fun f w _ _ _ _ he _ => by
  simp [execOp, resolve, invoke, builtin, Builtin.max_, Builtin.max2, he _ _ hx, he _ _ hy]
end
theorem zero_cells (z : Value) (n : Nat) : Builtin.zeroCells #[z] n = (List.replicate n z).toArray := by
  apply Array.toList_inj.1
  apply List.ext_getElem?
  intro i
  by_cases h : i < n
  · simp [Builtin.zeroCells, h, Nat.mod_one]
  · simp [Builtin.zeroCells, h]
section
variable {e : Env} {ds : List Deferred} {ρ : Sl} {B : Frag} {H R : HP} {t tx et et' ty tyx : TypeId} {x y : Operand} {nl nd c nx cx : Nat} {xs news : List Value} {A Ax : Option Addr} {z : Value} {bytes : Nat}
/-- append of so many zeros, one cell each. -/
theorem amS {k : IntKind} {m : Nat} (ht : e.P.underlying t = some (.slice et)) (htx : e.P.underlying tx = some (.int k)) (hz : TI e.P et [z] 1 bytes) (hx : ev ρ x = some (.slice A nl c)) (hy : ev ρ y = some (i64 m)) [hp : PickS H A et 1 nl c xs R]
    (hm : 0 < m) (h1 : z.oneCell' = true) (hb : nl + m ≤ 9223372036854775807) (hbb : (nl + m) * bytes ≤ 140737488355328) :
    Ox e ds (.call { callee := .builtin .append, args := #[x, y], argTypes := #[t, tx] }) ty ρ B H
      (fun v B' H' => ∃ A' c', v = .slice A' (nl + m) c' ∧ nl + m ≤ c' ∧ B' = B ∧ H' = sbuf et 1 A' (nl + m) c' (xs ++ List.replicate m z) * R) :=
  .of_run (fun _ h => by cases h) fun f w dst pos after guard he s => by
    have s0 := s.of_eq hp.eq
    obtain ⟨i, zv, z1, z2, z3, z4, z5, z6, z7⟩ := hz
    have z3' : zv.cells = #[z] := z3
    have hw : IntKind.i64.wrap (m : Int) = m := by rw [IntKind.wrap_i64]; omega
    have hneg : ¬ ((m : Int) < 0) := by omega
    have h48i : ¬ (281474976710656 < (m : Int) * (i.bytes : Int)) := by
      rw [← Int.natCast_mul, z5]
      have : m * bytes ≤ (nl + m) * bytes := Nat.mul_le_mul_right _ (by omega)
      omega
    have hm0 : ¬ (m * i.size = 0) := by rw [z4]; omega
    have grow : ∀ (olds : List Value), olds = xs → olds.length = nl → (Builtin.firstCells i.size nl (.slice A nl c)).run e.P w.drew = .ok olds.toArray w.drew → c < nl + m → St e.N0 B R w →
        ∃ v w' B' H', (execOp f ⟨dst, .call { callee := .builtin .append, args := #[x, y], argTypes := #[t, tx] }, ty, pos, after, guard⟩).run e.P w = .ok (.value v) w' ∧
          (∃ A' c', v = .slice A' (nl + m) c' ∧ nl + m ≤ c' ∧ B' = B ∧ H' = sbuf et 1 A' (nl + m) c' (xs ++ List.replicate m z) * R) ∧ B.le B' ∧ Below e.N0 w w' ∧ St e.N0 B' H' w' := by
      intro olds heq hol hfc hlt sR
      have hcap := nextslicecap_le (need := nl + m) (old := c) hlt
      have hge : nl + m ≤ grownCap w (nl + m) c et := by unfold grownCap Question.cut; simp
      have hfit : Builtin.nextslicecap (nl + m) c * i.bytes ≤ 281474976710656 := by
        rw [z5]
        calc Builtin.nextslicecap (nl + m) c * bytes ≤ (2 * (nl + m)) * bytes := Nat.mul_le_mul_right _ hcap
          _ = 2 * ((nl + m) * bytes) := by rw [Nat.mul_assoc]
          _ ≤ 281474976710656 := by omega
      have h63' : ¬ (9223372036854775807 < ((nl : Int) + (m : Int))) := by omega
      have h48' : ¬ (281474976710656 < Builtin.nextslicecap (nl + m) c * i.bytes) := by omega
      have hn : ¬ (nl + m ≤ c) := by omega
      have hr : (Builtin.append_ #[t, tx] ty #[.slice A nl c, i64 m]).run e.P w = .ok (.slice (some ⟨w.heap.size, 0, none⟩) (nl + m) (grownCap w (nl + m) c et)) (w.drew.alloc (.cells (olds ++ List.replicate m z ++ List.replicate (grownCap w (nl + m) c et - (nl + m)) z).toArray et (0, 0))) := by
        simp [Builtin.append_, run_underlying ht, run_underlying htx, sizeOf, typeInfo, zeroValue, z1, z2, asInt, asIntOf, hw, hneg, hn, hm0, h63', h48', h48i, Question.forced, hfc, newRow, grownCap, z3', zero_cells]
        congr 2
        apply Array.toList_inj.1
        simp
      refine ⟨.slice (some ⟨w.heap.size, 0, none⟩) (nl + m) (grownCap w (nl + m) c et), w.drew.alloc (.cells (olds ++ List.replicate m z ++ List.replicate (grownCap w (nl + m) c et - (nl + m)) z).toArray et (0, 0)), B, _, ?_, ⟨_, _, rfl, hge, rfl, rfl⟩, Frag.le_refl _, ((Below.refl _ _).drew).alloc s.sz _, ?_⟩
      · simp [execOp, resolve, he _ _ hx, he _ _ hy, invoke, builtin, hr]
      · subst heq
        exact St.of_sbuf (sp := List.replicate (grownCap w (nl + m) c et - (nl + m)) z) (by simp [hol]) hge (by simp [hol]; omega) (sR.drew.alloc _)
    rcases s0.cases_sbuf with ⟨e1, e2, e3, e4, s'⟩ | ⟨b, sp, e1, e2, e3, e4, s'⟩
    · subst e1; subst e2; subst e3; subst e4
      exact grow [] rfl rfl (by simp [Builtin.firstCells]) (by omega) s'
    · subst e1
      have hxl : xs.length = nl := by omega
      rw [List.length_append] at e4
      by_cases hroom : nl + m ≤ c
      · have hst := run_storeCells_at (P := e.P) b (0 + nl * 1) et (List.replicate m z) 0 (xs ++ sp).toArray w s'.blk.1 (by simp; omega) (by intro v hv; rw [List.eq_of_mem_replicate hv]; exact h1)
        simp only [List.toList_toArray, Nat.add_zero] at hst
        have hcs : (xs ++ sp).take (0 + nl * 1) ++ List.replicate m z ++ (xs ++ sp).drop (0 + nl * 1 + (List.replicate m z).length) = xs ++ List.replicate m z ++ sp.drop m := by
          rw [List.length_replicate, show 0 + nl * 1 = xs.length by omega, List.take_left, List.drop_append, List.drop_of_length_le (by omega), List.nil_append, show xs.length + m - xs.length = m by omega]
        rw [hcs] at hst
        have hap : (Builtin.append_ #[t, tx] ty #[.slice (some ⟨b, 0, none⟩) nl c, i64 m]).run e.P w = .ok (.slice (some ⟨b, 0, none⟩) (nl + m) c) (w.setRow b (xs ++ List.replicate m z ++ sp.drop m).toArray) := by
          simp [Builtin.append_, run_underlying ht, run_underlying htx, sizeOf, typeInfo, zeroValue, z1, z2, z4, asInt, asIntOf, hw, hneg, hroom, h48i, z3', zero_cells, add_mk]
          have hm1 : ¬ m = 0 := by omega
          simp at hst
          simp [hm1, hst]
        refine ⟨_, _, B, _, ?_, ⟨_, _, rfl, hroom, rfl, rfl⟩, Frag.le_refl _, (s'.setRow _).2, St.of_sbuf (sp := sp.drop m) (by simp [hxl]) hroom (by simp [hxl]; omega) (s'.setRow _).1⟩
        simp [execOp, resolve, he _ _ hx, he _ _ hy, invoke, builtin, hap]
      · have hfc : (Builtin.firstCells i.size nl (.slice (some ⟨b, 0, none⟩) nl c)).run e.P w.drew = .ok xs.toArray w.drew :=
          run_firstCells_some w.drew i.size nl _ nl c xs (by rw [z4]; omega) fun j v hj => by
            rw [add_mk]
            refine cell_of_heap s'.drew.blk.1 ?_
            rw [Nat.zero_add, List.getElem?_append_left (List.getElem?_eq_some_iff.1 hj).1]
            exact hj
        exact grow xs rfl hxl hfc (by omega) s'.drop
/-- A buffer's part, as a source. -/
theorem SrcH.buf {N0 n b f m : Nat} [hp : PickS H (some ⟨b, 0, none⟩) et 1 n c xs R] (hx : xs.length = n) (hm : f + m ≤ n) (hn : n ≤ c) : SrcH N0 B H (subA (some ⟨b, 0, none⟩) c f 1) ((xs.drop f).take m) := by
  by_cases h0 : m = 0
  · subst h0; exact .inl (by simp)
  have e9 : subA (some ⟨b, 0, none⟩) c f 1 = some ⟨b, 0 + f * 1, none⟩ := by
    unfold subA; rw [if_neg (by omega)]; simp [add_mk]
  rw [e9]
  refine .inr ⟨b, 0 + f * 1, rfl, fun w s j v hj => ?_⟩
  rw [show 0 + f * 1 = f by omega]
  exact Cells.buf (b := b) (o := f) (m := m) rfl (by omega) w s j v hj
/-- copy into a buffer's part. -/
theorem cpS {n k : Nat} (cnt : Nat) (xs' : List Value) (ht : e.P.underlying t = some (.slice et)) (hs : (e.P.info? et).map (·.size) = some 1) (hx : ev ρ x = some (.slice (subA A c k 1) (n - k) (c - k))) (hy : ev ρ y = some (.slice Ax nx cx)) [hp : PickS H A et 1 n c xs R]
    (hk : k ≤ n) (hc : Nat.min nx (n - k) = cnt) (hn : news.length = cnt) (hS : SrcH e.N0 B H Ax news) (h1 : news.all (·.oneCell') = true) (hr : xs.take k ++ news ++ xs.drop (k + cnt) = xs') :
    Ox e ds (.call { callee := .builtin .copy, args := #[x, y], argTypes := #[t, tx] }) ty ρ B H (fun v B' H' => v = i64 cnt ∧ B' = B ∧ H' = sbuf et 1 A n c xs' * R) :=
  .of_run (fun _ h => by cases h) fun f w dst pos after guard he s => by
    subst hc hr
    have s0 := s.of_eq hp.eq
    have hfc := St.src (P := e.P) (nx := Nat.min nx (n - k)) (size := 1) hS (by omega) s nx cx
    cases hq : e.P.info? et with
    | none => simp [hq] at hs
    | some i =>
      have hi : i.size = 1 := by simpa [hq] using hs
      by_cases h0 : news = []
      · subst h0
        have hm0 : Nat.min nx (n - k) = 0 := by simpa using hn.symm
        have hcp : (Builtin.copy_ #[t, tx] ty #[.slice (subA A c k 1) (n - k) (c - k), .slice Ax nx cx]).run e.P w = .ok (i64 (Nat.min nx (n - k) : Nat)) w := by
          rw [← hi] at hfc
          simp only [Builtin.copy_, Sem.run_bind, run_underlying ht, Result.andThen, Builtin.lenOf, Sem.run_pure, sizeOf, typeInfo, run_program, hq, hfc, List.getElem?_toArray, List.getElem?_cons_zero, List.getElem?_cons_succ]
          cases subA A c k 1 <;> simp [hfc, goInt, storeCells]
        refine ⟨_, w, B, _, ?_, ⟨rfl, rfl, rfl⟩, Frag.le_refl _, Below.refl _ _, ?_⟩
        · simp [execOp, resolve, he _ _ hx, he _ _ hy, invoke, builtin, hcp]
        · rw [hm0, List.append_nil, Nat.add_zero, List.take_append_drop]; exact s0
      · have hpos : 0 < Nat.min nx (n - k) := by rw [← hn]; exact List.length_pos_iff.2 h0
        have hle : Nat.min nx (n - k) ≤ n - k := Nat.min_le_right _ _
        rcases s0.cases_sbuf with ⟨_, h2, _⟩ | ⟨b, sp, e1, e2, e3, e4, s'⟩
        · omega
        · subst e1
          have e9 : subA (some ⟨b, 0, none⟩) c k 1 = some ⟨b, k, none⟩ := by
            unfold subA; rw [if_neg (by omega)]; simp [add_mk]
          rw [e9] at hx
          rw [List.length_append] at e4
          have hst := run_storeCells_at (P := e.P) b (k) et news 0 (xs ++ sp).toArray w s'.blk.1 (by simp; omega) (by simpa using h1)
          simp only [List.toList_toArray, Nat.add_zero] at hst
          have hcs : (xs ++ sp).take (k) ++ news ++ (xs ++ sp).drop (k + news.length) = xs.take k ++ news ++ xs.drop (k + Nat.min nx (n - k)) ++ sp := by
            rw [List.take_append_of_le_length (by omega), List.drop_append_of_le_length (by omega), hn, List.append_assoc, List.append_assoc, List.append_assoc]
          rw [hcs] at hst
          have hcp : (Builtin.copy_ #[t, tx] ty #[.slice (some ⟨b, k, none⟩) (n - k) (c - k), .slice Ax nx cx]).run e.P w = .ok (i64 (Nat.min nx (n - k) : Nat)) (w.setRow b (xs.take k ++ news ++ xs.drop (k + Nat.min nx (n - k)) ++ sp).toArray) := by
            rw [← hi] at hfc
            simp only [Builtin.copy_, Sem.run_bind, run_underlying ht, Result.andThen, Builtin.lenOf, Sem.run_pure, sizeOf, typeInfo, run_program, hq, hfc, hst, List.getElem?_toArray, List.getElem?_cons_zero, List.getElem?_cons_succ]
            simp [hfc, hst, goInt]
          have hl : (xs.take k ++ news ++ xs.drop (k + Nat.min nx (n - k))).length = n := by
            simp only [List.length_append, List.length_take, List.length_drop, hn]; omega
          refine ⟨_, _, B, _, ?_, ⟨rfl, rfl, rfl⟩, Frag.le_refl _, (s'.setRow _).2, St.of_sbuf (sp := sp) (by omega) e3 (by rw [List.length_append]; omega) (s'.setRow _).1⟩
          simp [execOp, resolve, he _ _ hx, he _ _ hy, invoke, builtin, hcp]
end
end Go.SL

/-
  What a loss of power leaves of a file.
-/
namespace Go.Proofs.Ytgcebieihmlaoaa
open Go.SL Go.RowKit
set_option linter.unusedVariables false
set_option linter.unusedSimpArgs false
set_option maxRecDepth 100000
open DkA DkB DkC
namespace DkD
theorem sz3 : (Try.prog.info? 3).map (·.size) = some 1 := by kernel_rfl
theorem sz5 : (Try.prog.info? 5).map (·.size) = some 1 := by kernel_rfl
theorem sz25 : (Try.prog.info? 25).map (·.size) = some 3 := by kernel_rfl
theorem ti3 : TI Try.prog 3 [.int .i64 0] 1 8 := TI.of (by kernel_rfl) rfl rfl
theorem ti5 : TI Try.prog 5 [.int .u8 0] 1 1 := TI.of (by kernel_rfl) rfl rfl
theorem fo102_0 : FO Try.prog 102 0 0 1 false := FO.of Try.underlying102 rfl rfl (by kernel_rfl) Try.underlying80 rfl rfl
theorem fo102_1 : FO Try.prog 102 1 1 1 false := FO.of Try.underlying102 rfl rfl (by kernel_rfl) Try.underlying80 rfl rfl
theorem fo102_2 : FO Try.prog 102 2 2 1 false := FO.of Try.underlying102 rfl rfl (by kernel_rfl) Try.underlying39 rfl rfl

theorem nv_at {l : List Nat} {j : Nat} (h : j < l.length) : ((nv l).drop (0 + j * 1)).take 1 = [i64 ((l[j] : Nat) : Int)] := by
  rw [show 0 + j * 1 = j by omega, List.drop_eq_getElem_cons (by rw [nv_len]; exact h)]
  simp [nv]
def pad (l : List UInt8) (n : Nat) : List UInt8 := l ++ List.replicate (n - l.length) 0
/-- is the sector kept? -/
def kept (mask : BitVec 64) (bit : Nat) : Bool := decide (mask >>> min bit 63 &&& 1#64 = 1#64)
/-- how far a sector is as it was written -/
def toF (now : List UInt8) (mask : BitVec 64) (bit : Nat) (torn : Int) (i : Nat) : Nat :=
  if kept mask bit = true then min (i * 64 + 64) now.length else i * 64 + min torn.toNat (min (i * 64 + 64) now.length - i * 64)
def outF (now out : List UInt8) (fr t : Nat) : List UInt8 := if fr < t then (pad out t).take fr ++ (now.drop fr).take (t - fr) ++ (pad out t).drop t else out
def lostStep (now : List UInt8) (mask : BitVec 64) (s : List UInt8 × Nat × Int) (i : Nat) : List UInt8 × Nat × Int :=
  (outF now s.1 (i * 64) (toF now mask s.2.1 s.2.2 i), s.2.1 + 1, if kept mask s.2.1 = true then s.2.2 else 0)
def lostF (now sure : List UInt8) (loose : List Nat) (mask : BitVec 64) (bit : Nat) (torn : Int) : List UInt8 × Nat × Int := loose.foldl (lostStep now mask) (sure, bit, torn)
theorem foldl_step {α β : Type} (f : β → α → β) (a : β) (l : List α) (j : Nat) (h : j < l.length) : (l.take (j + 1)).foldl f a = f ((l.take j).foldl f a) l[j] := by
  rw [List.take_succ_eq_append_getElem h, List.foldl_append]; rfl
theorem pad_len (l : List UInt8) (n : Nat) : (pad l n).length = max l.length n := by
  unfold pad; rw [List.length_append, List.length_replicate]; omega
theorem pad_le {l : List UInt8} {n : Nat} (h : n ≤ l.length) : pad l n = l := by
  unfold pad; rw [show n - l.length = 0 by omega]; simp
theorem toF_le {now : List UInt8} {mask : BitVec 64} {bit : Nat} {torn : Int} {i : Nat} (h : i < sec now.length) : toF now mask bit torn i ≤ now.length ∧ i * 64 ≤ toF now mask bit torn i := by
  unfold toF; unfold sec at h; split <;> omega
theorem outF_len {now out : List UInt8} {fr t : Nat} (h1 : out.length ≤ now.length) (h2 : t ≤ now.length) : (outF now out fr t).length ≤ now.length := by
  unfold outF
  split
  · rename_i h
    rw [List.length_append, List.length_append, List.length_take, List.length_take, List.length_drop, List.length_drop, pad_len]; omega
  · exact h1
theorem u8s_app (a b : List UInt8) : u8s (a ++ b) = u8s a ++ u8s b := by simp [u8s]
theorem u8s_take (a : List UInt8) (n : Nat) : u8s (a.take n) = (u8s a).take n := by simp [u8s, List.map_take]
theorem u8s_drop (a : List UInt8) (n : Nat) : u8s (a.drop n) = (u8s a).drop n := by simp [u8s, List.map_drop]
theorem u8s_zero (n : Nat) : u8s (List.replicate n 0) = List.replicate n (.int .u8 0) := by simp [u8s]
theorem copy_out {now out : List UInt8} {fr t k : Nat} (h1 : out.length ≤ now.length) (h2 : t ≤ now.length) (h3 : fr ≤ t) (hk : k = min fr (if fr < t then pad out t else out).length) :
    (u8s (if fr < t then pad out t else out)).take k ++ ((u8s now).drop fr).take (t - fr) ++ (u8s (if fr < t then pad out t else out)).drop (k + (t - fr)) = u8s (outF now out fr t) := by
  subst hk
  unfold outF
  by_cases h : fr < t
  · have hl := pad_len out t
    simp only [if_pos h]
    rw [show min fr (pad out t).length = fr by omega, show fr + (t - fr) = t by omega, u8s_app, u8s_app, u8s_take, u8s_take, u8s_drop, u8s_drop]
  · simp only [if_neg h]
    rw [show t - fr = 0 by omega]
    simp
theorem lostF_len (now : List UInt8) (mask : BitVec 64) : ∀ (l : List Nat) (s : List UInt8 × Nat × Int), s.1.length ≤ now.length → (∀ i ∈ l, i < sec now.length) → ((l.foldl (lostStep now mask) s).1.length ≤ now.length ∧ (l.foldl (lostStep now mask) s).2.1 = s.2.1 + l.length) := by
  intro l
  induction l with
  | nil => intro s h _; exact ⟨h, rfl⟩
  | cons i l ih =>
    intro s h hl
    have h1 := ih (lostStep now mask s i) (outF_len h (toF_le (hl i (by simp))).1) (fun k hk => hl k (by simp [hk]))
    refine ⟨h1.1, ?_⟩
    rw [List.foldl_cons, h1.2]
    show s.2.1 + 1 + l.length = s.2.1 + (l.length + 1)
    omega

set_option maxHeartbeats 4000000 in
theorem lost_ct (f : Fi) (bb tb : Nat) (mask : BitVec 64) (bit : Nat) (torn : Int) (B : Frag) (hlim : ∀ i ∈ f.m.loose, i < sec f.m.now.length) (hnow : f.m.now.length ≤ 68719476736) (hsl : f.m.sure.length ≤ f.m.now.length) (hbit : bit + f.m.loose.length ≤ 2305843009213693952) : Ct Try.prog 52 [.pointer (some ⟨f.b, 0, none⟩), .pointer (some ⟨bb, 0, none⟩), u64 mask, .pointer (some ⟨tb, 0, none⟩)] B (fiH f * (row bb 3 [i64 ((bit : Nat) : Int)] * row tb 3 [i64 torn])) (fun v B' H' => B' = B ∧ ∃ A c, v = .slice A (lostF f.m.now f.m.sure f.m.loose mask bit torn).1.length c ∧ H' = fiH f * (row bb 3 [i64 (((lostF f.m.now f.m.sure f.m.loose mask bit torn).2.1 : Nat) : Int)] * (row tb 3 [i64 (lostF f.m.now f.m.sure f.m.loose mask bit torn).2.2] * sbuf 5 1 A (lostF f.m.now f.m.sure f.m.loose mask bit torn).1.length c (u8s (lostF f.m.now f.m.sure f.m.loose mask bit torn).1)))) := by
  obtain ⟨⟨fn, now, sure, loose⟩, fb, An, cn, As, cs, Al, cl⟩ := f
  simp only at hlim hnow hsl hbit ⊢
  refine Ct.of_body Try.func52 rfl (nt := 97) rfl (by kernel_rfl) rfl ?_
  intro N0 w0 R
  unfold fiH
  simp only [star_assoc]
  refine Cx.seq (fun K1 k1 => ?_)
  refine Cx.region ?_
  refine Lx.y (asg rfl) rfl ?_
  refine Lx.nil ?_
  refine Xx.tn (k1 _ _ _ _ ?_)
  refine Cx.seq (fun K2 k2 => ?_)
  refine Cx.region ?_
  refine Lx.y (mv rfl) rfl ?_
  refine Lx.y (nilc rfl) rfl ?_
  refine Lx.y (fa' fo102_1 rfl) rfl ?_
  refine Lx.y (Yx.val (ld Try.underlying80 rfl rfl rfl) (show _ = Value.slice As sure.length cs from rfl)) rfl ?_
  refine Lx.c rfl rfl rfl (ClB_ct As sure.length cs (u8s sure) _ (u8_all _) (by omega) (by omega)) (pickS _) rfl ?_
  rintro v1 B1 H1 ⟨hBB, A1, c1, rfl, rfl⟩ hB1
  subst hBB
  rename Frag => B
  clear hB1
  simp only [star_assoc]
  refine Lx.y (asg rfl) rfl ?_
  refine Lx.nil ?_
  refine Xx.tn (k2 _ _ _ _ ?_)
  refine Cx.seq (fun K3 k3 => ?_)
  refine Cx.seq (fun K4 k4 => ?_)
  refine Cx.region ?_
  refine Lx.y (mv rfl) rfl ?_
  refine Lx.y (nilc rfl) rfl ?_
  refine Lx.y (fa' fo102_2 rfl) rfl ?_
  refine Lx.y (Yx.val (ld Try.underlying39 rfl rfl rfl) (show _ = Value.slice Al loose.length cl from rfl)) rfl ?_
  refine Lx.y (lenV (ty' := 0) Try.underlying39 rfl) rfl ?_
  refine Lx.y (mv rfl) rfl ?_
  refine Lx.nil ?_
  refine Xx.tn (k4 _ _ _ _ ?_)
  refine Cx.block ?_
  refine Cx.loopK (Sub.cons (s := 0) rfl (Sub.cons (s := 1) rfl (Sub.cons (s := 2) rfl (Sub.cons (s := 3) rfl (Sub.cons (s := 8) rfl (Sub.cons (s := 15) rfl (Sub.cons (s := 16) rfl (Sub.cons (s := 17) rfl (Sub.cons (s := 18) rfl (Sub.cons (s := 19) rfl (Sub.cons (s := 20) rfl (Sub.cons (s := 21) rfl (Sub.cons (s := 22) rfl (Sub.cons (s := 23) rfl (Sub.cons (s := 24) rfl (Sub.nil _)))))))))))))))) (fun m ρ' B' H' => ∃ (j : Nat) (s : List UInt8 × Nat × Int) (A : Option Addr) (c : Nat), (j ≤ loose.length ∧ s = (loose.take j).foldl (lostStep now mask) (sure, bit, torn) ∧ s.1.length ≤ now.length ∧ s.2.1 = bit + j) ∧ m = loose.length - j ∧ ρ' = [(9, .slice A s.1.length c), (25, i64 ((j : Nat) : Int))] ∧ B = B' ∧ row fb 102 (fcs ⟨⟨fn, now, sure, loose⟩, fb, An, cn, As, cs, Al, cl⟩) * (sbuf 5 1 An now.length cn (u8s now) * (sbuf 5 1 As sure.length cs (u8s sure) * (sbuf 3 1 Al loose.length cl (nv loose) * (row bb 3 [i64 ((s.2.1 : Nat) : Int)] * (row tb 3 [i64 s.2.2] * (sbuf 5 1 A s.1.length c (u8s s.1) * R)))))) = H') ⟨0, (sure, bit, torn), _, _, ⟨Nat.zero_le _, rfl, hsl, rfl⟩, rfl, rfl, rfl, by ac_rfl⟩ (Sub.cons (s := 9) rfl (Sub.cons (s := 25) rfl (Sub.cons (s := 0) rfl (Sub.cons (s := 1) rfl (Sub.cons (s := 2) rfl (Sub.cons (s := 3) rfl (Sub.cons (s := 8) rfl (Sub.cons (s := 15) rfl (Sub.cons (s := 16) rfl (Sub.cons (s := 17) rfl (Sub.cons (s := 18) rfl (Sub.cons (s := 19) rfl (Sub.cons (s := 20) rfl (Sub.cons (s := 21) rfl (Sub.cons (s := 22) rfl (Sub.cons (s := 23) rfl (Sub.cons (s := 24) rfl (Sub.nil _)))))))))))))))))) ?_
  rintro m ρ' B' H' ⟨j, s, A, c, ⟨hj, hs, hsn, hsb⟩, rfl, rfl, rfl, rfl⟩
  refine Cx.seq (fun K5 k5 => ?_)
  refine Cx.region ?_
  refine Lx.y (lss rfl rfl) rfl ?_
  refine Lx.nil ?_
  refine Xx.tn (k5 _ _ _ _ ?_)
  refine Cx.seq (fun K6 k6 => ?_)
  refine Cx.condD rfl (fun h7 => ?_) (fun h7 => ?_)
  · skip
    have hjl : (j : Int) < (loose.length : Int) := h7
    have hjl : j < loose.length := by omega
    refine Xx.addrT Al (by omega) (fun ba hAl hbl hbc => ?_)
    subst hAl
    have hlj := hlim _ (List.getElem_mem hjl)
    obtain ⟨ix, hix⟩ : ∃ x, x = loose[j] := ⟨_, rfl⟩
    rw [← hix] at hlj
    have htl := toF_le (mask := mask) (bit := s.2.1) (torn := s.2.2) hlj
    unfold sec at hlj
    refine Xx.addrT An (by omega) (fun bn hAn hnl hnc => ?_)
    subst hAn
    rw [Nat.mul_one] at hnl
    refine Cx.skip ?_
    refine Xx.tn (k6 _ _ _ _ ?_)
    refine Cx.seq (fun K8 k8 => ?_)
    refine Cx.block ?_
    refine Cx.seq (fun K9 k9 => ?_)
    refine Cx.region ?_
    refine Lx.y (ia Try.underlying39 sz3 rfl rfl (by first | exact Int.toNat_natCast _ | rfl) (by omega) (by omega)) rfl ?_
    refine Lx.y (ldC Try.underlying3 rfl rfl (Cells.buf (b := ba) (m := 1) (show _ = [i64 ((ix : Nat) : Int)] by rw [hix]; exact nv_at hjl) (by rw [nv_len]; omega))) rfl ?_
    refine Lx.y (asg rfl) rfl ?_
    refine Lx.nil ?_
    refine Xx.tn (k9 _ _ _ _ ?_)
    refine Cx.seq (fun K10 k10 => ?_)
    refine Cx.region ?_
    refine Lx.y (mv rfl) rfl ?_
    refine Lx.y (Yx.val (mul rfl rfl (by first | exact wrap64 (by omega) (by omega) | rfl)) (show _ = i64 (((ix * 64) : Nat) : Int) from rfl)) rfl ?_
    refine Lx.y (asg rfl) rfl ?_
    refine Lx.nil ?_
    refine Xx.tn (k10 _ _ _ _ ?_)
    refine Cx.seq (fun K11 k11 => ?_)
    refine Cx.region ?_
    refine Lx.y (mv rfl) rfl ?_
    refine Lx.y (Yx.val (add rfl rfl (by first | exact wrap64 (by omega) (by omega) | rfl)) (show _ = i64 (((ix * 64) + 64 : Nat) : Int) from rfl)) rfl ?_
    refine Lx.y (mv rfl) rfl ?_
    refine Lx.y (nilc rfl) rfl ?_
    refine Lx.y (fa' fo102_0 rfl) rfl ?_
    refine Lx.y (Yx.val (ld Try.underlying80 rfl rfl rfl) (show _ = Value.slice (some ⟨bn, 0, none⟩) now.length cn from rfl)) rfl ?_
    refine Lx.y (lenV (ty' := 0) Try.underlying80 rfl) rfl ?_
    refine Lx.y (minN rfl rfl) rfl ?_
    refine Lx.y (asg rfl) rfl ?_
    refine Lx.nil ?_
    refine Xx.tn (k11 _ _ _ _ ?_)
    refine Cx.seq (fun K12 k12 => ?_)
    refine Cx.region ?_
    refine Lx.y (mv rfl) rfl ?_
    refine Lx.y (mv rfl) rfl ?_
    refine Lx.y (nilc rfl) rfl ?_
    refine Lx.y (ld Try.underlying3 rfl rfl rfl) rfl ?_
    refine Lx.y (minN (n := 63) rfl rfl) rfl ?_
    refine Lx.y (shrW64 (c := min s.2.1 63) rfl rfl (by rw [Nat.ble_eq]; omega)) rfl ?_
    refine Lx.y (andW64 (b := 1#64) rfl rfl) rfl ?_
    refine Lx.y (eqW64 (b := 1#64) rfl rfl) rfl ?_
    refine Lx.y (asg rfl) rfl ?_
    refine Lx.nil ?_
    refine Xx.tn (k12 _ _ _ _ ?_)
    refine Cx.seq (fun K13 k13 => ?_)
    refine Cx.region ?_
    refine Lx.y (mv rfl) rfl ?_
    refine Lx.y (nilc rfl) rfl ?_
    refine Lx.y (ld Try.underlying3 rfl rfl rfl) rfl ?_
    refine Lx.y (Yx.val (add rfl rfl (by first | exact wrap64 (by omega) (by omega) | rfl)) (show _ = i64 ((s.2.1 + 1 : Nat) : Int) from rfl)) rfl ?_
    refine Lx.y (nilc rfl) rfl ?_
    refine Lx.st (stO Try.underlying3 sz3 rfl rfl rfl (by simp) rfl) ?_
    refine Lx.nil ?_
    refine Xx.tn (k13 _ _ _ _ ?_)
    refine Cx.cutK (ds' := []) (Sub.cons (s := 0) rfl (Sub.cons (s := 1) rfl (Sub.cons (s := 2) rfl (Sub.cons (s := 3) rfl (Sub.cons (s := 8) rfl (Sub.cons (s := 9) rfl (Sub.cons (s := 11) rfl (Sub.cons (s := 12) rfl (Sub.cons (s := 14) rfl (Sub.cons (s := 15) rfl (Sub.cons (s := 16) rfl (Sub.cons (s := 17) rfl (Sub.cons (s := 18) rfl (Sub.cons (s := 19) rfl (Sub.cons (s := 20) rfl (Sub.cons (s := 21) rfl (Sub.cons (s := 22) rfl (Sub.cons (s := 23) rfl (Sub.cons (s := 24) rfl (Sub.cons (s := 25) rfl (Sub.cons (s := 26) rfl (Sub.cons (s := 27) rfl (Sub.cons (s := 28) rfl (Sub.cons (s := 29) rfl (Sub.cons (s := 30) rfl (Sub.cons (s := 31) rfl (Sub.cons (s := 32) rfl (Sub.cons (s := 33) rfl (Sub.cons (s := 34) rfl (Sub.cons (s := 35) rfl (Sub.cons (s := 36) rfl (Sub.cons (s := 37) rfl (Sub.cons (s := 38) rfl (Sub.cons (s := 39) rfl (Sub.cons (s := 40) rfl (Sub.cons (s := 41) rfl (Sub.cons (s := 42) rfl (Sub.cons (s := 43) rfl (Sub.cons (s := 44) rfl (Sub.cons (s := 45) rfl (Sub.cons (s := 46) rfl (Sub.cons (s := 47) rfl (Sub.cons (s := 48) rfl (Sub.cons (s := 49) rfl (Sub.cons (s := 50) rfl (Sub.cons (s := 51) rfl (Sub.nil _))))))))))))))))))))))))))))))))))))))))))))))) (fun ρ' B' H' => ∃ (tr : Int), ρ' = [(13, i64 (((toF now mask s.2.1 s.2.2 ix) : Nat) : Int))] ∧ B = B' ∧ row fb 102 (fcs ⟨⟨fn, now, sure, loose⟩, fb, (some ⟨bn, 0, none⟩), cn, As, cs, (some ⟨ba, 0, none⟩), cl⟩) * (sbuf 5 1 (some ⟨bn, 0, none⟩) now.length cn (u8s now) * (sbuf 5 1 As sure.length cs (u8s sure) * (sbuf 3 1 (some ⟨ba, 0, none⟩) loose.length cl (nv loose) * (row bb 3 [i64 ((s.2.1 + 1 : Nat) : Int)] * (row tb 3 [i64 tr] * (sbuf 5 1 A s.1.length c (u8s s.1) * R)))))) = H' ∧ (lostStep now mask s ix).2.2 = tr) ?_ ?_
    · skip
      refine Cx.seq (fun K14 k14 => ?_)
      refine Cx.region ?_
      refine Lx.y (mv rfl) rfl ?_
      refine Lx.y (not' rfl) rfl ?_
      refine Lx.nil ?_
      refine Xx.tn (k14 _ _ _ _ ?_)
      refine Cx.condN rfl (fun h15 => ?_) (fun h15 => ?_)
      · skip
        have hkp := h15
        have hkp : kept mask s.2.1 = false := decide_eq_false hkp
        refine Cx.seq (fun K16 k16 => ?_)
        refine Cx.region ?_
        refine Lx.y (mv rfl) rfl ?_
        refine Lx.y (mv rfl) rfl ?_
        refine Lx.y (nilc rfl) rfl ?_
        refine Lx.y (ld Try.underlying3 rfl rfl rfl) rfl ?_
        refine Lx.y (Yx.val (maxI (n := 0) rfl rfl) (show _ = i64 ((s.2.2.toNat : Nat) : Int) by congr 1; split <;> omega)) rfl ?_
        refine Lx.y (mv rfl) rfl ?_
        refine Lx.y (mv rfl) rfl ?_
        refine Lx.y (Yx.val (sub rfl rfl (by first | exact wrap64 (by omega) (by omega) | rfl)) (show _ = i64 ((min ((ix * 64) + 64) now.length - (ix * 64) : Nat) : Int) by congr 1; omega)) rfl ?_
        refine Lx.y (minN rfl rfl) rfl ?_
        refine Lx.y (Yx.val (add rfl rfl (by first | exact wrap64 (by omega) (by omega) | rfl)) (show _ = i64 (((ix * 64) + min s.2.2.toNat (min ((ix * 64) + 64) now.length - (ix * 64)) : Nat) : Int) from rfl)) rfl ?_
        refine Lx.y (asg rfl) rfl ?_
        refine Lx.nil ?_
        refine Xx.tn (k16 _ _ _ _ ?_)
        refine Cx.region ?_
        refine Lx.y (mv rfl) rfl ?_
        refine Lx.y (nilc rfl) rfl ?_
        refine Lx.st (stO Try.underlying3 sz3 rfl rfl rfl (by simp) rfl) ?_
        refine Lx.nil ?_
        exact Xx.mkK (⟨0, rfl, rfl, by ac_rfl, by unfold lostStep; rw [hkp]; rfl⟩) (Sub.consE (s := 13) rfl (by unfold toF; rw [hkp]; rfl) (Sub.cons (s := 0) rfl (Sub.cons (s := 1) rfl (Sub.cons (s := 2) rfl (Sub.cons (s := 3) rfl (Sub.cons (s := 8) rfl (Sub.cons (s := 9) rfl (Sub.cons (s := 11) rfl (Sub.cons (s := 12) rfl (Sub.cons (s := 14) rfl (Sub.cons (s := 15) rfl (Sub.cons (s := 16) rfl (Sub.cons (s := 17) rfl (Sub.cons (s := 18) rfl (Sub.cons (s := 19) rfl (Sub.cons (s := 20) rfl (Sub.cons (s := 21) rfl (Sub.cons (s := 22) rfl (Sub.cons (s := 23) rfl (Sub.cons (s := 24) rfl (Sub.cons (s := 25) rfl (Sub.cons (s := 26) rfl (Sub.cons (s := 27) rfl (Sub.cons (s := 28) rfl (Sub.cons (s := 29) rfl (Sub.cons (s := 30) rfl (Sub.cons (s := 31) rfl (Sub.cons (s := 32) rfl (Sub.cons (s := 33) rfl (Sub.cons (s := 34) rfl (Sub.cons (s := 35) rfl (Sub.cons (s := 36) rfl (Sub.cons (s := 37) rfl (Sub.cons (s := 38) rfl (Sub.cons (s := 39) rfl (Sub.cons (s := 40) rfl (Sub.cons (s := 41) rfl (Sub.cons (s := 42) rfl (Sub.cons (s := 43) rfl (Sub.cons (s := 44) rfl (Sub.cons (s := 45) rfl (Sub.cons (s := 46) rfl (Sub.cons (s := 47) rfl (Sub.cons (s := 48) rfl (Sub.cons (s := 49) rfl (Sub.cons (s := 50) rfl (Sub.cons (s := 51) rfl (Sub.nil _))))))))))))))))))))))))))))))))))))))))))))))))
      · skip
        have hkp := h15
        have hkp : kept mask s.2.1 = true := decide_eq_true hkp
        refine Cx.skip ?_
        exact Xx.mkK (⟨s.2.2, rfl, rfl, by ac_rfl, by unfold lostStep; rw [hkp]; rfl⟩) (Sub.consE (s := 13) rfl (by unfold toF; rw [hkp]; rfl) (Sub.cons (s := 0) rfl (Sub.cons (s := 1) rfl (Sub.cons (s := 2) rfl (Sub.cons (s := 3) rfl (Sub.cons (s := 8) rfl (Sub.cons (s := 9) rfl (Sub.cons (s := 11) rfl (Sub.cons (s := 12) rfl (Sub.cons (s := 14) rfl (Sub.cons (s := 15) rfl (Sub.cons (s := 16) rfl (Sub.cons (s := 17) rfl (Sub.cons (s := 18) rfl (Sub.cons (s := 19) rfl (Sub.cons (s := 20) rfl (Sub.cons (s := 21) rfl (Sub.cons (s := 22) rfl (Sub.cons (s := 23) rfl (Sub.cons (s := 24) rfl (Sub.cons (s := 25) rfl (Sub.cons (s := 26) rfl (Sub.cons (s := 27) rfl (Sub.cons (s := 28) rfl (Sub.cons (s := 29) rfl (Sub.cons (s := 30) rfl (Sub.cons (s := 31) rfl (Sub.cons (s := 32) rfl (Sub.cons (s := 33) rfl (Sub.cons (s := 34) rfl (Sub.cons (s := 35) rfl (Sub.cons (s := 36) rfl (Sub.cons (s := 37) rfl (Sub.cons (s := 38) rfl (Sub.cons (s := 39) rfl (Sub.cons (s := 40) rfl (Sub.cons (s := 41) rfl (Sub.cons (s := 42) rfl (Sub.cons (s := 43) rfl (Sub.cons (s := 44) rfl (Sub.cons (s := 45) rfl (Sub.cons (s := 46) rfl (Sub.cons (s := 47) rfl (Sub.cons (s := 48) rfl (Sub.cons (s := 49) rfl (Sub.cons (s := 50) rfl (Sub.cons (s := 51) rfl (Sub.nil _))))))))))))))))))))))))))))))))))))))))))))))))
    · rintro ρ' B' H' ⟨tr, rfl, rfl, rfl, htr⟩
      refine Cx.cutK (ds' := []) (Sub.cons (s := 0) rfl (Sub.cons (s := 1) rfl (Sub.cons (s := 2) rfl (Sub.cons (s := 3) rfl (Sub.cons (s := 8) rfl (Sub.cons (s := 11) rfl (Sub.cons (s := 12) rfl (Sub.cons (s := 13) rfl (Sub.cons (s := 14) rfl (Sub.cons (s := 15) rfl (Sub.cons (s := 16) rfl (Sub.cons (s := 17) rfl (Sub.cons (s := 18) rfl (Sub.cons (s := 19) rfl (Sub.cons (s := 20) rfl (Sub.cons (s := 21) rfl (Sub.cons (s := 22) rfl (Sub.cons (s := 23) rfl (Sub.cons (s := 24) rfl (Sub.cons (s := 25) rfl (Sub.cons (s := 26) rfl (Sub.cons (s := 27) rfl (Sub.cons (s := 28) rfl (Sub.cons (s := 29) rfl (Sub.cons (s := 30) rfl (Sub.cons (s := 31) rfl (Sub.cons (s := 32) rfl (Sub.cons (s := 33) rfl (Sub.cons (s := 34) rfl (Sub.cons (s := 35) rfl (Sub.cons (s := 36) rfl (Sub.cons (s := 37) rfl (Sub.cons (s := 38) rfl (Sub.cons (s := 39) rfl (Sub.cons (s := 40) rfl (Sub.cons (s := 41) rfl (Sub.cons (s := 42) rfl (Sub.cons (s := 43) rfl (Sub.cons (s := 44) rfl (Sub.cons (s := 45) rfl (Sub.cons (s := 46) rfl (Sub.cons (s := 47) rfl (Sub.cons (s := 48) rfl (Sub.cons (s := 49) rfl (Sub.cons (s := 50) rfl (Sub.cons (s := 51) rfl (Sub.nil _))))))))))))))))))))))))))))))))))))))))))))))) (fun ρ' B' H' => ∃ (A2 : Option Addr) (c2 : Nat), ρ' = [(9, .slice A2 (if (ix * 64) < (toF now mask s.2.1 s.2.2 ix) then pad s.1 (toF now mask s.2.1 s.2.2 ix) else s.1).length c2)] ∧ B = B' ∧ row fb 102 (fcs ⟨⟨fn, now, sure, loose⟩, fb, (some ⟨bn, 0, none⟩), cn, As, cs, (some ⟨ba, 0, none⟩), cl⟩) * (sbuf 5 1 (some ⟨bn, 0, none⟩) now.length cn (u8s now) * (sbuf 5 1 As sure.length cs (u8s sure) * (sbuf 3 1 (some ⟨ba, 0, none⟩) loose.length cl (nv loose) * (row bb 3 [i64 ((s.2.1 + 1 : Nat) : Int)] * (row tb 3 [i64 tr] * (sbuf 5 1 A2 (if (ix * 64) < (toF now mask s.2.1 s.2.2 ix) then pad s.1 (toF now mask s.2.1 s.2.2 ix) else s.1).length c2 (u8s (if (ix * 64) < (toF now mask s.2.1 s.2.2 ix) then pad s.1 (toF now mask s.2.1 s.2.2 ix) else s.1)) * R)))))) = H') ?_ ?_
      · skip
        refine Cx.seq (fun K17 k17 => ?_)
        refine Cx.region ?_
        refine Lx.y (mv rfl) rfl ?_
        refine Lx.y (mv rfl) rfl ?_
        refine Lx.y (lenV (ty' := 0) Try.underlying80 rfl) rfl ?_
        refine Lx.y (gtr rfl rfl) rfl ?_
        refine Lx.y (mv rfl) rfl ?_
        refine Xx.ifD (t := 70) rfl (fun h18 => ?_) (fun h18 => ?_)
        · skip
          have g1 := h18
          refine Lx.gT rfl rfl rfl ?_
          refine Lx.y (mv rfl) rfl ?_
          refine Lx.gT rfl rfl rfl ?_
          refine Lx.y (mv rfl) rfl ?_
          refine Lx.gT rfl rfl rfl ?_
          refine Lx.y (gtr rfl rfl) rfl ?_
          refine Lx.y (pickT rfl rfl) rfl ?_
          refine Lx.nil ?_
          refine Xx.tn (k17 _ _ _ _ ?_)
          refine Cx.condD rfl (fun h19 => ?_) (fun h19 => ?_)
          · skip
            have g2 := h19
            refine Cx.region ?_
            refine Lx.y (mv rfl) rfl ?_
            refine Lx.y (mv rfl) rfl ?_
            refine Lx.y (mv rfl) rfl ?_
            refine Lx.y (lenV (ty' := 0) Try.underlying80 rfl) rfl ?_
            refine Lx.y (Yx.val (sub rfl rfl (by first | exact wrap64 (by omega) (by omega) | rfl)) (show _ = i64 (((toF now mask s.2.1 s.2.2 ix) - s.1.length : Nat) : Int) by congr 1; omega)) rfl ?_
            refine Lx.o (amS (A := A) Try.underlying80 Try.underlying3 ti5 rfl rfl (by omega) rfl (by omega) (by omega)) rfl (fun v B' H' hΦ hB => ?_)
            obtain ⟨A2, c2, rfl, hc2, hBB, rfl⟩ := hΦ
            have hBB2 := hBB.symm
            subst hBB2
            clear hB
            refine Lx.y (asg rfl) rfl ?_
            refine Lx.nil ?_
            have hfl : (ix * 64) < (toF now mask s.2.1 s.2.2 ix) := by omega
            have hpl : (pad s.1 (toF now mask s.2.1 s.2.2 ix)).length = s.1.length + ((toF now mask s.2.1 s.2.2 ix) - s.1.length) := by rw [pad_len]; omega
            exact Xx.mkK (⟨A2, c2, rfl, rfl, by rw [if_pos hfl, hpl, show u8s (pad s.1 (toF now mask s.2.1 s.2.2 ix)) = u8s s.1 ++ List.replicate ((toF now mask s.2.1 s.2.2 ix) - s.1.length) (.int .u8 0) from by unfold pad; rw [u8s_app, u8s_zero]]; simp only [star_left (sbuf 5 1 A2 _ _ _)]⟩) (Sub.consE (s := 9) rfl (by rw [if_pos hfl, hpl]) (Sub.cons (s := 0) rfl (Sub.cons (s := 1) rfl (Sub.cons (s := 2) rfl (Sub.cons (s := 3) rfl (Sub.cons (s := 8) rfl (Sub.cons (s := 11) rfl (Sub.cons (s := 12) rfl (Sub.cons (s := 13) rfl (Sub.cons (s := 14) rfl (Sub.cons (s := 15) rfl (Sub.cons (s := 16) rfl (Sub.cons (s := 17) rfl (Sub.cons (s := 18) rfl (Sub.cons (s := 19) rfl (Sub.cons (s := 20) rfl (Sub.cons (s := 21) rfl (Sub.cons (s := 22) rfl (Sub.cons (s := 23) rfl (Sub.cons (s := 24) rfl (Sub.cons (s := 25) rfl (Sub.cons (s := 26) rfl (Sub.cons (s := 27) rfl (Sub.cons (s := 28) rfl (Sub.cons (s := 29) rfl (Sub.cons (s := 30) rfl (Sub.cons (s := 31) rfl (Sub.cons (s := 32) rfl (Sub.cons (s := 33) rfl (Sub.cons (s := 34) rfl (Sub.cons (s := 35) rfl (Sub.cons (s := 36) rfl (Sub.cons (s := 37) rfl (Sub.cons (s := 38) rfl (Sub.cons (s := 39) rfl (Sub.cons (s := 40) rfl (Sub.cons (s := 41) rfl (Sub.cons (s := 42) rfl (Sub.cons (s := 43) rfl (Sub.cons (s := 44) rfl (Sub.cons (s := 45) rfl (Sub.cons (s := 46) rfl (Sub.cons (s := 47) rfl (Sub.cons (s := 48) rfl (Sub.cons (s := 49) rfl (Sub.cons (s := 50) rfl (Sub.cons (s := 51) rfl (Sub.nil _))))))))))))))))))))))))))))))))))))))))))))))))
          · skip
            have g2 := h19
            refine Cx.skip ?_
            have ho2 : (if (ix * 64) < (toF now mask s.2.1 s.2.2 ix) then pad s.1 (toF now mask s.2.1 s.2.2 ix) else s.1) = s.1 := by rw [if_neg (by omega)]
            exact Xx.mkK (⟨A, c, rfl, rfl, by rw [ho2]⟩) (Sub.consE (s := 9) rfl (by rw [ho2]) (Sub.cons (s := 0) rfl (Sub.cons (s := 1) rfl (Sub.cons (s := 2) rfl (Sub.cons (s := 3) rfl (Sub.cons (s := 8) rfl (Sub.cons (s := 11) rfl (Sub.cons (s := 12) rfl (Sub.cons (s := 13) rfl (Sub.cons (s := 14) rfl (Sub.cons (s := 15) rfl (Sub.cons (s := 16) rfl (Sub.cons (s := 17) rfl (Sub.cons (s := 18) rfl (Sub.cons (s := 19) rfl (Sub.cons (s := 20) rfl (Sub.cons (s := 21) rfl (Sub.cons (s := 22) rfl (Sub.cons (s := 23) rfl (Sub.cons (s := 24) rfl (Sub.cons (s := 25) rfl (Sub.cons (s := 26) rfl (Sub.cons (s := 27) rfl (Sub.cons (s := 28) rfl (Sub.cons (s := 29) rfl (Sub.cons (s := 30) rfl (Sub.cons (s := 31) rfl (Sub.cons (s := 32) rfl (Sub.cons (s := 33) rfl (Sub.cons (s := 34) rfl (Sub.cons (s := 35) rfl (Sub.cons (s := 36) rfl (Sub.cons (s := 37) rfl (Sub.cons (s := 38) rfl (Sub.cons (s := 39) rfl (Sub.cons (s := 40) rfl (Sub.cons (s := 41) rfl (Sub.cons (s := 42) rfl (Sub.cons (s := 43) rfl (Sub.cons (s := 44) rfl (Sub.cons (s := 45) rfl (Sub.cons (s := 46) rfl (Sub.cons (s := 47) rfl (Sub.cons (s := 48) rfl (Sub.cons (s := 49) rfl (Sub.cons (s := 50) rfl (Sub.cons (s := 51) rfl (Sub.nil _))))))))))))))))))))))))))))))))))))))))))))))))
        · skip
          have g1 := h18
          refine Lx.gF rfl rfl rfl rfl ?_
          refine Lx.gF rfl rfl rfl rfl ?_
          refine Lx.gF rfl rfl rfl rfl ?_
          refine Lx.y (pickF rfl rfl) rfl ?_
          refine Lx.nil ?_
          refine Xx.tn (k17 _ _ _ _ ?_)
          refine Cx.condF rfl ?_
          refine Cx.skip ?_
          have ho2 : (if (ix * 64) < (toF now mask s.2.1 s.2.2 ix) then pad s.1 (toF now mask s.2.1 s.2.2 ix) else s.1) = s.1 := by
            split
            · exact pad_le (by omega)
            · rfl
          exact Xx.mkK (⟨A, c, rfl, rfl, by rw [ho2]⟩) (Sub.consE (s := 9) rfl (by rw [ho2]) (Sub.cons (s := 0) rfl (Sub.cons (s := 1) rfl (Sub.cons (s := 2) rfl (Sub.cons (s := 3) rfl (Sub.cons (s := 8) rfl (Sub.cons (s := 11) rfl (Sub.cons (s := 12) rfl (Sub.cons (s := 13) rfl (Sub.cons (s := 14) rfl (Sub.cons (s := 15) rfl (Sub.cons (s := 16) rfl (Sub.cons (s := 17) rfl (Sub.cons (s := 18) rfl (Sub.cons (s := 19) rfl (Sub.cons (s := 20) rfl (Sub.cons (s := 21) rfl (Sub.cons (s := 22) rfl (Sub.cons (s := 23) rfl (Sub.cons (s := 24) rfl (Sub.cons (s := 25) rfl (Sub.cons (s := 26) rfl (Sub.cons (s := 27) rfl (Sub.cons (s := 28) rfl (Sub.cons (s := 29) rfl (Sub.cons (s := 30) rfl (Sub.cons (s := 31) rfl (Sub.cons (s := 32) rfl (Sub.cons (s := 33) rfl (Sub.cons (s := 34) rfl (Sub.cons (s := 35) rfl (Sub.cons (s := 36) rfl (Sub.cons (s := 37) rfl (Sub.cons (s := 38) rfl (Sub.cons (s := 39) rfl (Sub.cons (s := 40) rfl (Sub.cons (s := 41) rfl (Sub.cons (s := 42) rfl (Sub.cons (s := 43) rfl (Sub.cons (s := 44) rfl (Sub.cons (s := 45) rfl (Sub.cons (s := 46) rfl (Sub.cons (s := 47) rfl (Sub.cons (s := 48) rfl (Sub.cons (s := 49) rfl (Sub.cons (s := 50) rfl (Sub.cons (s := 51) rfl (Sub.nil _))))))))))))))))))))))))))))))))))))))))))))))))
      · rintro ρ' B' H' ⟨A2, c2, rfl, rfl, rfl⟩
        obtain ⟨o2, ho2⟩ : ∃ o, o = (if (ix * 64) < (toF now mask s.2.1 s.2.2 ix) then pad s.1 (toF now mask s.2.1 s.2.2 ix) else s.1) := ⟨_, rfl⟩
        have ho2l : o2.length ≤ now.length ∧ ((ix * 64) < (toF now mask s.2.1 s.2.2 ix) → (toF now mask s.2.1 s.2.2 ix) ≤ o2.length) := by
          rw [ho2]
          have := pad_len s.1 (toF now mask s.2.1 s.2.2 ix)
          split
          · exact ⟨by omega, fun _ => by omega⟩
          · exact ⟨hsn, fun h => absurd h (by assumption)⟩
        rw [← ho2]
        refine Xx.factT A2 (fun ho2x ho2c => ?_)
        refine Cx.drawn (by kernel_rfl) ?_
        refine Dx.p (i := 0) rfl (by kernel_rfl) (mv rfl) rfl ?_
        refine Dx.p (i := 1) rfl (by kernel_rfl) (mv rfl) rfl ?_
        refine Dx.p (i := 2) rfl (by kernel_rfl) (mv rfl) rfl ?_
        refine Dx.p (i := 3) rfl (by kernel_rfl) (lenV (ty' := 0) Try.underlying80 rfl) rfl ?_
        refine Dx.p (i := 4) rfl (by kernel_rfl) (minN rfl rfl) rfl ?_
        refine Dx.p (i := 5) rfl (by kernel_rfl) (sl1V (j := min (ix * 64) o2.length) Try.underlying80 sz5 rfl rfl (Int.toNat_natCast _) (by omega) (by omega)) rfl ?_
        refine Dx.p (i := 6) rfl (by kernel_rfl) (mv rfl) rfl ?_
        refine Dx.p (i := 7) rfl (by kernel_rfl) (nilc rfl) rfl ?_
        refine Dx.p (i := 8) rfl (by kernel_rfl) (fa' fo102_0 rfl) rfl ?_
        refine Dx.r (i := 9) rfl (by kernel_rfl) (Yx.val (ld Try.underlying80 rfl rfl rfl) (show _ = Value.slice (some ⟨bn, 0, none⟩) now.length cn from rfl)) rfl ?_
        refine Dx.p (i := 10) rfl (by kernel_rfl) (mv rfl) rfl ?_
        refine Dx.p (i := 11) rfl (by kernel_rfl) (mv rfl) rfl ?_
        refine Dx.p (i := 12) rfl (by kernel_rfl) (sl3V (i := (ix * 64)) (j := (toF now mask s.2.1 s.2.2 ix)) Try.underlying80 sz5 rfl rfl rfl (Int.toNat_natCast _) (Int.toNat_natCast _) (by omega) (by omega) (by omega)) rfl ?_
        refine Dx.one (i := 13) (by kernel_rfl) ?_
        refine Dstep.o (i := 13) rfl (cpS (A := A2) (n := o2.length) (k := min (ix * 64) o2.length) ((toF now mask s.2.1 s.2.2 ix) - (ix * 64)) (u8s (outF now s.1 (ix * 64) (toF now mask s.2.1 s.2.2 ix))) Try.underlying80 sz5 rfl rfl (by omega) (by have := ho2l.2; show min _ _ = _; omega) (by rw [List.length_take, List.length_drop, u8s_len]; omega) (SrcH.buf (b := bn) (f := (ix * 64)) (m := (toF now mask s.2.1 s.2.2 ix) - (ix * 64)) (by rw [u8s_len]) (by omega) hnc) (by rw [List.all_eq_true]; intro v hv; exact List.all_eq_true.1 (u8_all now) v (List.mem_of_mem_drop (List.mem_of_mem_take hv))) (by rw [ho2]; exact copy_out hsn htl.1 htl.2 rfl)) rfl (fun v B' H' hΦ hB => ?_)
        obtain ⟨rfl, hBB, rfl⟩ := hΦ
        have hBB2 := hBB.symm
        subst hBB2
        clear hB
        refine ⟨JOk.yes (JOk.top) (Yx.val (ld Try.underlying80 rfl rfl rfl) (show _ = Value.slice (some ⟨bn, 0, none⟩) now.length cn from rfl)), ?_⟩
        refine Dx.done (by kernel_rfl) ?_
        refine Xx.bn ?_
        refine Xx.tn (k8 _ _ _ _ ?_)
        have hol : (outF now s.1 (ix * 64) (toF now mask s.2.1 s.2.2 ix)).length = o2.length := by
          have := congrArg List.length (copy_out (now := now) (out := s.1) hsn htl.1 htl.2 rfl)
          rw [← ho2, u8s_len] at this
          rw [← this]
          have h9 := ho2l.2
          simp only [List.length_append, List.length_take, List.length_drop, u8s_len]
          omega
        refine Cx.region ?_
        refine Lx.y (Yx.val (add rfl rfl (by first | exact wrap64 (by omega) (by omega) | rfl)) (show _ = i64 ((j + 1 : Nat) : Int) from rfl)) rfl ?_
        refine Lx.y (mv rfl) rfl ?_
        refine Lx.nil ?_
        have e1 : (lostStep now mask s ix).1 = outF now s.1 (ix * 64) (toF now mask s.2.1 s.2.2 ix) := rfl
        have e2 : (lostStep now mask s ix).2.1 = s.2.1 + 1 := rfl
        exact Xx.againK ⟨j + 1, lostStep now mask s ix, A2, c2, ⟨by omega, by rw [foldl_step _ _ _ _ hjl, ← hs, hix], outF_len hsn htl.1, by show s.2.1 + 1 = _; omega⟩, rfl, rfl, rfl, (by rw [e1, e2, htr, hol]; simp only [star_left (sbuf 5 1 A2 _ _ _)])⟩ (by omega) (Sub.consE (s := 9) rfl (by rw [e1, hol]) (Sub.cons (s := 25) rfl (Sub.cons (s := 0) rfl (Sub.cons (s := 1) rfl (Sub.cons (s := 2) rfl (Sub.cons (s := 3) rfl (Sub.cons (s := 8) rfl (Sub.cons (s := 15) rfl (Sub.cons (s := 16) rfl (Sub.cons (s := 17) rfl (Sub.cons (s := 18) rfl (Sub.cons (s := 19) rfl (Sub.cons (s := 20) rfl (Sub.cons (s := 21) rfl (Sub.cons (s := 22) rfl (Sub.cons (s := 23) rfl (Sub.cons (s := 24) rfl (Sub.nil _))))))))))))))))))
  · skip
    obtain rfl : j = loose.length := by have h9 : ¬ (j : Int) < (loose.length : Int) := h7; omega
    rw [List.take_length] at hs
    refine Cx.exit ?_
    refine Xx.te ?_
    refine Xx.te ?_
    refine Xx.bh ?_
    refine Xx.tn (k3 _ _ _ _ ?_)
    refine Cx.seq (fun K20 k20 => ?_)
    refine Cx.region ?_
    refine Lx.y (mv rfl) rfl ?_
    refine Lx.y (asg rfl) rfl ?_
    refine Lx.nil ?_
    refine Xx.tn (k20 _ _ _ _ ?_)
    refine Cx.ret ?_
    have hs9 : s = lostF now sure loose mask bit torn := hs
    subst hs9
    exact Xx.ret1 rfl rfl ⟨rfl, A, c, rfl, rfl⟩ (Frag.le_refl _) (by ac_rfl)
end DkD
end Go.Proofs.Ytgcebieihmlaoaa

/-
  A loss of power.
-/
namespace Go.Proofs.Ytgcebieihmlaoaa
open Go.SL Go.RowKit
set_option linter.unusedVariables false
set_option linter.unusedSimpArgs false
set_option maxRecDepth 100000
open DkA DkB DkC DkD
namespace DkE
theorem sz3 : (Try.prog.info? 3).map (·.size) = some 1 := by kernel_rfl
theorem sz4 : (Try.prog.info? 4).map (·.size) = some 1 := by kernel_rfl
theorem sz5 : (Try.prog.info? 5).map (·.size) = some 1 := by kernel_rfl
theorem sz25 : (Try.prog.info? 25).map (·.size) = some 3 := by kernel_rfl
theorem sz39 : (Try.prog.info? 39).map (·.size) = some 1 := by kernel_rfl
theorem sz80 : (Try.prog.info? 80).map (·.size) = some 1 := by kernel_rfl
theorem ti3 : TI Try.prog 3 [.int .i64 0] 1 8 := TI.of (by kernel_rfl) rfl rfl
theorem ti5 : TI Try.prog 5 [.int .u8 0] 1 1 := TI.of (by kernel_rfl) rfl rfl
theorem fo97_0 : FO Try.prog 97 0 0 1 false := FO.of Try.underlying97 rfl rfl (by kernel_rfl) Try.underlying94 rfl rfl
theorem fo97_2 : FO Try.prog 97 2 2 1 false := FO.of Try.underlying97 rfl rfl (by kernel_rfl) Try.underlying4 rfl rfl
theorem fo102_0 : FO Try.prog 102 0 0 1 false := FO.of Try.underlying102 rfl rfl (by kernel_rfl) Try.underlying80 rfl rfl
theorem fo102_1 : FO Try.prog 102 1 1 1 false := FO.of Try.underlying102 rfl rfl (by kernel_rfl) Try.underlying80 rfl rfl
theorem fo102_2 : FO Try.prog 102 2 2 1 false := FO.of Try.underlying102 rfl rfl (by kernel_rfl) Try.underlying39 rfl rfl

def crashStep (mask : BitVec 64) (s : List Fm × Nat × Int) (k : Int) : List Fm × Nat × Int := match findM k s.1 with
  | none => s
  | some f => (setM ⟨f.n, (lostF f.now f.sure f.loose mask s.2.1 s.2.2).1, (lostF f.now f.sure f.loose mask s.2.1 s.2.2).1, []⟩ s.1, (lostF f.now f.sure f.loose mask s.2.1 s.2.2).2)
def crashFs (mask : BitVec 64) (torn : Int) (fs : List Fm) : List Fm := ((sortI (fs.map (·.n))).foldl (crashStep mask) (fs, 0, torn)).1
def crashD (D : Dm) (mask : BitVec 64) (torn : Int) : Dm := if D.dead = true then D else { D with fs := crashFs mask torn D.fs, dead := true }
theorem findF_some {k : Int} {fs : List Fi} (h : k ∈ fs.map (·.m.n)) : ∃ f, findF k fs = some f := by
  induction fs with
  | nil => cases h
  | cons g fs ih =>
    simp only [findF]
    split
    · exact ⟨g, rfl⟩
    · rename_i e
      rw [List.map_cons] at h
      rcases List.mem_cons.1 h with h | h
      · exact absurd h e
      · exact ih h
theorem setM_ok {fs : List Fm} {f' : Fm} (h : ∀ f ∈ fs, f.Ok) (h' : f'.Ok) : ∀ f ∈ setM f' fs, f.Ok := by
  induction fs with
  | nil => intro f hf; rw [List.mem_singleton.1 hf]; exact h'
  | cons g fs ih =>
    intro f hf
    simp only [setM] at hf
    split at hf
    · rcases List.mem_cons.1 hf with rfl | hf
      · exact h'
      · exact h f (by simp [hf])
    · rcases List.mem_cons.1 hf with rfl | hf
      · exact h f (by simp)
      · exact ih (fun f hf => h f (by simp [hf])) f hf
theorem ints_at {l : List Int} {j : Nat} (h : j < l.length) : ((ints l).drop (0 + j * 1)).take 1 = [i64 l[j]] := by
  rw [show 0 + j * 1 = j by omega, List.drop_eq_getElem_cons (by rw [intsN]; exact h)]
  simp [ints]
theorem keys_kv {fs gs : List Fi} (h : fs.map fkv = gs.map fkv) : fs.map (·.m.n) = gs.map (·.m.n) := by
  have := congrArg (List.map Prod.fst) h
  rw [List.map_map, List.map_map] at this
  exact this

set_option maxHeartbeats 4000000 in
theorem Crash_ct (d : Dk) (db : Nat) (mask : BitVec 64) (torn : Int) (B : Frag) (hF : d.abs.Fit) : Ct Try.prog 17 [.pointer (some ⟨db, 0, none⟩), u64 mask, i64 torn] B (dkH db d) (fun v B' H' => v = .tuple #[] ∧ ∃ d' : Dk, d'.abs = crashD d.abs mask torn ∧ H' = dkH db d') := by
  have hfl : d.fs.length ≤ 1000000 := by have := hF.len; unfold Dk.abs at this; simpa using this
  have hok0 : ∀ f ∈ d.fs, f.m.Ok := fun f hf => hF.ok (List.mem_map.2 ⟨f, hf, rfl⟩)
  refine Ct.of_body Try.func17 rfl (nt := 52) rfl (by kernel_rfl) rfl ?_
  intro N0 w0 R
  unfold dkH
  simp only [star_assoc]
  refine Cx.seq (fun K1 k1 => ?_)
  refine Cx.region ?_
  refine Lx.new (boxO rfl rfl) rfl (fun tb => ?_)
  refine Lx.nil ?_
  refine Xx.tn (k1 _ _ _ _ ?_)
  refine Cx.seq (fun K2 k2 => ?_)
  refine Cx.seq (fun K3 k3 => ?_)
  refine Cx.region ?_
  refine Lx.y (mv rfl) rfl ?_
  refine Lx.y (Yx.ff (eqNilP Try.underlying26 rfl rfl) rfl) rfl ?_
  refine Lx.y (mv rfl) rfl ?_
  refine Lx.gT rfl rfl rfl ?_
  refine Lx.y (mv rfl) rfl ?_
  refine Lx.gT rfl rfl rfl ?_
  refine Lx.y (nilc rfl) rfl ?_
  refine Lx.gT rfl rfl rfl ?_
  refine Lx.y (fa' fo97_2 rfl) rfl ?_
  refine Lx.gT rfl rfl rfl ?_
  refine Lx.y (ld Try.underlying4 rfl rfl rfl) rfl ?_
  refine Lx.y (pickF rfl rfl) rfl ?_
  refine Lx.nil ?_
  refine Xx.tn (k3 _ _ _ _ ?_)
  refine Cx.condB rfl (fun h4 => ?_) (fun h4 => ?_)
  · skip
    have hd := h4
    refine Cx.ret ?_
    refine Xx.tr ?_
    refine Xx.dropB tb ?_
    exact Xx.ret0 rfl ⟨rfl, d, by unfold crashD; rw [if_pos (show d.abs.dead = true from hd)], rfl⟩ (Frag.le_refl _) (by ac_rfl)
  · skip
    have hd := h4
    refine Cx.skip ?_
    refine Xx.tn (k2 _ _ _ _ ?_)
    refine Cx.seq (fun K5 k5 => ?_)
    refine Cx.region ?_
    refine Lx.new (allocO ti3) rfl (fun bb => ?_)
    refine Lx.st (stO Try.underlying3 sz3 rfl rfl rfl (by simp) rfl) ?_
    refine Lx.nil ?_
    refine Xx.tn (k5 _ _ _ _ ?_)
    refine Cx.seq (fun K6 k6 => ?_)
    refine Cx.seq (fun K7 k7 => ?_)
    refine Cx.region ?_
    refine Lx.y (mv rfl) rfl ?_
    refine Lx.c rfl rfl rfl (Files_ct d db _ hfl) ((show _ = dkH db d * (row bb 3 [i64 0] * (row tb 3 [i64 torn] * R)) by unfold dkH; ac_rfl)) rfl ?_
    rintro v1 B1 H1 ⟨Ak, ck, rfl, rfl⟩ hB1
    unfold dkH
    simp only [star_assoc]
    refine Lx.y (lenV (ty' := 0) Try.underlying39 rfl) rfl ?_
    refine Lx.y (mv rfl) rfl ?_
    refine Lx.nil ?_
    refine Xx.tn (k7 _ _ _ _ ?_)
    refine Cx.block ?_
    refine Cx.loopK (Sub.cons (s := 0) rfl (Sub.cons (s := 1) rfl (Sub.cons (s := 2) rfl (Sub.cons (s := 5) rfl (Sub.cons (s := 6) rfl (Sub.cons (s := 10) rfl (Sub.cons (s := 11) rfl (Sub.cons (s := 12) rfl (Sub.cons (s := 13) rfl (Sub.cons (s := 14) rfl (Sub.cons (s := 15) rfl (Sub.cons (s := 16) rfl (Sub.cons (s := 17) rfl (Sub.cons (s := 18) rfl (Sub.cons (s := 19) rfl (Sub.cons (s := 20) rfl (Sub.nil _))))))))))))))))) (fun m ρ' B' H' => ∃ (j : Nat) (s : List Fm × Nat × Int) (fs : List Fi), (j ≤ d.fs.length ∧ s = ((sortI (d.fs.map (·.m.n))).take j).foldl (crashStep mask) (d.abs.fs, 0, torn) ∧ fs.map (·.m) = s.1 ∧ fs.map fkv = d.fs.map fkv ∧ (∀ f ∈ s.1, f.Ok) ∧ s.2.1 ≤ j * 1073741825) ∧ m = d.fs.length - j ∧ ρ' = [(21, i64 ((j : Nat) : Int))] ∧ B1 = B' ∧ row tb 3 [i64 s.2.2] * (row bb 3 [i64 ((s.2.1 : Nat) : Int)] * (sbuf 3 1 Ak d.fs.length ck (ints (sortI (d.fs.map (·.m.n)))) * (row db 97 (dcs d) * (imap d.mb (d.fs.map fkv) * (sbuf 25 3 d.Ap d.plan.length d.cp (d.plan.flatMap scs) * (fisH fs * R)))))) = H') ⟨0, (d.abs.fs, 0, torn), d.fs, ⟨Nat.zero_le _, rfl, rfl, rfl, fun f hf => by obtain ⟨g, hg, rfl⟩ := List.mem_map.1 hf; exact hok0 g hg, Nat.zero_le _⟩, rfl, rfl, rfl, by ac_rfl⟩ (Sub.cons (s := 21) rfl (Sub.cons (s := 0) rfl (Sub.cons (s := 1) rfl (Sub.cons (s := 2) rfl (Sub.cons (s := 5) rfl (Sub.cons (s := 6) rfl (Sub.cons (s := 10) rfl (Sub.cons (s := 11) rfl (Sub.cons (s := 12) rfl (Sub.cons (s := 13) rfl (Sub.cons (s := 14) rfl (Sub.cons (s := 15) rfl (Sub.cons (s := 16) rfl (Sub.cons (s := 17) rfl (Sub.cons (s := 18) rfl (Sub.cons (s := 19) rfl (Sub.cons (s := 20) rfl (Sub.nil _)))))))))))))))))) ?_
    rintro m ρ' B' H' ⟨j, s, fs, ⟨hj, hs, hfs, hkv, hok, hsb⟩, rfl, rfl, rfl, rfl⟩
    refine Cx.seq (fun K8 k8 => ?_)
    refine Cx.region ?_
    refine Lx.y (lss rfl rfl) rfl ?_
    refine Lx.nil ?_
    refine Xx.tn (k8 _ _ _ _ ?_)
    refine Cx.seq (fun K9 k9 => ?_)
    refine Cx.condD rfl (fun h10 => ?_) (fun h10 => ?_)
    · skip
      have hjl : (j : Int) < (d.fs.length : Int) := h10
      have hjl : j < d.fs.length := by omega
      have hjk : j < (sortI (d.fs.map (·.m.n))).length := by rw [sortI_len, List.length_map]; exact hjl
      refine Xx.addrT Ak (by omega) (fun ba hAk hkl hkc => ?_)
      subst hAk
      obtain ⟨f, hff⟩ : ∃ f, findF (sortI (d.fs.map (·.m.n)))[j] fs = some f := findF_some (by rw [keys_kv hkv]; exact (List.mergeSort_perm _ _).mem_iff.1 (List.getElem_mem hjk))
      obtain ⟨Rf, hRf, hsets, _⟩ := fisH_find hff
      obtain ⟨hfm, hfn⟩ := findF_mem hff
      have hfo : f.m.Ok := hok _ (by rw [← hfs]; exact List.mem_map.2 ⟨f, hfm, rfl⟩)
      rw [hRf]
      obtain ⟨⟨fn, now, sure, loose⟩, fb, An, cn, As, cs, Al, cl⟩ := f
      obtain ⟨kk, hkk⟩ : ∃ k, k = (sortI (d.fs.map (·.m.n)))[j] := ⟨_, rfl⟩
      refine Cx.skip ?_
      refine Xx.tn (k9 _ _ _ _ ?_)
      refine Cx.seq (fun K11 k11 => ?_)
      refine Cx.block ?_
      refine Cx.seq (fun K12 k12 => ?_)
      refine Cx.region ?_
      refine Lx.y (ia Try.underlying39 sz3 rfl rfl (by first | exact Int.toNat_natCast _ | rfl) (by omega) (by omega)) rfl ?_
      refine Lx.y (ldC Try.underlying3 rfl rfl (Cells.buf (b := ba) (m := 1) (show _ = [i64 kk] by rw [hkk]; exact ints_at hjk) (by rw [intsN]; omega))) rfl ?_
      refine Lx.y (asg rfl) rfl ?_
      refine Lx.nil ?_
      refine Xx.tn (k12 _ _ _ _ ?_)
      refine Cx.seq (fun K13 k13 => ?_)
      refine Cx.region ?_
      refine Lx.y (mv rfl) rfl ?_
      refine Lx.y (nilc rfl) rfl ?_
      refine Lx.y (fa' fo97_0 rfl) rfl ?_
      refine Lx.y (ld Try.underlying94 rfl rfl rfl) rfl ?_
      refine Lx.y (mv rfl) rfl ?_
      refine Lx.y (lkM Try.underlying94 Try.underlying3 Try.zeroValue95 rfl rfl (v := .pointer (some ⟨fb, 0, none⟩)) (by rw [← hkv, mget_find, hkk, hff]; rfl)) rfl ?_
      refine Lx.y (asg rfl) rfl ?_
      refine Lx.nil ?_
      refine Xx.tn (k13 _ _ _ _ ?_)
      refine Cx.seq (fun K14 k14 => ?_)
      refine Cx.region ?_
      refine Lx.y (mv rfl) rfl ?_
      refine Lx.y (mv rfl) rfl ?_
      refine Lx.y (mv rfl) rfl ?_
      refine Lx.c rfl rfl rfl (lost_ct ⟨⟨fn, now, sure, loose⟩, fb, An, cn, As, cs, Al, cl⟩ bb tb mask s.2.1 s.2.2 _ hfo.2.1 hfo.2.2.1 hfo.2.2.2 (by have := hfo.loose; simp only at this ⊢; omega)) ((show _ = (fiH ⟨⟨fn, now, sure, loose⟩, fb, An, cn, As, cs, Al, cl⟩ * (row bb 3 [i64 ((s.2.1 : Nat) : Int)] * row tb 3 [i64 s.2.2])) * (sbuf 3 1 (some ⟨ba, 0, none⟩) d.fs.length ck (ints (sortI (d.fs.map (·.m.n)))) * (row db 97 (dcs d) * (imap d.mb (d.fs.map fkv) * (sbuf 25 3 d.Ap d.plan.length d.cp (d.plan.flatMap scs) * (Rf * R))))) by ac_rfl)) rfl ?_
      rintro v2 B2 H2 ⟨hBB, A, c, rfl, rfl⟩ hB2
      subst hBB
      rename Frag => B2
      clear hB2
      unfold fiH
      simp only [star_assoc]
      refine Lx.y (nilc rfl) rfl ?_
      refine Lx.y (fa' fo102_0 rfl) rfl ?_
      refine Lx.st (stO Try.underlying80 sz80 rfl rfl rfl (by show 0 < 3; omega) rfl) ?_
      refine Lx.nil ?_
      refine Xx.tn (k14 _ _ _ _ ?_)
      refine Cx.region ?_
      refine Lx.y (mv rfl) rfl ?_
      refine Lx.y (mv rfl) rfl ?_
      refine Lx.y (mv rfl) rfl ?_
      refine Lx.y (nilc rfl) rfl ?_
      refine Lx.y (fa' fo102_0 rfl) rfl ?_
      refine Lx.y (ld Try.underlying80 rfl rfl rfl) rfl ?_
      refine Lx.c rfl rfl rfl (ClB_ct A (lostF now sure loose mask s.2.1 s.2.2).1.length c (u8s (lostF now sure loose mask s.2.1 s.2.2).1) _ (u8_all _) (by have h9 := (lostF_len now mask loose (sure, s.2.1, s.2.2) hfo.2.2.2 hfo.2.1).1; have h8 := hfo.2.2.1; simp only at h8 h9 ⊢; unfold lostF; omega) (by have h9 := (lostF_len now mask loose (sure, s.2.1, s.2.2) hfo.2.2.2 hfo.2.1).1; have h8 := hfo.2.2.1; simp only at h8 h9 ⊢; unfold lostF; omega)) (pickS _) rfl ?_
      rintro v3 B3 H3 ⟨hBB, A9, c9, rfl, rfl⟩ hB3
      subst hBB
      rename Frag => B3
      clear hB3
      simp only [star_assoc]
      refine Lx.y (nilc rfl) rfl ?_
      refine Lx.y (fa' fo102_1 rfl) rfl ?_
      refine Lx.st (stO Try.underlying80 sz80 rfl rfl rfl (by show 1 < 3; omega) rfl) ?_
      refine Lx.y (nilc rfl) rfl ?_
      refine Lx.y (fa' fo102_2 rfl) rfl ?_
      refine Lx.st (stO Try.underlying39 sz39 rfl rfl rfl (by show 2 < 3; omega) rfl) ?_
      refine Lx.nil ?_
      refine Xx.bn ?_
      refine Xx.tn (k11 _ _ _ _ ?_)
      refine Cx.region ?_
      refine Lx.y (Yx.val (add rfl rfl (by first | exact wrap64 (by omega) (by omega) | rfl)) (show _ = i64 ((j + 1 : Nat) : Int) from rfl)) rfl ?_
      refine Lx.y (mv rfl) rfl ?_
      refine Lx.nil ?_
      have hst : crashStep mask s (sortI (d.fs.map (·.m.n)))[j] = (setM ⟨fn, (lostF now sure loose mask s.2.1 s.2.2).1, (lostF now sure loose mask s.2.1 s.2.2).1, []⟩ s.1, (lostF now sure loose mask s.2.1 s.2.2).2) := by
        unfold crashStep
        have hfm := findF_m (sortI (d.fs.map (·.m.n)))[j] fs
        rw [hff, hfs] at hfm
        rw [← hfm]; rfl
      have hll := lostF_len now mask loose (sure, s.2.1, s.2.2) hfo.2.2.2 hfo.2.1
      have hbl : (lostF now sure loose mask s.2.1 s.2.2).2.1 = s.2.1 + loose.length := hll.2
      have hol : (lostF now sure loose mask s.2.1 s.2.2).1.length ≤ now.length := hll.1
      have hset := hsets ⟨⟨fn, (lostF now sure loose mask s.2.1 s.2.2).1, (lostF now sure loose mask s.2.1 s.2.2).1, []⟩, fb, A, c, A9, c9, none, 0⟩ hfn
      refine Xx.perm (Xx.drop (p := (sbuf 5 1 An now.length cn (u8s now) * (sbuf 5 1 As sure.length cs (u8s sure) * sbuf 3 1 Al loose.length cl (nv loose)))) (H := row tb 3 [i64 (lostF now sure loose mask s.2.1 s.2.2).2.2] * (row bb 3 [i64 (((lostF now sure loose mask s.2.1 s.2.2).2.1 : Nat) : Int)] * (sbuf 3 1 (some ⟨ba, 0, none⟩) d.fs.length ck (ints (sortI (d.fs.map (·.m.n)))) * (row db 97 (dcs d) * (imap d.mb (d.fs.map fkv) * (sbuf 25 3 d.Ap d.plan.length d.cp (d.plan.flatMap scs) * (fisH (setF ⟨⟨fn, (lostF now sure loose mask s.2.1 s.2.2).1, (lostF now sure loose mask s.2.1 s.2.2).1, []⟩, fb, A, c, A9, c9, none, 0⟩ fs) * R))))))) ?_) (by rw [hset]; unfold fiH; rw [show (nv [] : List Value) = [] from rfl, List.length_nil, sbuf_nil, star_one]; ac_rfl)
      exact Xx.againK ⟨j + 1, crashStep mask s (sortI (d.fs.map (·.m.n)))[j], setF ⟨⟨fn, (lostF now sure loose mask s.2.1 s.2.2).1, (lostF now sure loose mask s.2.1 s.2.2).1, []⟩, fb, A, c, A9, c9, none, 0⟩ fs, ⟨by omega, by rw [foldl_step _ _ _ _ hjk, ← hs], by rw [setF_m, hfs, hst], by rw [setF_same (f' := ⟨⟨fn, (lostF now sure loose mask s.2.1 s.2.2).1, (lostF now sure loose mask s.2.1 s.2.2).1, []⟩, fb, A, c, A9, c9, none, 0⟩) hff hfn rfl, hkv], by rw [hst]; exact setM_ok hok ⟨List.Pairwise.nil, fun i hi => (by cases hi), (by show (lostF now sure loose mask s.2.1 s.2.2).1.length ≤ _; have := hfo.2.2.1; simp only at this; omega), Nat.le_refl _⟩, by rw [hst]; show (lostF now sure loose mask s.2.1 s.2.2).2.1 ≤ _; have := hfo.loose; rw [hbl]; simp only at this; omega⟩, rfl, rfl, rfl, (by rw [hst])⟩ (by omega) (Sub.cons (s := 21) rfl (Sub.cons (s := 0) rfl (Sub.cons (s := 1) rfl (Sub.cons (s := 2) rfl (Sub.cons (s := 5) rfl (Sub.cons (s := 6) rfl (Sub.cons (s := 10) rfl (Sub.cons (s := 11) rfl (Sub.cons (s := 12) rfl (Sub.cons (s := 13) rfl (Sub.cons (s := 14) rfl (Sub.cons (s := 15) rfl (Sub.cons (s := 16) rfl (Sub.cons (s := 17) rfl (Sub.cons (s := 18) rfl (Sub.cons (s := 19) rfl (Sub.cons (s := 20) rfl (Sub.nil _))))))))))))))))))
    · skip
      obtain rfl : j = d.fs.length := by have h9 : ¬ (j : Int) < (d.fs.length : Int) := h10; omega
      rw [List.take_of_length_le (by rw [sortI_len, List.length_map]; exact Nat.le_refl _)] at hs
      refine Cx.exit ?_
      refine Xx.te ?_
      refine Xx.te ?_
      refine Xx.bh ?_
      refine Xx.tn (k6 _ _ _ _ ?_)
      refine Cx.region ?_
      refine Lx.y (mv rfl) rfl ?_
      refine Lx.y (nilc rfl) rfl ?_
      refine Lx.y (fa' fo97_2 rfl) rfl ?_
      refine Lx.st (stO Try.underlying4 sz4 rfl rfl rfl (by show 2 < 5; omega) rfl) ?_
      refine Lx.nil ?_
      refine Xx.perm (Xx.drop (p := row tb 3 [i64 s.2.2] * (row bb 3 [i64 ((s.2.1 : Nat) : Int)] * sbuf 3 1 Ak d.fs.length ck (ints (sortI (d.fs.map (·.m.n)))))) (H := dkH db {d with fs := fs, dead := true} * R) ?_) (by unfold dkH dcs; simp only [hkv]; ac_rfl)
      have hab : (Dk.abs {d with fs := fs, dead := true}) = crashD d.abs mask torn := by
        unfold crashD
        rw [if_neg (fun h => by rw [show d.abs.dead = d.dead from rfl, hd] at h; cases h)]
        show Dm.mk (fs.map (·.m)) d.room true d.plan d.ch = Dm.mk (crashFs mask torn d.abs.fs) d.room true d.plan d.ch
        congr 1
        rw [hfs, hs]
        unfold crashFs
        rw [show d.abs.fs.map (fun f : Fm => f.n) = d.fs.map (fun f : Fi => f.m.n) from by unfold Dk.abs; rw [List.map_map]; rfl]
      exact Xx.end0 rfl ⟨rfl, {d with fs := fs, dead := true}, hab, rfl⟩ hB1 rfl
end DkE
end Go.Proofs.Ytgcebieihmlaoaa

/-
  A change is counted, or the power fails ahead of it; sectors that are touched.
-/
namespace Go.Proofs.Ytgcebieihmlaoaa
open Go.SL Go.RowKit
set_option linter.unusedVariables false
set_option linter.unusedSimpArgs false
set_option maxRecDepth 100000
open DkA DkB DkC DkD DkE
namespace DkF
theorem sz3 : (Try.prog.info? 3).map (·.size) = some 1 := by kernel_rfl
theorem sz5 : (Try.prog.info? 5).map (·.size) = some 1 := by kernel_rfl
theorem sz25 : (Try.prog.info? 25).map (·.size) = some 3 := by kernel_rfl
theorem sz54 : (Try.prog.info? 54).map (·.size) = some 1 := by kernel_rfl
theorem ti3 : TI Try.prog 3 [.int .i64 0] 1 8 := TI.of (by kernel_rfl) rfl rfl
theorem ti5 : TI Try.prog 5 [.int .u8 0] 1 1 := TI.of (by kernel_rfl) rfl rfl
theorem ti25 : TI Try.prog 25 [.int .i64 0, .int .u64 0, .int .i64 0] 3 24 := TI.of (by kernel_rfl) rfl rfl
theorem fo25_0 : FO Try.prog 25 0 0 1 false := FO.of Try.underlying25 rfl rfl (by kernel_rfl) Try.underlying3 rfl rfl
theorem fo25_1 : FO Try.prog 25 1 1 1 false := FO.of Try.underlying25 rfl rfl (by kernel_rfl) Try.underlying23 rfl rfl
theorem fo25_2 : FO Try.prog 25 2 2 1 false := FO.of Try.underlying25 rfl rfl (by kernel_rfl) Try.underlying3 rfl rfl
theorem fo97_2 : FO Try.prog 97 2 2 1 false := FO.of Try.underlying97 rfl rfl (by kernel_rfl) Try.underlying4 rfl rfl
theorem fo97_3 : FO Try.prog 97 3 3 1 false := FO.of Try.underlying97 rfl rfl (by kernel_rfl) Try.underlying54 rfl rfl
theorem fo97_4 : FO Try.prog 97 4 4 1 false := FO.of Try.underlying97 rfl rfl (by kernel_rfl) Try.underlying3 rfl rfl

theorem flatG_at {α : Type} {enc : α → List Value} {size : Nat} (he : ∀ x, (enc x).length = size) : ∀ (k : Nat) (l : List α) (h : k < l.length), ((l.flatMap enc).drop (k * size)).take size = enc l[k] := by
  intro k
  induction k with
  | zero =>
    intro l h
    cases l with
    | nil => simp at h
    | cons x l =>
      rw [Nat.zero_mul, List.drop_zero, List.flatMap_cons, List.take_append_of_le_length (by rw [he]; exact Nat.le_refl _), List.take_of_length_le (by rw [he]; exact Nat.le_refl _)]; rfl
  | succ k ih =>
    intro l h
    cases l with
    | nil => simp at h
    | cons x l =>
      have h' : k < l.length := by simpa using h
      rw [List.flatMap_cons, List.drop_append, he, List.drop_of_length_le (by rw [he, Nat.succ_mul]; omega), List.nil_append, show (k + 1) * size - size = k * size by rw [Nat.succ_mul]; omega]
      exact ih l h'
theorem flatG_len {α : Type} {enc : α → List Value} {size : Nat} (he : ∀ x, (enc x).length = size) (l : List α) : (l.flatMap enc).length = l.length * size := by
  induction l with
  | nil => simp
  | cons x l ih => rw [List.flatMap_cons, List.length_append, ih, he, List.length_cons, Nat.succ_mul]; omega
theorem flat_at {α : Type} {enc : α → List Value} {size : Nat} {B : Frag} {A : Option Addr} {l : List α} {k : Nat} (he : ∀ x, (enc x).length = size) (h : RoS B size A l.length (l.flatMap enc)) (hk : k < l.length) :
    ∃ b o cs et fz, A = some ⟨b, o, none⟩ ∧ B b = some (.cells (List.toArray cs) et fz) ∧ (cs.drop (o + k * size)).take size = enc l[k] := by
  obtain ⟨b, o, cs, et, fz, h1, h2, h3⟩ := h.at (k := k) hk
  exact ⟨b, o, cs, et, fz, h1, h2, by rw [h3, flatG_at he]⟩
/-- the first place where p holds; -1: there is none -/
def ixF {α : Type} (p : α → Bool) (l : List α) : Int := if l.any p = true then ((l.findIdx p : Nat) : Int) else -1
theorem ixF_at {α : Type} {p : α → Bool} {l : List α} {i : Nat} (h : i < l.length) (hp : p l[i] = true) (hall : ∀ k (hk : k < i), p (l[k]'(by omega)) = false) : ixF p l = i := by
  unfold ixF
  rw [if_pos (List.any_eq_true.2 ⟨l[i], List.getElem_mem h, hp⟩)]
  congr 1
  exact (List.findIdx_eq h).2 ⟨hp, hall⟩
theorem ixF_no {α : Type} {p : α → Bool} {l : List α} (hall : ∀ k (hk : k < l.length), p l[k] = false) : ixF p l = -1 := by
  unfold ixF
  rw [if_neg]
  intro h
  obtain ⟨x, hx, hp⟩ := List.any_eq_true.1 h
  obtain ⟨k, hk, rfl⟩ := List.getElem_of_mem hx
  rw [hall k hk] at hp; cases hp
theorem ixF_ge {α : Type} (p : α → Bool) (l : List α) : decide (0 ≤ ixF p l) = l.any p := by
  unfold ixF
  by_cases h : l.any p = true
  · rw [if_pos h, h]; exact decide_eq_true (by omega)
  · rw [if_neg h, Bool.eq_false_iff.2 h]; exact decide_eq_false (by omega)

set_option maxHeartbeats 1000000 in
theorem IFs_ct (l : List Sk) (p : Sk → Bool) (A : Option Addr) (c : Nat) (fi : FuncId) (caps : List Value) (own : HP) (B : Frag) (hR : RoS B 3 A l.length (l.flatMap scs)) (hn : l.length ≤ 1000000) (hf : ∀ x ∈ l, CtC Try.prog fi (.agg (scs x).toArray :: caps) B own (.bool (p x)) own) : CtC Try.prog 75 [.slice A l.length c, .func (.func fi) #[] caps.toArray] B own (i64 (ixF p l)) own := by
  refine Ct.of_body Try.func75 rfl (nt := 19) rfl (by kernel_rfl) rfl ?_
  intro N0 w0 R
  refine Cx.seq (fun K1 k1 => ?_)
  refine Cx.region ?_
  refine Lx.y (asg rfl) rfl ?_
  refine Lx.nil ?_
  refine Xx.tn (k1 _ _ _ _ ?_)
  refine Cx.seq (fun K2 k2 => ?_)
  refine Cx.seq (fun K3 k3 => ?_)
  refine Cx.region ?_
  refine Lx.y (mv rfl) rfl ?_
  refine Lx.y (lenV (ty' := 0) Try.underlying54 rfl) rfl ?_
  refine Lx.y (mv rfl) rfl ?_
  refine Lx.nil ?_
  refine Xx.tn (k3 _ _ _ _ ?_)
  refine Cx.block ?_
  refine Cx.loopK (Sub.cons (s := 0) rfl (Sub.cons (s := 1) rfl (Sub.cons (s := 6) rfl (Sub.cons (s := 7) rfl (Sub.nil _))))) (fun m ρ' B' H' => ∃ (i : Nat), (i ≤ l.length ∧ ∀ k (hk : k < l.length), k < i → p l[k] = false) ∧ m = l.length - i ∧ ρ' = [(8, i64 i)] ∧ B = B' ∧ own * R = H') ⟨0, ⟨Nat.zero_le _, fun k _ h => absurd h (by omega)⟩, rfl, rfl, rfl, rfl⟩ (Sub.cons (s := 8) rfl (Sub.cons (s := 0) rfl (Sub.cons (s := 1) rfl (Sub.cons (s := 6) rfl (Sub.cons (s := 7) rfl (Sub.nil _)))))) ?_
  rintro m ρ' B' H' ⟨i, ⟨hi, hall⟩, rfl, rfl, rfl, rfl⟩
  refine Cx.seq (fun K4 k4 => ?_)
  refine Cx.region ?_
  refine Lx.y (lss rfl rfl) rfl ?_
  refine Lx.nil ?_
  refine Xx.tn (k4 _ _ _ _ ?_)
  refine Cx.seq (fun K5 k5 => ?_)
  refine Cx.condD rfl (fun h6 => ?_) (fun h6 => ?_)
  · skip
    have hlt := h6
    have hlt : i < l.length := by omega
    obtain ⟨b0, o0, cs0, et0, fz0, rfl, hB0, hc0⟩ := flat_at (fun x => (show (scs x).length = 3 from rfl)) hR hlt
    refine Cx.skip ?_
    refine Xx.tn (k5 _ _ _ _ ?_)
    refine Cx.seq (fun K7 k7 => ?_)
    refine Cx.block ?_
    refine Cx.seq (fun K8 k8 => ?_)
    refine Cx.region ?_
    refine Lx.y (mv rfl) rfl ?_
    refine Lx.y (asg rfl) rfl ?_
    refine Lx.nil ?_
    refine Xx.tn (k8 _ _ _ _ ?_)
    refine Cx.seq (fun K9 k9 => ?_)
    refine Cx.region ?_
    refine Lx.y (mv rfl) rfl ?_
    refine Lx.y (mv rfl) rfl ?_
    refine Lx.y (mv rfl) rfl ?_
    refine Lx.y (ia Try.underlying54 sz25 rfl rfl (by first | exact Int.toNat_natCast _ | rfl) (by omega) (by omega)) rfl ?_
    refine Lx.y (ldA Try.underlying25 rfl sz25 rfl (Cells.base (n := 3) hB0 hc0) rfl) rfl ?_
    refine Lx.co rfl rfl rfl (hf _ (List.getElem_mem hlt)) (rfl) rfl ?_
    refine Lx.nil ?_
    refine Xx.tn (k9 _ _ _ _ ?_)
    refine Cx.condB rfl (fun h10 => ?_) (fun h10 => ?_)
    · skip
      have hp := h10
      refine Cx.seq (fun K11 k11 => ?_)
      refine Cx.region ?_
      refine Lx.y (mv rfl) rfl ?_
      refine Lx.y (asg rfl) rfl ?_
      refine Lx.nil ?_
      refine Xx.tn (k11 _ _ _ _ ?_)
      refine Cx.ret ?_
      refine Xx.br ?_
      refine Xx.tr ?_
      refine Xx.tr ?_
      refine Xx.br ?_
      refine Xx.tr ?_
      exact Xx.ret1 rfl rfl ⟨by rw [ixF_at hlt hp (fun k hk => hall k (by omega) hk)], rfl, rfl⟩ (Frag.le_refl _) rfl
    · skip
      have hp := h10
      refine Cx.skip ?_
      refine Xx.bn ?_
      refine Xx.tn (k7 _ _ _ _ ?_)
      refine Cx.region ?_
      refine Lx.y (Yx.val (add rfl rfl (by first | exact wrap64 (by omega) (by omega) | rfl)) (show _ = i64 ((i + 1 : Nat) : Int) from rfl)) rfl ?_
      refine Lx.y (mv rfl) rfl ?_
      refine Lx.nil ?_
      exact Xx.againK ⟨i + 1, ⟨by omega, fun k hk hki => by
  by_cases e : k = i
  · subst e; exact hp
  · exact hall k hk (by omega)⟩, rfl, rfl, rfl, rfl⟩ (by omega) (Sub.cons (s := 8) rfl (Sub.cons (s := 0) rfl (Sub.cons (s := 1) rfl (Sub.cons (s := 6) rfl (Sub.cons (s := 7) rfl (Sub.nil _))))))
  · skip
    have hge := h6
    refine Cx.exit ?_
    refine Xx.te ?_
    refine Xx.te ?_
    refine Xx.bh ?_
    refine Xx.tn (k2 _ _ _ _ ?_)
    refine Cx.seq (fun K12 k12 => ?_)
    refine Cx.region ?_
    refine Lx.y (asg rfl) rfl ?_
    refine Lx.nil ?_
    refine Xx.tn (k12 _ _ _ _ ?_)
    refine Cx.ret ?_
    exact Xx.ret1 rfl rfl ⟨by rw [ixF_no (fun k hk => hall k hk (by omega))], rfl, rfl⟩ (Frag.le_refl _) rfl

theorem IFs_own (l : List Sk) (p : Sk → Bool) (A : Option Addr) (c : Nat) (fi : FuncId) (caps : List Value) (own : HP) (B : Frag) (hn : l.length ≤ 1000000) (hf : ∀ (B : Frag) x, x ∈ l → CtC Try.prog fi (.agg (scs x).toArray :: caps) B own (.bool (p x)) own) : CtC Try.prog 75 [.slice A l.length c, .func (.func fi) #[] caps.toArray] B (sbuf 25 3 A l.length c (l.flatMap scs) * own) (i64 (ixF p l)) (sbuf 25 3 A l.length c (l.flatMap scs) * own) := by
  have h := Ct.lend (p := sbuf 25 3 A l.length c (l.flatMap scs)) (q := own) (B := B) (args := [.slice A l.length c, .func (.func fi) #[] caps.toArray]) (Φ := fun v H0 => v = i64 (ixF p l) ∧ H0 = own) (Go.SL.enters_of Try.func75 rfl (by kernel_rfl)) (fun k hk ha => Ct.mono (IFs_ct l p A c fi caps own _ (sbuf_ro hk ha).1 hn (fun x hx => hf _ x hx)) fun v B' H' ⟨e1, e2, e3⟩ => ⟨e2, e1, e3⟩)
  refine Ct.mono h ?_
  rintro v B' H' ⟨e1, H0, ⟨e2, e3⟩, e4⟩
  exact ⟨e2, e1, by rw [e4, e3]⟩

set_option maxHeartbeats 1000000 in
theorem strk_ct (x : Sk) (b1 db : Nat) (cs : List Value) (ch : Nat) (B : Frag) (hc : cs[4]? = some (i64 ((ch : Nat) : Int))) : CtC Try.prog 76 [.agg (scs x).toArray, .pointer (some ⟨b1, 0, none⟩)] B (row b1 26 [.pointer (some ⟨db, 0, none⟩)] * row db 97 cs) (.bool (decide (x.at_ = (ch : Int)))) (row b1 26 [.pointer (some ⟨db, 0, none⟩)] * row db 97 cs) := by
  refine Ct.of_body Try.func76 rfl (nt := 11) rfl (by kernel_rfl) rfl ?_
  intro N0 w0 R
  simp only [star_assoc]
  refine Cx.seq (fun K1 k1 => ?_)
  refine Cx.region ?_
  refine Lx.new (boxA rfl) rfl (fun b2 => ?_)
  refine Lx.y (asg rfl) rfl ?_
  refine Lx.nil ?_
  refine Xx.tn (k1 _ _ _ _ ?_)
  refine Cx.seq (fun K2 k2 => ?_)
  refine Cx.drawn (by kernel_rfl) ?_
  refine Dx.p (i := 0) rfl (by kernel_rfl) (fa' fo25_0 rfl) rfl ?_
  refine Dx.r (i := 1) rfl (by kernel_rfl) (ld Try.underlying3 rfl rfl rfl) rfl ?_
  refine Dx.r (i := 2) rfl (by kernel_rfl) (ld Try.underlying26 rfl rfl rfl) rfl ?_
  refine Dx.p (i := 3) rfl (by kernel_rfl) (nilc rfl) rfl ?_
  refine Dx.p (i := 4) rfl (by kernel_rfl) (fa' fo97_4 rfl) rfl ?_
  refine Dx.r (i := 5) rfl (by kernel_rfl) (ld Try.underlying3 rfl rfl hc) rfl ?_
  refine Dx.p (i := 6) rfl (by kernel_rfl) (eqI rfl rfl) rfl ?_
  refine Dx.p (i := 7) rfl (by kernel_rfl) (asg rfl) rfl ?_
  refine Dx.done (by kernel_rfl) ?_
  refine Xx.tn (k2 _ _ _ _ ?_)
  refine Cx.ret ?_
  exact Xx.dropB b2 (Xx.ret1 rfl rfl ⟨rfl, rfl, rfl⟩ (Frag.le_refl _) (by ac_rfl))

def pAt (ch : Nat) (x : Sk) : Bool := decide (x.at_ = (ch : Int))
/-- A change: counted, or the power fails ahead of it. -/
def strikesD (D : Dm) : Dm × Bool := if D.dead = true then (D, true) else match D.plan[D.plan.findIdx (pAt D.ch)]? with
  | none => ({ D with ch := D.ch + 1 }, false)
  | some x => (crashD { D with plan := D.plan.eraseIdx (D.plan.findIdx (pAt D.ch)) } x.mask x.torn, true)
theorem ix_neg {α : Type} {p : α → Bool} {l : List α} (h : ixF p l < 0) : l[l.findIdx p]? = none := by
  unfold ixF at h
  by_cases ha : l.any p = true
  · rw [if_pos ha] at h; omega
  · rw [List.findIdx_eq_length.2 (fun x hx => by
      cases hp : p x with
      | false => rfl
      | true => exact absurd (List.any_eq_true.2 ⟨x, hx, hp⟩) ha)]
    simp
theorem ix_some {α : Type} {p : α → Bool} {l : List α} (h : ¬ ixF p l < 0) : ∃ i, ∃ h : i < l.length, ixF p l = (i : Nat) ∧ l.findIdx p = i := by
  unfold ixF at h ⊢
  by_cases ha : l.any p = true
  · rw [if_pos ha]
    obtain ⟨x, hx, hp⟩ := List.any_eq_true.1 ha
    exact ⟨_, List.findIdx_lt_length_of_exists ⟨x, hx, hp⟩, rfl, rfl⟩
  · rw [if_neg ha] at h; exact absurd h (by decide)
theorem flat_take {α : Type} {enc : α → List Value} {size : Nat} (he : ∀ x, (enc x).length = size) : ∀ (l : List α) (i : Nat), (l.take i).flatMap enc = (l.flatMap enc).take (i * size) := by
  intro l
  induction l with
  | nil => intro i; simp
  | cons x l ih =>
    intro i
    cases i with
    | zero => simp
    | succ i =>
      have h1 : (enc x).take ((i + 1) * size) = enc x := List.take_of_length_le (by rw [he, Nat.succ_mul]; omega)
      rw [List.take_succ_cons, List.flatMap_cons, List.flatMap_cons, ih, List.take_append, h1, he, show (i + 1) * size - size = i * size by rw [Nat.succ_mul]; omega]
theorem flat_drop {α : Type} {enc : α → List Value} {size : Nat} (he : ∀ x, (enc x).length = size) : ∀ (l : List α) (i : Nat), (l.drop i).flatMap enc = (l.flatMap enc).drop (i * size) := by
  intro l
  induction l with
  | nil => intro i; simp
  | cons x l ih =>
    intro i
    cases i with
    | zero => simp
    | succ i =>
      have h1 : (enc x).drop ((i + 1) * size) = [] := List.drop_of_length_le (by rw [he, Nat.succ_mul]; omega)
      rw [List.drop_succ_cons, List.flatMap_cons, ih, List.drop_append, h1, he, List.nil_append, show (i + 1) * size - size = i * size by rw [Nat.succ_mul]; omega]
theorem scs_len (x : Sk) : (scs x).length = 3 := rfl
theorem plan_del (l : List Sk) (i : Nat) : (l.flatMap scs).take (i * 3) ++ (l.flatMap scs).drop ((i + 1) * 3) = (l.eraseIdx i).flatMap scs := by
  rw [List.eraseIdx_eq_take_drop_succ, List.flatMap_append, flat_take scs_len, flat_drop scs_len]
theorem plan_all (l : List Sk) : (l.flatMap scs).all (·.oneCell') = true := by
  rw [List.all_eq_true]; intro v hv
  obtain ⟨x, _, hx⟩ := List.mem_flatMap.1 hv
  exact List.all_eq_true.1 (show (scs x).all (·.oneCell') = true from rfl) v hx
theorem fit_plan {D : Dm} (h : D.Fit) {l : List Sk} (hl : l.length ≤ D.plan.length) : Dm.Fit { D with plan := l } := ⟨h.nd, h.rise, h.lim, h.len, h.now, h.sure, h.room, h.ch, Nat.le_trans hl h.plan⟩

set_option maxHeartbeats 4000000 in
theorem strikes_ct (d : Dk) (db : Nat) (B : Frag) (hF : d.abs.Fit) : Ct Try.prog 48 [.pointer (some ⟨db, 0, none⟩)] B (dkH db d) (fun v B' H' => (v = .bool false ∧ strikesD d.abs = ({ d.abs with ch := d.ch + 1 }, false) ∧ H' = dkH db { d with ch := d.ch + 1 }) ∨ (v = .bool true ∧ (strikesD d.abs).2 = true ∧ ∃ d' : Dk, d'.abs = (strikesD d.abs).1 ∧ H' = dkH db d')) := by
  have hpl : d.plan.length ≤ 1000000 := hF.plan
  have hch : d.ch ≤ 1152921504606846976 := hF.ch
  refine Ct.of_body Try.func48 rfl (nt := 52) rfl (by kernel_rfl) rfl ?_
  intro N0 w0 R
  unfold dkH
  simp only [star_assoc]
  refine Cx.seq (fun K1 k1 => ?_)
  refine Cx.region ?_
  refine Lx.new (boxO rfl rfl) rfl (fun b1 => ?_)
  refine Lx.y (asg rfl) rfl ?_
  refine Lx.nil ?_
  refine Xx.tn (k1 _ _ _ _ ?_)
  refine Cx.seq (fun K2 k2 => ?_)
  refine Cx.seq (fun K3 k3 => ?_)
  refine Cx.region ?_
  refine Lx.y (ld Try.underlying26 rfl rfl rfl) rfl ?_
  refine Lx.y (Yx.ff (eqNilP Try.underlying26 rfl rfl) rfl) rfl ?_
  refine Lx.y (mv rfl) rfl ?_
  refine Lx.gT rfl rfl rfl ?_
  refine Lx.y (ld Try.underlying26 rfl rfl rfl) rfl ?_
  refine Lx.gT rfl rfl rfl ?_
  refine Lx.y (nilc rfl) rfl ?_
  refine Lx.gT rfl rfl rfl ?_
  refine Lx.y (fa' fo97_2 rfl) rfl ?_
  refine Lx.gT rfl rfl rfl ?_
  refine Lx.y (ld Try.underlying4 rfl rfl rfl) rfl ?_
  refine Lx.y (pickF rfl rfl) rfl ?_
  refine Lx.nil ?_
  refine Xx.tn (k3 _ _ _ _ ?_)
  refine Cx.condB rfl (fun h4 => ?_) (fun h4 => ?_)
  · skip
    have hd := h4
    refine Cx.seq (fun K5 k5 => ?_)
    refine Cx.region ?_
    refine Lx.y (asg rfl) rfl ?_
    refine Lx.nil ?_
    refine Xx.tn (k5 _ _ _ _ ?_)
    refine Cx.ret ?_
    refine Xx.tr ?_
    refine Xx.dropB b1 ?_
    exact Xx.ret1 rfl rfl (.inr ⟨rfl, by unfold strikesD; rw [if_pos (show d.abs.dead = true from hd)], d, by unfold strikesD; rw [if_pos (show d.abs.dead = true from hd)], rfl⟩) (Frag.le_refl _) (by ac_rfl)
  · skip
    have hd := h4
    have hdd : ¬ d.abs.dead = true := fun h => by rw [show d.abs.dead = d.dead from rfl, hd] at h; cases h
    refine Cx.skip ?_
    refine Xx.tn (k2 _ _ _ _ ?_)
    refine Cx.seq (fun K6 k6 => ?_)
    refine Cx.region ?_
    refine Lx.y (ld Try.underlying26 rfl rfl rfl) rfl ?_
    refine Lx.y (nilc rfl) rfl ?_
    refine Lx.y (fa' fo97_3 rfl) rfl ?_
    refine Lx.y (ld Try.underlying54 rfl rfl rfl) rfl ?_
    refine Lx.y (mkf rfl rfl) rfl ?_
    have hix := IFs_own d.plan (pAt d.ch) d.Ap d.cp 76 [.pointer (some ⟨b1, 0, none⟩)] (row b1 26 [.pointer (some ⟨db, 0, none⟩)] * row db 97 (dcs d)) B hpl (fun B x _ => strk_ct x b1 db (dcs d) d.ch B rfl)
    refine Lx.co rfl rfl rfl (hix) ((show _ = (sbuf 25 3 d.Ap d.plan.length d.cp (d.plan.flatMap scs) * (row b1 26 [.pointer (some ⟨db, 0, none⟩)] * row db 97 (dcs d))) * (imap d.mb (d.fs.map fkv) * (fisH d.fs * R)) by ac_rfl)) rfl ?_
    simp only [star_assoc]
    refine Lx.y (asg rfl) rfl ?_
    refine Lx.nil ?_
    refine Xx.tn (k6 _ _ _ _ ?_)
    refine Cx.seq (fun K7 k7 => ?_)
    refine Cx.seq (fun K8 k8 => ?_)
    refine Cx.region ?_
    refine Lx.y (mv rfl) rfl ?_
    refine Lx.y (lss rfl rfl) rfl ?_
    refine Lx.nil ?_
    refine Xx.tn (k8 _ _ _ _ ?_)
    refine Cx.condD rfl (fun h9 => ?_) (fun h9 => ?_)
    · skip
      have hno := ix_neg h9
      refine Cx.seq (fun K10 k10 => ?_)
      refine Cx.region ?_
      refine Lx.y (ld Try.underlying26 rfl rfl rfl) rfl ?_
      refine Lx.y (nilc rfl) rfl ?_
      refine Lx.y (fa' fo97_4 rfl) rfl ?_
      refine Lx.y (ld Try.underlying3 rfl rfl rfl) rfl ?_
      refine Lx.y (Yx.val (add rfl rfl (by first | exact wrap64 (by omega) (by omega) | rfl)) (show _ = i64 ((d.ch + 1 : Nat) : Int) from rfl)) rfl ?_
      refine Lx.y (nilc rfl) rfl ?_
      refine Lx.y (fa' fo97_4 rfl) rfl ?_
      refine Lx.st (stO Try.underlying3 sz3 rfl rfl rfl (by show 4 < 5; omega) rfl) ?_
      refine Lx.nil ?_
      refine Xx.tn (k10 _ _ _ _ ?_)
      refine Cx.seq (fun K11 k11 => ?_)
      refine Cx.region ?_
      refine Lx.y (asg rfl) rfl ?_
      refine Lx.nil ?_
      refine Xx.tn (k11 _ _ _ _ ?_)
      refine Cx.ret ?_
      refine Xx.tr ?_
      refine Xx.dropB b1 ?_
      exact Xx.ret1 rfl rfl (.inl ⟨rfl, by unfold strikesD; rw [if_neg hdd, show d.abs.plan[d.abs.plan.findIdx (pAt d.abs.ch)]? = none from hno]; rfl, rfl⟩) (Frag.le_refl _) (by unfold dcs; ac_rfl)
    · skip
      obtain ⟨i, hi, hie, hfi⟩ := ix_some h9
      refine Xx.addrT d.Ap (by omega) (fun bp hAp hpx hpc => ?_)
      refine Cx.skip ?_
      refine Xx.tn (k7 _ _ _ _ ?_)
      refine Cx.seq (fun K12 k12 => ?_)
      refine Cx.region ?_
      refine Lx.y (ld Try.underlying26 rfl rfl rfl) rfl ?_
      refine Lx.y (nilc rfl) rfl ?_
      refine Lx.y (fa' fo97_3 rfl) rfl ?_
      refine Lx.y (Yx.val (ld Try.underlying54 rfl rfl rfl) (show _ = Value.slice (some ⟨bp, 0, none⟩) d.plan.length d.cp from by rw [← hAp])) rfl ?_
      refine Lx.y (Yx.val (mv rfl) (show _ = i64 ((i : Nat) : Int) from by rw [hie])) rfl ?_
      refine Lx.y (ia Try.underlying54 sz25 rfl rfl (by first | exact Int.toNat_natCast _ | rfl) (by omega) (by omega)) rfl ?_
      rw [hAp]
      refine Lx.y (ldA Try.underlying25 rfl sz25 rfl (Cells.buf (b := bp) (m := 3) (show _ = scs d.plan[i] from by rw [Nat.zero_add]; exact flatG_at scs_len i d.plan hi) (by rw [flatG_len scs_len]; omega)) rfl) rfl ?_
      refine Lx.new (allocO ti25) rfl (fun bx => ?_)
      refine Lx.st (stA (d := .bool) sz25 rfl rfl rfl rfl (by show 0 + 3 ≤ 3; omega) rfl) ?_
      refine Lx.nil ?_
      refine Xx.tn (k12 _ _ _ _ ?_)
      refine Cx.seq (fun K13 k13 => ?_)
      rw [← hAp]
      refine Cx.drawn (by kernel_rfl) ?_
      refine Dx.r (i := 0) rfl (by kernel_rfl) (ld Try.underlying26 rfl rfl rfl) rfl ?_
      refine Dx.r (i := 1) rfl (by kernel_rfl) (ld Try.underlying26 rfl rfl rfl) rfl ?_
      refine Dx.p (i := 2) rfl (by kernel_rfl) (nilc rfl) rfl ?_
      refine Dx.p (i := 3) rfl (by kernel_rfl) (fa' fo97_3 rfl) rfl ?_
      refine Dx.r (i := 4) rfl (by kernel_rfl) (ld Try.underlying54 rfl rfl rfl) rfl ?_
      refine Dx.p (i := 5) rfl (by kernel_rfl) (Yx.val (mv rfl) (show _ = i64 ((i : Nat) : Int) from by rw [hie])) rfl ?_
      refine Dx.p (i := 6) rfl (by kernel_rfl) (Yx.val (mv rfl) (show _ = i64 ((i : Nat) : Int) from by rw [hie])) rfl ?_
      refine Dx.p (i := 7) rfl (by kernel_rfl) (Yx.val (add rfl rfl (by first | exact wrap64 (by omega) (by omega) | rfl)) (show _ = i64 ((i + 1 : Nat) : Int) from rfl)) rfl ?_
      refine Dx.one (i := 8) (by kernel_rfl) ?_
      refine Dstep.o (i := 8) rfl (Ox.call rfl rfl rfl (DelS_ct d.Ap i d.plan.length d.cp (d.plan.flatMap scs) _ hi (flatG_len scs_len _) (plan_all _) (by omega)) (pickS _)) rfl (fun v B' H' hΦ hB => ?_)
      obtain ⟨_, rfl, hΦ⟩ := hΦ
      obtain ⟨rfl, hBB, rfl⟩ := hΦ
      subst hBB
      rename Frag => B
      clear hB
      rw [plan_del]
      refine ⟨JOk.edge (JOk.yes (JOk.yes (JOk.top) (ld Try.underlying26 rfl rfl rfl)) (ld Try.underlying26 rfl rfl rfl)) (by kernel_rfl), ?_⟩
      refine Dx.p (i := 9) rfl (by kernel_rfl) (nilc rfl) rfl ?_
      refine Dx.p (i := 10) rfl (by kernel_rfl) (fa' fo97_3 rfl) rfl ?_
      refine Dx.one (i := 11) (by kernel_rfl) ?_
      refine Dstep.o0 (i := 11) rfl (stO Try.underlying54 sz54 rfl rfl rfl (by show 3 < 5; omega) rfl) (fun v B' H' hΦ hB => ?_)
      obtain ⟨rfl, rfl⟩ := hΦ; clear hB v
      refine ⟨JOk.edge (JOk.edge (JOk.edge (JOk.top) (by kernel_rfl)) (by kernel_rfl)) (by kernel_rfl), ?_⟩
      refine Dx.done (by kernel_rfl) ?_
      refine Xx.tn (k13 _ _ _ _ ?_)
      refine Cx.seq (fun K14 k14 => ?_)
      refine Cx.region ?_
      refine Lx.y (ld Try.underlying26 rfl rfl rfl) rfl ?_
      refine Lx.y (fa' fo25_1 rfl) rfl ?_
      refine Lx.y (ld Try.underlying23 rfl rfl rfl) rfl ?_
      refine Lx.y (fa' fo25_2 rfl) rfl ?_
      refine Lx.y (ld Try.underlying3 rfl rfl rfl) rfl ?_
      refine Lx.c rfl rfl rfl (Crash_ct { d with plan := d.plan.eraseIdx i } db d.plan[i].mask d.plan[i].torn _ (fit_plan hF (List.length_eraseIdx_le _ _))) ((show _ = dkH db { d with plan := d.plan.eraseIdx i } * (row bx 25 (scs d.plan[i]) * (row b1 26 [.pointer (some ⟨db, 0, none⟩)] * R)) by unfold dkH dcs; simp only [List.length_eraseIdx_of_lt hi]; ac_rfl)) rfl ?_
      rintro v2 B2 H2 ⟨rfl, d2, hd2, rfl⟩ hB2
      refine Lx.nil ?_
      refine Xx.tn (k14 _ _ _ _ ?_)
      refine Cx.seq (fun K15 k15 => ?_)
      refine Cx.region ?_
      refine Lx.y (asg rfl) rfl ?_
      refine Lx.nil ?_
      refine Xx.tn (k15 _ _ _ _ ?_)
      refine Cx.ret ?_
      refine Xx.dropB bx (Xx.dropB b1 ?_)
      have hst : strikesD d.abs = (crashD { d.abs with plan := d.plan.eraseIdx i } d.plan[i].mask d.plan[i].torn, true) := by
        unfold strikesD
        rw [if_neg hdd, show d.abs.plan[d.abs.plan.findIdx (pAt d.abs.ch)]? = some d.plan[i] from by show d.plan[d.plan.findIdx (pAt d.ch)]? = _; rw [hfi]; exact List.getElem?_eq_getElem hi, show d.abs.plan.findIdx (pAt d.abs.ch) = i from hfi]
        rfl
      exact Xx.ret1 rfl rfl (.inr ⟨rfl, by rw [hst], d2, by rw [hst]; exact hd2, rfl⟩) hB2 rfl
end DkF
end Go.Proofs.Ytgcebieihmlaoaa

/-
  Sectors that are touched.
-/
namespace Go.Proofs.Ytgcebieihmlaoaa
open Go.SL Go.RowKit
set_option linter.unusedVariables false
set_option linter.unusedSimpArgs false
set_option maxRecDepth 100000
open DkA DkB DkC DkD DkE DkF
namespace DkG
theorem sz3 : (Try.prog.info? 3).map (·.size) = some 1 := by kernel_rfl
theorem sz5 : (Try.prog.info? 5).map (·.size) = some 1 := by kernel_rfl
theorem sz25 : (Try.prog.info? 25).map (·.size) = some 3 := by kernel_rfl
theorem sz39 : (Try.prog.info? 39).map (·.size) = some 1 := by kernel_rfl
theorem ti3 : TI Try.prog 3 [.int .i64 0] 1 8 := TI.of (by kernel_rfl) rfl rfl
theorem ti5 : TI Try.prog 5 [.int .u8 0] 1 1 := TI.of (by kernel_rfl) rfl rfl
theorem fo102_2 : FO Try.prog 102 2 2 1 false := FO.of Try.underlying102 rfl rfl (by kernel_rfl) Try.underlying39 rfl rfl

def insN (l : List Nat) (i : Nat) : List Nat := if i ∈ l then l else l.take (lbN l i) ++ [i] ++ l.drop (lbN l i)
/-- the sectors of some bytes, among those that are not sure -/
def touchL (l : List Nat) (fr tu : Nat) : List Nat := if fr < tu then (List.range' (fr / 64) (sec tu - fr / 64)).foldl insN l else l
theorem lbN_take : ∀ (l : List Nat) (t : Nat), ∀ x ∈ l.take (lbN l t), x < t := by
  intro l t
  induction l with
  | nil => intro x hx; simp [lbN] at hx
  | cons k l ih =>
    intro x hx
    unfold lbN at hx
    split at hx
    · rename_i h
      rw [List.take_succ_cons] at hx
      rcases List.mem_cons.1 hx with rfl | hx
      · exact h
      · exact ih x hx
    · simp at hx
theorem lbN_drop : ∀ (l : List Nat) (t : Nat), Rise l → ∀ x ∈ l.drop (lbN l t), t ≤ x := by
  intro l t
  induction l with
  | nil => intro _ x hx; simp at hx
  | cons k l ih =>
    intro hr x hx
    unfold lbN at hx
    split at hx
    · rw [List.drop_succ_cons] at hx
      exact ih (List.pairwise_cons.1 hr).2 x hx
    · rename_i h
      rw [List.drop_zero] at hx
      rcases List.mem_cons.1 hx with rfl | hx
      · omega
      · have := (List.pairwise_cons.1 hr).1 x hx; omega
theorem lbN_le (l : List Nat) (t : Nat) : lbN l t ≤ l.length := by
  induction l with
  | nil => exact Nat.le_refl _
  | cons k l ih => unfold lbN; split <;> simp <;> omega
theorem insN_mem (l : List Nat) (i x : Nat) : x ∈ insN l i ↔ x ∈ l ∨ x = i := by
  unfold insN
  split
  · rename_i h
    constructor
    · exact .inl
    · rintro (h1 | rfl)
      · exact h1
      · exact h
  · conv => rhs; rw [← List.take_append_drop (lbN l i) l]
    simp only [List.mem_append, List.mem_singleton]
    constructor
    · rintro ((h | h) | h)
      · exact .inl (.inl h)
      · exact .inr h
      · exact .inl (.inr h)
    · rintro ((h | h) | h)
      · exact .inl (.inl h)
      · exact .inr h
      · exact .inl (.inr h)
theorem insN_rise {l : List Nat} (h : Rise l) (i : Nat) : Rise (insN l i) := by
  unfold insN
  split
  · exact h
  · rename_i hi
    have ht := lbN_take l i
    have hd := lbN_drop l i h
    have hd2 : ∀ x ∈ l.drop (lbN l i), i < x := fun x hx => by
      have h1 := hd x hx
      have : x ≠ i := fun e => hi (e ▸ List.mem_of_mem_drop hx)
      omega
    refine List.pairwise_append.2 ⟨List.pairwise_append.2 ⟨h.sublist (List.take_sublist _ _), List.pairwise_singleton _ _, fun a ha b hb => ?_⟩, h.sublist (List.drop_sublist _ _), fun a ha b hb => ?_⟩
    · rw [List.mem_singleton.1 hb]; exact ht a ha
    · rcases List.mem_append.1 ha with ha | ha
      · exact Nat.lt_trans (ht a ha) (hd2 b hb)
      · rw [List.mem_singleton.1 ha]; exact hd2 b hb
theorem insN_len (l : List Nat) (i : Nat) : (insN l i).length ≤ l.length + 1 := by
  unfold insN
  split
  · omega
  · simp only [List.length_append, List.length_take, List.length_drop, List.length_singleton]; omega
theorem nv_app (a b : List Nat) : nv (a ++ b) = nv a ++ nv b := by simp [nv]
theorem nv_ins {l : List Nat} {i : Nat} (h : ¬ i ∈ l) : (nv l).take (lbN l i * 1) ++ [i64 ((i : Nat) : Int)] ++ (nv l).drop (lbN l i * 1) = nv (insN l i) := by
  unfold insN
  rw [if_neg h, nv_app, nv_app, Nat.mul_one]
  simp [nv, List.map_take, List.map_drop]
theorem insN_new {l : List Nat} {i : Nat} (h : ¬ i ∈ l) : (insN l i).length = l.length + 1 := by
  have := lbN_le l i
  unfold insN
  rw [if_neg h]
  simp only [List.length_append, List.length_take, List.length_drop, List.length_singleton]; omega
theorem range_step (a n : Nat) (f : List Nat → Nat → List Nat) (l : List Nat) : (List.range' a (n + 1)).foldl f l = f ((List.range' a n).foldl f l) (a + n) := by
  rw [List.range'_concat, List.foldl_append]; simp

set_option maxHeartbeats 4000000 in
theorem touch_ct (f : Fi) (fr tu : Nat) (B : Frag) (hr : Rise f.m.loose) (hl : f.m.loose.length ≤ 1099511627776) (hfr : fr ≤ 1099511627776) (hto : tu ≤ 1099511627776) : Ct Try.prog 51 [.pointer (some ⟨f.b, 0, none⟩), i64 ((fr : Nat) : Int), i64 ((tu : Nat) : Int)] B (fiH f) (fun v B' H' => B' = B ∧ v = .tuple #[] ∧ ∃ Al cl, H' = fiH { f with m := { f.m with loose := touchL f.m.loose fr tu }, Al := Al, cl := cl }) := by
  obtain ⟨⟨fn, now, sure, loose⟩, fb, An, cn, As, cs, Al0, cl0⟩ := f
  simp only at hr hl ⊢
  refine Ct.of_body Try.func51 rfl (nt := 44) rfl (by kernel_rfl) rfl ?_
  intro N0 w0 R
  unfold fiH fcs
  simp only [star_assoc]
  refine Cx.seq (fun K1 k1 => ?_)
  refine Cx.region ?_
  refine Lx.y (mv rfl) rfl ?_
  refine Lx.y (Yx.val (quoN rfl rfl (by omega) (by decide) (by exact wrap64 (by omega) (by omega))) (show _ = i64 ((fr / 64 : Nat) : Int) from rfl)) rfl ?_
  refine Lx.y (asg rfl) rfl ?_
  refine Lx.nil ?_
  refine Xx.tn (k1 _ _ _ _ ?_)
  refine Cx.block ?_
  refine Cx.loopK (Sub.cons (s := 0) rfl (Sub.cons (s := 1) rfl (Sub.cons (s := 2) rfl (Sub.cons (s := 9) rfl (Sub.cons (s := 10) rfl (Sub.nil _)))))) (fun m ρ' B' H' => ∃ (i : Nat) (l : List Nat) (Al : Option Addr) (cl : Nat), (fr / 64 ≤ i ∧ l = (List.range' (fr / 64) (i - fr / 64)).foldl insN loose ∧ Rise l ∧ l.length ≤ loose.length + (i - fr / 64) ∧ (i ≤ sec tu ∨ i = fr / 64) ∧ (fr < tu ∨ l = loose)) ∧ m = sec tu - i ∧ ρ' = [(6, i64 ((i : Nat) : Int))] ∧ B = B' ∧ row fb 102 [.slice An now.length cn, .slice As sure.length cs, .slice Al l.length cl] * (sbuf 5 1 An now.length cn (u8s now) * (sbuf 5 1 As sure.length cs (u8s sure) * (sbuf 3 1 Al l.length cl (nv l) * R))) = H') ⟨fr / 64, loose, _, _, ⟨Nat.le_refl _, by rw [Nat.sub_self]; rfl, hr, by omega, .inr rfl, .inr rfl⟩, rfl, rfl, rfl, rfl⟩ (Sub.cons (s := 6) rfl (Sub.cons (s := 0) rfl (Sub.cons (s := 1) rfl (Sub.cons (s := 2) rfl (Sub.cons (s := 9) rfl (Sub.cons (s := 10) rfl (Sub.nil _))))))) ?_
  rintro m ρ' B' H' ⟨i, l, Al, cl, ⟨hi, hls, hri, hll, hit, hft⟩, rfl, rfl, rfl, rfl⟩
  refine Cx.seq (fun K2 k2 => ?_)
  refine Cx.seq (fun K3 k3 => ?_)
  refine Cx.region ?_
  refine Lx.y (mv rfl) rfl ?_
  refine Lx.y (mv rfl) rfl ?_
  refine Lx.y (lss rfl rfl) rfl ?_
  refine Lx.y (mv rfl) rfl ?_
  refine Xx.ifD (t := 14) rfl (fun h4 => ?_) (fun h4 => ?_)
  · skip
    have g1 := h4
    refine Lx.gT rfl rfl rfl ?_
    refine Lx.y (mv rfl) rfl ?_
    refine Lx.gT rfl rfl rfl ?_
    refine Lx.y (mv rfl) rfl ?_
    refine Lx.gT rfl rfl rfl ?_
    refine Lx.cp rfl rfl rfl (sectors_ct tu _ (by omega)) rfl ?_
    refine Lx.gT rfl rfl rfl ?_
    refine Lx.y (lss rfl rfl) rfl ?_
    refine Lx.y (pickT rfl rfl) rfl ?_
    refine Lx.nil ?_
    refine Xx.tn (k3 _ _ _ _ ?_)
    refine Cx.condD rfl (fun h5 => ?_) (fun h5 => ?_)
    · skip
      have g2 := h5
      have hst : sec tu ≤ 17179869185 := by unfold sec; omega
      refine Cx.skip ?_
      refine Xx.tn (k2 _ _ _ _ ?_)
      refine Cx.seq (fun K6 k6 => ?_)
      refine Cx.block ?_
      refine Cx.seq (fun K7 k7 => ?_)
      refine Cx.region ?_
      refine Lx.y (mv rfl) rfl ?_
      refine Lx.y (nilc rfl) rfl ?_
      refine Lx.y (fa' fo102_2 rfl) rfl ?_
      refine Lx.y (ld Try.underlying39 rfl rfl rfl) rfl ?_
      refine Lx.y (mv rfl) rfl ?_
      refine Lx.co rfl rfl rfl (BSn_ct l i Al cl _ hri (by omega)) (pickS _) rfl ?_
      refine Lx.y (mv rfl) rfl ?_
      refine Lx.y (ext rfl rfl) rfl ?_
      refine Lx.y (ext rfl rfl) rfl ?_
      refine Lx.y (asg rfl) rfl ?_
      refine Lx.y (asg rfl) rfl ?_
      refine Lx.nil ?_
      refine Xx.tn (k7 _ _ _ _ ?_)
      refine Cx.seq (fun K8 k8 => ?_)
      refine Cx.region ?_
      refine Lx.y (mv rfl) rfl ?_
      refine Lx.y (not' rfl) rfl ?_
      refine Lx.nil ?_
      refine Xx.tn (k8 _ _ _ _ ?_)
      refine Cx.condN rfl (fun h9 => ?_) (fun h9 => ?_)
      · skip
        have hni := h9
        refine Cx.region ?_
        refine Lx.y (mv rfl) rfl ?_
        refine Lx.y (mv rfl) rfl ?_
        refine Lx.y (nilc rfl) rfl ?_
        refine Lx.y (fa' fo102_2 rfl) rfl ?_
        refine Lx.y (ld Try.underlying39 rfl rfl rfl) rfl ?_
        refine Lx.y (mv rfl) rfl ?_
        refine Lx.y (mv rfl) rfl ?_
        refine Lx.bsl (bsl1 Try.underlying39 ti3 rfl rfl rfl (by decide)) rfl (fun bv => ?_)
        refine Lx.c rfl rfl rfl (InsI_ct Al (lbN l i) l.length cl (nv l) bv 3 [i64 ((i : Nat) : Int)] _ (lbN_le l i) (by rw [nv_len, Nat.mul_one]) (nv_all l) rfl rfl (by omega)) (pickSB _ _) rfl ?_
        rintro v1 B1 H1 ⟨A9, c9, rfl, hBB, rfl, _, hc9⟩ hB1
        subst hBB
        rename Frag => B1
        clear hB1
        refine Lx.y (nilc rfl) rfl ?_
        refine Lx.y (fa' fo102_2 rfl) rfl ?_
        refine Lx.st (stO Try.underlying39 sz39 rfl rfl rfl (by show 2 < 3; omega) rfl) ?_
        refine Lx.nil ?_
        refine Xx.bn ?_
        refine Xx.tn (k6 _ _ _ _ ?_)
        refine Cx.region ?_
        refine Lx.y (mv rfl) rfl ?_
        refine Lx.y (Yx.val (add rfl rfl (by first | exact wrap64 (by omega) (by omega) | rfl)) (show _ = i64 ((i + 1 : Nat) : Int) from rfl)) rfl ?_
        refine Lx.y (asg rfl) rfl ?_
        refine Lx.nil ?_
        exact Xx.againK ⟨i + 1, insN l i, A9, c9, ⟨by omega, by rw [show i + 1 - fr / 64 = (i - fr / 64) + 1 by omega, range_step, ← hls, show fr / 64 + (i - fr / 64) = i by omega], insN_rise hri i, by have := insN_len l i; omega, .inl (by omega), .inl (by omega)⟩, rfl, rfl, rfl, (by rw [← nv_ins hni, insN_new hni]; ac_rfl)⟩ (by omega) (Sub.cons (s := 6) rfl (Sub.cons (s := 0) rfl (Sub.cons (s := 1) rfl (Sub.cons (s := 2) rfl (Sub.cons (s := 9) rfl (Sub.cons (s := 10) rfl (Sub.nil _)))))))
      · skip
        have hni := h9
        refine Cx.skip ?_
        refine Xx.bn ?_
        refine Xx.tn (k6 _ _ _ _ ?_)
        refine Cx.region ?_
        refine Lx.y (mv rfl) rfl ?_
        refine Lx.y (Yx.val (add rfl rfl (by first | exact wrap64 (by omega) (by omega) | rfl)) (show _ = i64 ((i + 1 : Nat) : Int) from rfl)) rfl ?_
        refine Lx.y (asg rfl) rfl ?_
        refine Lx.nil ?_
        have hin : insN l i = l := by unfold insN; rw [if_pos hni]
        exact Xx.againK ⟨i + 1, insN l i, Al, cl, ⟨by omega, by rw [show i + 1 - fr / 64 = (i - fr / 64) + 1 by omega, range_step, ← hls, show fr / 64 + (i - fr / 64) = i by omega], insN_rise hri i, by have := insN_len l i; omega, .inl (by omega), .inl (by omega)⟩, rfl, rfl, rfl, (by rw [hin]; ac_rfl)⟩ (by omega) (Sub.cons (s := 6) rfl (Sub.cons (s := 0) rfl (Sub.cons (s := 1) rfl (Sub.cons (s := 2) rfl (Sub.cons (s := 9) rfl (Sub.cons (s := 10) rfl (Sub.nil _)))))))
    · skip
      have g2 := h5
      refine Cx.exit ?_
      refine Xx.te ?_
      refine Xx.te ?_
      refine Xx.bh ?_
      have htl : touchL loose fr tu = l := by
        unfold touchL
        rw [if_pos (by omega), hls, show sec tu - fr / 64 = i - fr / 64 by omega]
      exact Xx.end0 rfl ⟨rfl, rfl, Al, cl, rfl⟩ (Frag.le_refl _) (by rw [htl]; ac_rfl)
  · skip
    have g1 := h4
    refine Lx.gF rfl rfl rfl rfl ?_
    refine Lx.gF rfl rfl rfl rfl ?_
    refine Lx.gF rfl rfl rfl rfl ?_
    refine Lx.gF rfl rfl rfl rfl ?_
    refine Lx.y (pickF rfl rfl) rfl ?_
    refine Lx.nil ?_
    refine Xx.tn (k3 _ _ _ _ ?_)
    refine Cx.condF rfl ?_
    refine Cx.exit ?_
    refine Xx.te ?_
    refine Xx.te ?_
    refine Xx.bh ?_
    have htl : touchL loose fr tu = l := by
      unfold touchL
      rw [if_neg (by omega)]
      rcases hft with h | h
      · omega
      · exact h.symm
    exact Xx.end0 rfl ⟨rfl, rfl, Al, cl, rfl⟩ (Frag.le_refl _) (by rw [htl]; ac_rfl)
end DkG
end Go.Proofs.Ytgcebieihmlaoaa

/-
  A text put behind a buffer, or over a part of it.
-/
namespace Go.SL
open Go.RowKit
set_option linter.unusedVariables false
set_option linter.unusedSimpArgs false
section
variable {e : Env} {ds : List Deferred} {ρ : Sl} {B : Frag} {H R : HP} {t tx et ty : TypeId} {x y : Operand}
theorem appT0 {et : TypeId} {size bytes nl c nx : Nat} {zs xs news : List Value} {A : Option Addr} {p : HP} {sv : ByteArray}
    (ht : e.P.underlying t = some (.slice et)) (htx : e.P.underlying tx = some .string) (hz : TI e.P et zs size bytes)
    (hx : ev ρ x = some (.slice A nl c)) (hy : ev ρ y = some (.string sv)) (hsr : ∀ w, Src e.P size tx (.string sv) nx news w) (hnl0 : news.length = nx * size) (h1 : news.all (·.oneCell') = true)
    (hH : H = sbuf et size A nl c xs * (p * R)) (hb : nl + nx ≤ 9223372036854775807) (hbb : (nl + nx) * bytes ≤ 140737488355328) :
    Ox e ds (.call { callee := .builtin .append, args := #[x, y], argTypes := #[t, tx] }) ty ρ B H
      (fun v B' H' => ∃ A' c', v = .slice A' (nl + nx) c' ∧ (0 < nl + nx → ∃ b, A' = some ⟨b, 0, none⟩) ∧ xs.length = nl * size ∧ nl + nx ≤ c' ∧ B' = B ∧ H' = sbuf et size A' (nl + nx) c' (xs ++ news) * (p * R)) :=
  .of_run (fun _ h => by cases h) fun f w dst pos after guard he s => by
    subst hH
    obtain ⟨i, zv, z1, z2, z3, z4, z5, z6, z7⟩ := hz
    have h1' : ∀ u ∈ news, u.oneCell' = true := by simpa using h1
    have hsrc : Src e.P i.size tx (.string sv) nx news w := by rw [z4]; exact hsr w
    have hrunE : ∀ {r w'}, (Builtin.append_ #[t, tx] ty #[.slice A nl c, .string sv]).run e.P w = .ok r w' → (execOp f ⟨dst, .call { callee := .builtin .append, args := #[x, y], argTypes := #[t, tx] }, ty, pos, after, guard⟩).run e.P w = .ok (.value r) w' := by
      intro r w' hr
      simp [execOp, resolve, he _ _ hx, he _ _ hy, invoke, builtin, hr]
    have hnl : news.length = nx * size := hnl0
    have grow : ∀ (olds : List Value), olds.length = nl * size → (Builtin.firstCells i.size nl (.slice A nl c)).run e.P w.drew = .ok olds.toArray w.drew → c < nl + nx → olds = xs → St e.N0 B (p * R) w →
        ∃ v w' B' H', (execOp f ⟨dst, .call { callee := .builtin .append, args := #[x, y], argTypes := #[t, tx] }, ty, pos, after, guard⟩).run e.P w = .ok (.value v) w' ∧
          (∃ A' c', v = .slice A' (nl + nx) c' ∧ (0 < nl + nx → ∃ b, A' = some ⟨b, 0, none⟩) ∧ xs.length = nl * size ∧ nl + nx ≤ c' ∧ B' = B ∧ H' = sbuf et size A' (nl + nx) c' (xs ++ news) * (p * R)) ∧ B.le B' ∧ Below e.N0 w w' ∧ St e.N0 B' H' w' := by
      intro olds hol hold hlt heq s0
      have hcap := nextslicecap_le (need := nl + nx) (old := c) hlt
      have hr := run_append_grow_src (P := e.P) w t tx ty et i zv ht z1 z2 A nl c olds hold (.string sv) nx news hsrc hlt (by omega) (by
        rw [z5]
        calc Builtin.nextslicecap (nl + nx) c * bytes ≤ (2 * (nl + nx)) * bytes := Nat.mul_le_mul_right _ hcap
          _ = 2 * ((nl + nx) * bytes) := by rw [Nat.mul_assoc]
          _ ≤ 281474976710656 := by omega)
      have hge : nl + nx ≤ grownCap w (nl + nx) c et := by
        unfold grownCap Question.cut; simp
      obtain ⟨sp, hsp⟩ : ∃ sp : List Value, (olds ++ news).toArray ++ Builtin.zeroCells zv.cells (grownCap w (nl + nx) c et - (nl + nx)) = (olds ++ news ++ sp).toArray ∧ sp.length = (grownCap w (nl + nx) c et - (nl + nx)) * size := by
        refine ⟨(Builtin.zeroCells zv.cells (grownCap w (nl + nx) c et - (nl + nx))).toList, by apply Array.toList_inj.1; simp, ?_⟩
        simp [Builtin.zeroCells, z3, z6]
      subst heq
      rw [hsp.1] at hr
      refine ⟨_, _, B, _, hrunE hr, ⟨_, _, rfl, fun _ => ⟨_, rfl⟩, hol, hge, rfl, rfl⟩, Frag.le_refl _, ((Below.refl _ _).drew).alloc s.sz _, ?_⟩
      have := s0.drew.alloc (.cells (olds ++ news ++ sp).toArray et (0, 0))
      refine St.of_sbuf (sp := sp) (by simp [hol, hnl, Nat.add_mul]) hge ?_ this
      have : (grownCap w (nl + nx) c et) * size = (grownCap w (nl + nx) c et - (nl + nx)) * size + (nl + nx) * size := by
        rw [← Nat.add_mul]; congr 1; omega
      simp [hol, hnl, hsp.2, this, Nat.add_mul]; omega
    rcases s.cases_sbuf with ⟨e1, e2, e3, e4, s'⟩ | ⟨b, sp, e1, e2, e3, e4, s'⟩
    · subst e1; subst e2; subst e3; subst e4
      by_cases h0 : nx = 0
      · subst h0
        have hn : news = [] := by simpa using hnl
        subst hn
        refine ⟨.slice none 0 0, w, B, _, hrunE ?_, ⟨none, 0, rfl, fun h => by omega, by simp, Nat.le_refl _, rfl, rfl⟩, Frag.le_refl _, Below.refl _ _, by simpa using s⟩
        have hfc := hsrc.cells
        have hlen := hsrc.len w
        simp [Builtin.append_, run_underlying ht, run_underlying htx, sizeOf, typeInfo, z1, hlen, hfc]
      · exact grow [] (by simp) (by simp [Builtin.firstCells]) (by omega) rfl s'
    · subst e1
      by_cases hroom : nl + nx ≤ c
      · have hspl : (nl + nx) * size ≤ c * size := Nat.mul_le_mul_right _ hroom
        have hlen1 : xs.length + sp.length = c * size := by simpa using e4
        have hh := s'.blk.1
        have hst := run_storeCells_at (P := e.P) b (nl * size) et news 0 (xs ++ sp).toArray w hh (by simp; rw [Nat.add_mul] at hspl; omega) h1'
        have hl2 : (xs ++ sp).take (nl * size + 0) ++ news ++ (xs ++ sp).drop (nl * size + 0 + news.length) = (xs ++ news) ++ sp.drop news.length := by
          simp only [Nat.add_zero]
          rw [List.take_append_of_le_length (by omega), ← e2, List.take_length, List.drop_append]
          simp
        simp only [List.toList_toArray] at hst
        rw [hl2] at hst
        have hlen := hsrc.len w
        have hfc := hsrc.cells
        rw [z4] at hfc
        have hr : (Builtin.append_ #[t, tx] ty #[.slice (some ⟨b, 0, none⟩) nl c, .string sv]).run e.P w = .ok (.slice (some ⟨b, 0, none⟩) (nl + nx) c) (w.setRow b ((xs ++ news) ++ sp.drop news.length).toArray) := by
          simp only [Builtin.append_, Sem.run_bind, Sem.run_pure, Result.andThen, run_underlying ht, run_underlying htx, sizeOf, typeInfo, run_program, z1, z4, hlen, hroom, if_true, hfc, add_mk, Nat.zero_add, hst, List.getElem?_toArray, List.getElem?_cons_zero, List.getElem?_cons_succ]
          simp [hlen, hroom, hfc, hst]
        refine ⟨_, _, B, _, hrunE hr, ⟨_, _, rfl, fun _ => ⟨_, rfl⟩, e2, hroom, rfl, rfl⟩, Frag.le_refl _, (s'.setRow _).2, ?_⟩
        refine St.of_sbuf (sp := sp.drop news.length) (by simp [e2, hnl, Nat.add_mul]) hroom ?_ (s'.setRow _).1
        simp
        rw [Nat.add_mul] at hspl
        omega
      · exact grow xs e2 (by
          have := run_firstCells_some (P := e.P) w.drew i.size nl ⟨b, 0, none⟩ nl c xs (by rw [z4]; exact e2) (fun j u hj => by
            rw [add_mk, Nat.zero_add]
            refine cell_of_heap s'.drew.blk.1 ?_
            rw [List.getElem?_append_left (List.getElem?_eq_some_iff.1 hj).1]; exact hj)
          exact this) (by omega) rfl s'.drop
theorem byteCells_str (l : List UInt8) : byteCells ⟨l.toArray⟩ = u8s l := by simp [byteCells, u8s]
theorem appT {A : Option Addr} {xs zs : List Value} {nl c bytes : Nat} {l : List UInt8} (n' : Nat) (xs' : List Value) (ht : e.P.underlying t = some (.slice et)) (htx : e.P.underlying tx = some .string) (hz : TI e.P et zs 1 bytes)
    (hx : ev ρ x = some (.slice A nl c)) (hy : ev ρ y = some (str l)) [hp : PickS H A et 1 nl c xs R] (hb : nl + l.length ≤ 9223372036854775807) (hbb : (nl + l.length) * bytes ≤ 140737488355328) (hn : nl + l.length = n') (hxs : xs ++ u8s l = xs') :
    Ox e ds (.call { callee := .builtin .append, args := #[x, y], argTypes := #[t, tx] }) ty ρ B H
      (fun v B' H' => ∃ A' c', v = .slice A' n' c' ∧ (0 < n' → ∃ b, A' = some ⟨b, 0, none⟩) ∧ n' ≤ c' ∧ B' = B ∧ H' = sbuf et 1 A' n' c' xs' * R) := by
  subst hn hxs
  have h := appT0 (e := e) (ds := ds) (ρ := ρ) (B := B) (H := H) (ty := ty) (R := R) (p := 1) (nx := l.length) (news := u8s l) (sv := ⟨l.toArray⟩) ht htx hz hx hy (fun w => by
    have := Src.ofString (P := e.P) (w := w) htx ⟨l.toArray⟩
    rw [byteCells_str] at this
    exact this) (by rw [u8s_len, Nat.mul_one]) (by rw [List.all_eq_true]; intro v hv; obtain ⟨x, _, rfl⟩ := List.mem_map.1 hv; rfl) (by rw [one_star]; exact hp.eq) hb hbb
  exact ⟨h.1, fun a w dst pos after guard K Q f b s k => h.2 a w dst pos after guard K Q f b s fun v B' H' w' ⟨A', c', e1, e2, e3, e4, e5, e6⟩ hB hb hs => k v B' H' w' ⟨A', c', e1, e2, e4, e5, by rw [e6, one_star]⟩ hB hb hs⟩
end
section
variable {e : Env} {ds : List Deferred} {ρ : Sl} {B : Frag} {H R : HP} {t tx et et' ty tyx : TypeId} {x y : Operand} {nl nd c : Nat} {xs news : List Value} {A : Option Addr} {l : List UInt8}
/-- copy of a text into a buffer's part. -/
theorem cpT {n k : Nat} (cnt : Nat) (xs' : List Value) (ht : e.P.underlying t = some (.slice et)) (hs : (e.P.info? et).map (·.size) = some 1) (hx : ev ρ x = some (.slice (subA A c k 1) (n - k) (c - k))) (hy : ev ρ y = some (str l)) [hp : PickS H A et 1 n c xs R]
    (hk : k ≤ n) (hc : Nat.min l.length (n - k) = cnt) (hn : news.length = cnt) (hnews : u8s l = news) (h1 : news.all (·.oneCell') = true) (hr : xs.take k ++ news ++ xs.drop (k + cnt) = xs') :
    Ox e ds (.call { callee := .builtin .copy, args := #[x, y], argTypes := #[t, tx] }) ty ρ B H (fun v B' H' => v = i64 cnt ∧ B' = B ∧ H' = sbuf et 1 A n c xs' * R) :=
  .of_run (fun _ h => by cases h) fun f w dst pos after guard he s => by
    subst hc hr
    have s0 := s.of_eq hp.eq
    have hsz : (⟨l.toArray⟩ : ByteArray).size = l.length := by simp [ByteArray.size]
    have hll : Nat.min l.length (n - k) = l.length := by rw [← hn, ← hnews, u8s_len]
    have hfc : (Builtin.firstCells 1 (Nat.min l.length (n - k)) (str l)).run e.P w = .ok news.toArray w := by
      rw [hll, ← hnews]
      simp [Builtin.firstCells, str, u8s, ByteArray.extract, ByteArray.copySlice]
    cases hq : e.P.info? et with
    | none => simp [hq] at hs
    | some i =>
      have hi : i.size = 1 := by simpa [hq] using hs
      by_cases h0 : news = []
      · subst h0
        have hm0 : Nat.min l.length (n - k) = 0 := by simpa using hn.symm
        have hcp : (Builtin.copy_ #[t, tx] ty #[.slice (subA A c k 1) (n - k) (c - k), str l]).run e.P w = .ok (i64 (Nat.min l.length (n - k) : Nat)) w := by
          rw [← hi] at hfc
          simp only [Builtin.copy_, Sem.run_bind, run_underlying ht, Result.andThen, Builtin.lenOf, hsz, Sem.run_pure, sizeOf, typeInfo, run_program, hq, hfc, List.getElem?_toArray, List.getElem?_cons_zero, List.getElem?_cons_succ]
          cases subA A c k 1 <;> simp [hfc, goInt, storeCells]
        refine ⟨_, w, B, _, ?_, ⟨rfl, rfl, rfl⟩, Frag.le_refl _, Below.refl _ _, ?_⟩
        · simp [execOp, resolve, he _ _ hx, he _ _ hy, invoke, builtin, hcp]
        · rw [hm0, List.append_nil, Nat.add_zero, List.take_append_drop]; exact s0
      · have hpos : 0 < Nat.min l.length (n - k) := by rw [← hn]; exact List.length_pos_iff.2 h0
        have hle : Nat.min l.length (n - k) ≤ n - k := Nat.min_le_right _ _
        rcases s0.cases_sbuf with ⟨_, h2, _⟩ | ⟨b, sp, e1, e2, e3, e4, s'⟩
        · omega
        · subst e1
          have e9 : subA (some ⟨b, 0, none⟩) c k 1 = some ⟨b, k, none⟩ := by
            unfold subA; rw [if_neg (by omega)]; simp [add_mk]
          rw [e9] at hx
          rw [List.length_append] at e4
          have hst := run_storeCells_at (P := e.P) b (k) et news 0 (xs ++ sp).toArray w s'.blk.1 (by simp; omega) (by simpa using h1)
          simp only [List.toList_toArray, Nat.add_zero] at hst
          have hcs : (xs ++ sp).take (k) ++ news ++ (xs ++ sp).drop (k + news.length) = xs.take k ++ news ++ xs.drop (k + Nat.min l.length (n - k)) ++ sp := by
            rw [List.take_append_of_le_length (by omega), List.drop_append_of_le_length (by omega), hn, List.append_assoc, List.append_assoc, List.append_assoc]
          rw [hcs] at hst
          have hcp : (Builtin.copy_ #[t, tx] ty #[.slice (some ⟨b, k, none⟩) (n - k) (c - k), str l]).run e.P w = .ok (i64 (Nat.min l.length (n - k) : Nat)) (w.setRow b (xs.take k ++ news ++ xs.drop (k + Nat.min l.length (n - k)) ++ sp).toArray) := by
            rw [← hi] at hfc
            simp only [Builtin.copy_, Sem.run_bind, run_underlying ht, Result.andThen, Builtin.lenOf, hsz, Sem.run_pure, sizeOf, typeInfo, run_program, hq, hfc, hst, List.getElem?_toArray, List.getElem?_cons_zero, List.getElem?_cons_succ]
            simp [hfc, hst, goInt]
          have hl : (xs.take k ++ news ++ xs.drop (k + Nat.min l.length (n - k))).length = n := by
            simp only [List.length_append, List.length_take, List.length_drop, hn]; omega
          refine ⟨_, _, B, _, ?_, ⟨rfl, rfl, rfl⟩, Frag.le_refl _, (s'.setRow _).2, St.of_sbuf (sp := sp) (by omega) e3 (by rw [List.length_append]; omega) (s'.setRow _).1⟩
          simp [execOp, resolve, he _ _ hx, he _ _ hy, invoke, builtin, hcp]
end
end Go.SL

/-
  Bytes put behind a file.
-/
namespace Go.Proofs.Ytgcebieihmlaoaa
open Go.SL Go.RowKit
set_option linter.unusedVariables false
set_option linter.unusedSimpArgs false
set_option maxRecDepth 100000
open DkA DkB DkC DkD DkE DkF DkG
namespace DkH
theorem sz3 : (Try.prog.info? 3).map (·.size) = some 1 := by kernel_rfl
theorem sz5 : (Try.prog.info? 5).map (·.size) = some 1 := by kernel_rfl
theorem sz25 : (Try.prog.info? 25).map (·.size) = some 3 := by kernel_rfl
theorem sz80 : (Try.prog.info? 80).map (·.size) = some 1 := by kernel_rfl
theorem ti3 : TI Try.prog 3 [.int .i64 0] 1 8 := TI.of (by kernel_rfl) rfl rfl
theorem ti5 : TI Try.prog 5 [.int .u8 0] 1 1 := TI.of (by kernel_rfl) rfl rfl
theorem ti102 : TI Try.prog 102 [.slice none 0 0, .slice none 0 0, .slice none 0 0] 3 72 := TI.of (by kernel_rfl) rfl rfl
theorem fo97_0 : FO Try.prog 97 0 0 1 false := FO.of Try.underlying97 rfl rfl (by kernel_rfl) Try.underlying94 rfl rfl
theorem fo97_1 : FO Try.prog 97 1 1 1 false := FO.of Try.underlying97 rfl rfl (by kernel_rfl) Try.underlying3 rfl rfl
theorem fo97_2 : FO Try.prog 97 2 2 1 false := FO.of Try.underlying97 rfl rfl (by kernel_rfl) Try.underlying4 rfl rfl
theorem fo102_0 : FO Try.prog 102 0 0 1 false := FO.of Try.underlying102 rfl rfl (by kernel_rfl) Try.underlying80 rfl rfl
theorem pl102 : PL Try.prog 102 [(0, 1), (1, 1), (2, 1)] := PL.of Try.underlying102 (by kernel_rfl)

/-- the file of that number, a new one else -/
def fileM (n : Int) (fs : List Fm) : Fm := (findM n fs).getD ⟨n, [], [], []⟩
def appendD (D : Dm) (n : Int) (s : List UInt8) : Dm × Int × Int :=
  if D.dead = true then (D, 0, 7) else if n < 0 then (D, 0, 1)
  else if s ≠ [] ∧ ((sec ((fileM n D.fs).now.length + s.length) : Nat) : Int) - (sec (fileM n D.fs).now.length : Nat) > D.room - (usedM D.fs : Nat) then (D, 0, 50)
  else if (strikesD D).2 = true then ((strikesD D).1, 0, 7)
  else ({ (strikesD D).1 with fs := setM ⟨n, (fileM n D.fs).now ++ s, (fileM n D.fs).sure, touchL (fileM n D.fs).loose (fileM n D.fs).now.length ((fileM n D.fs).now.length + s.length)⟩ (strikesD D).1.fs }, (((fileM n D.fs).now.length : Nat) : Int), 0)
/-- a file that is there, or a new one beside -/
theorem file_ex {n : Int} {fs : List Fi} {f : Fi} {ex : HP} (h : (findF n fs = some f ∧ ex = 1) ∨ (findF n fs = none ∧ f.m = ⟨n, [], [], []⟩ ∧ ex = fiH f)) :
    ∃ Rf, ex * fisH fs = fiH f * Rf ∧ (∀ f', f'.m.n = n → fisH (setF f' fs) = fiH f' * Rf) ∧ f.m = fileM n (fs.map (·.m)) ∧ f.m.n = n := by
  rcases h with ⟨h1, h2⟩ | ⟨h1, h2, h3⟩
  · subst h2
    obtain ⟨Rf, e1, e2, _⟩ := fisH_find h1
    refine ⟨Rf, by rw [one_star]; exact e1, e2, ?_, (findF_mem h1).2⟩
    have := findF_m n fs
    rw [h1] at this
    unfold fileM
    rw [← this]; rfl
  · subst h3
    refine ⟨fisH fs, rfl, fun f' hf => fisH_new (by rw [hf]; exact h1), ?_, by rw [h2]⟩
    have := findF_m n fs
    rw [h1] at this
    unfold fileM
    rw [← this, h2]; rfl

theorem fileM_ok {n : Int} {fs : List Fm} (h : ∀ f ∈ fs, f.Ok) : (fileM n fs).Ok := by
  induction fs with
  | nil => exact ⟨List.Pairwise.nil, fun i hi => absurd hi List.not_mem_nil, by show 0 ≤ _; omega, Nat.le_refl _⟩
  | cons g fs ih =>
    unfold fileM
    simp only [findM]
    split
    · exact h g (by simp)
    · exact ih fun f hf => h f (by simp [hf])
theorem used_le {D : Dm} (h : D.Fit) : usedM D.fs ≤ 1073741825000000 := by
  have h1 := sum_le (fun m : Fm => sec m.now.length) 1073741825 D.fs (fun m hm => by
    have := h.now m hm
    show sec _ ≤ _
    unfold sec; omega)
  have := h.len
  have h2 : D.fs.length * 1073741825 ≤ 1000000 * 1073741825 := Nat.mul_le_mul_right _ this
  unfold usedM
  omega
theorem strikes_ct2 (d : Dk) (db : Nat) (B : Frag) (hF : d.abs.Fit) : Ct Try.prog 48 [.pointer (some ⟨db, 0, none⟩)] B (dkH db d) (fun v B' H' => v = .bool (strikesD d.abs).2 ∧ ((strikesD d.abs).2 = false → (strikesD d.abs).1 = { d.abs with ch := d.ch + 1 } ∧ H' = dkH db { d with ch := d.ch + 1 }) ∧ ((strikesD d.abs).2 = true → ∃ d' : Dk, d'.abs = (strikesD d.abs).1 ∧ H' = dkH db d')) := by
  refine Ct.mono (strikes_ct d db B hF) ?_
  rintro v B' H' (⟨rfl, h1, rfl⟩ | ⟨rfl, h1, d', h2, rfl⟩)
  · rw [h1]; exact ⟨rfl, fun _ => ⟨rfl, rfl⟩, fun h => (by cases h)⟩
  · rw [h1]; exact ⟨rfl, fun h => (by cases h), fun _ => ⟨d', h2, rfl⟩⟩

set_option maxHeartbeats 4000000 in
theorem Append_ct (d : Dk) (db : Nat) (n : Int) (s : List UInt8) (B : Frag) (hF : d.abs.Fit) (hs : s.length ≤ 68719476736) : Ct Try.prog 15 [.pointer (some ⟨db, 0, none⟩), i64 n, str s] B (dkH db d) (fun v B' H' => v = .tuple #[i64 (appendD d.abs n s).2.1, i64 (appendD d.abs n s).2.2] ∧ ∃ d' : Dk, d'.abs = (appendD d.abs n s).1 ∧ H' = dkH db d') := by
  have hroom := hF.room
  have hused := used_le hF
  have hroom1 : 0 ≤ d.room := hroom.1
  have hroom2 : d.room ≤ 9223372036854775807 := hroom.2
  refine Ct.of_body Try.func15 rfl (nt := 82) rfl (by kernel_rfl) rfl ?_
  intro N0 w0 R
  unfold dkH
  simp only [star_assoc]
  refine Cx.seq (fun K1 k1 => ?_)
  refine Cx.region ?_
  refine Lx.y (asg rfl) rfl ?_
  refine Lx.y (asg rfl) rfl ?_
  refine Lx.nil ?_
  refine Xx.tn (k1 _ _ _ _ ?_)
  refine Cx.seq (fun K2 k2 => ?_)
  refine Cx.block ?_
  refine Cx.seq (fun K3 k3 => ?_)
  refine Cx.region ?_
  refine Lx.y (mv rfl) rfl ?_
  refine Lx.y (Yx.ff (eqNilP Try.underlying26 rfl rfl) rfl) rfl ?_
  refine Lx.y (mv rfl) rfl ?_
  refine Lx.gT rfl rfl rfl ?_
  refine Lx.y (mv rfl) rfl ?_
  refine Lx.gT rfl rfl rfl ?_
  refine Lx.y (nilc rfl) rfl ?_
  refine Lx.gT rfl rfl rfl ?_
  refine Lx.y (fa' fo97_2 rfl) rfl ?_
  refine Lx.gT rfl rfl rfl ?_
  refine Lx.y (ld Try.underlying4 rfl rfl rfl) rfl ?_
  refine Lx.y (pickF rfl rfl) rfl ?_
  refine Lx.y (asg rfl) rfl ?_
  refine Lx.nil ?_
  refine Xx.tn (k3 _ _ _ _ ?_)
  refine Cx.condB rfl (fun h4 => ?_) (fun h4 => ?_)
  · skip
    have hd := h4
    refine Cx.seq (fun K5 k5 => ?_)
    refine Cx.region ?_
    refine Lx.y (asg rfl) rfl ?_
    refine Lx.y (asg rfl) rfl ?_
    refine Lx.nil ?_
    refine Xx.tn (k5 _ _ _ _ ?_)
    refine Cx.ret ?_
    refine Xx.br ?_
    refine Xx.tr ?_
    exact Xx.ret2 rfl rfl rfl ⟨by unfold appendD; rw [if_pos (show d.abs.dead = true from hd)], d, by unfold appendD; rw [if_pos (show d.abs.dead = true from hd)], rfl⟩ (Frag.le_refl _) (by ac_rfl)
  · skip
    have hd := h4
    have hdd : ¬ d.abs.dead = true := fun h => by rw [show d.abs.dead = d.dead from rfl, hd] at h; cases h
    refine Cx.seq (fun K6 k6 => ?_)
    refine Cx.region ?_
    refine Lx.y (mv rfl) rfl ?_
    refine Lx.y (lss rfl rfl) rfl ?_
    refine Lx.y (asg rfl) rfl ?_
    refine Lx.nil ?_
    refine Xx.tn (k6 _ _ _ _ ?_)
    refine Cx.condD rfl (fun h7 => ?_) (fun h7 => ?_)
    · skip
      have hn := h7
      refine Cx.seq (fun K8 k8 => ?_)
      refine Cx.region ?_
      refine Lx.y (asg rfl) rfl ?_
      refine Lx.y (asg rfl) rfl ?_
      refine Lx.nil ?_
      refine Xx.tn (k8 _ _ _ _ ?_)
      refine Cx.ret ?_
      refine Xx.br ?_
      refine Xx.tr ?_
      exact Xx.ret2 rfl rfl rfl ⟨by unfold appendD; rw [if_neg hdd, if_pos hn], d, by unfold appendD; rw [if_neg hdd, if_pos hn], rfl⟩ (Frag.le_refl _) (by ac_rfl)
    · skip
      have hn := h7
      refine Cx.skip ?_
      refine Xx.bn ?_
      refine Xx.tn (k2 _ _ _ _ ?_)
      refine Cx.seq (fun K9 k9 => ?_)
      refine Cx.region ?_
      refine Lx.y (mv rfl) rfl ?_
      refine Lx.y (nilc rfl) rfl ?_
      refine Lx.y (fa' fo97_0 rfl) rfl ?_
      refine Lx.y (ld Try.underlying94 rfl rfl rfl) rfl ?_
      refine Lx.y (mv rfl) rfl ?_
      refine Lx.y (lkM Try.underlying94 Try.underlying3 Try.zeroValue95 rfl rfl (v := .pointer ((findF n d.fs).map fun f => ⟨f.b, 0, none⟩)) (by rw [mget_find]; cases findF n d.fs <;> rfl)) rfl ?_
      refine Lx.y (asg rfl) rfl ?_
      refine Lx.nil ?_
      refine Xx.tn (k9 _ _ _ _ ?_)
      refine Cx.cutK (ds' := []) (Sub.cons (s := 0) rfl (Sub.cons (s := 1) rfl (Sub.cons (s := 2) rfl (Sub.cons (s := 6) rfl (Sub.cons (s := 7) rfl (Sub.cons (s := 10) rfl (Sub.cons (s := 11) rfl (Sub.cons (s := 12) rfl (Sub.cons (s := 13) rfl (Sub.cons (s := 14) rfl (Sub.cons (s := 15) rfl (Sub.cons (s := 16) rfl (Sub.cons (s := 17) rfl (Sub.cons (s := 18) rfl (Sub.cons (s := 19) rfl (Sub.cons (s := 20) rfl (Sub.cons (s := 21) rfl (Sub.cons (s := 22) rfl (Sub.cons (s := 23) rfl (Sub.cons (s := 24) rfl (Sub.cons (s := 25) rfl (Sub.cons (s := 26) rfl (Sub.cons (s := 27) rfl (Sub.nil _)))))))))))))))))))))))) (fun ρ' B' H' => ∃ (f : Fi) (ex Rf : HP), ρ' = [(8, .pointer (some ⟨f.b, 0, none⟩))] ∧ B = B' ∧ row db 97 (dcs d) * (imap d.mb (d.fs.map fkv) * (sbuf 25 3 d.Ap d.plan.length d.cp (d.plan.flatMap scs) * (fiH f * (Rf * R)))) = H' ∧ ex * fisH d.fs = fiH f * Rf ∧ (∀ f' : Fi, f'.m.n = n → fisH (setF f' d.fs) = fiH f' * Rf) ∧ f.m = fileM n d.abs.fs ∧ f.m.n = n) ?_ ?_
      · skip
        refine Cx.seq (fun K10 k10 => ?_)
        refine Cx.region ?_
        refine Lx.y (mv rfl) rfl ?_
        refine Lx.y (eqNilP Try.underlying95 rfl rfl) rfl ?_
        refine Lx.nil ?_
        refine Xx.tn (k10 _ _ _ _ ?_)
        refine Cx.condB rfl (fun h11 => ?_) (fun h11 => ?_)
        · skip
          have hq : findF n d.fs = none := by
            cases hq : findF n d.fs with
            | none => rfl
            | some f => have h9 := h11; rw [hq] at h9; cases h9
          refine Cx.region ?_
          refine Lx.y (bld ti102 pl102 rfl rfl) rfl ?_
          refine Lx.new (boxA rfl) rfl (fun fb => ?_)
          refine Lx.y (asg rfl) rfl ?_
          refine Lx.nil ?_
          obtain ⟨Rf, e1, e2, e3, e4⟩ := file_ex (n := n) (fs := d.fs) (f := ⟨⟨n, [], [], []⟩, fb, none, 0, none, 0, none, 0⟩) (ex := fiH ⟨⟨n, [], [], []⟩, fb, none, 0, none, 0, none, 0⟩) (.inr ⟨hq, rfl, rfl⟩)
          have hfi : fiH ⟨⟨n, [], [], []⟩, fb, none, 0, none, 0, none, 0⟩ = row fb 102 [.slice none 0 0, .slice none 0 0, .slice none 0 0] := by
            unfold fiH fcs
            rw [show u8s [] = [] from rfl, show nv [] = [] from rfl]
            simp only [List.length_nil, sbuf_nil, star_one]
          exact Xx.mkK (⟨⟨⟨n, [], [], []⟩, fb, none, 0, none, 0, none, 0⟩, _, Rf, rfl, rfl, by rw [← star_assoc (fiH _) Rf R, ← e1, hfi]; ac_rfl, e1, e2, e3, e4⟩) (Sub.cons (s := 8) rfl (Sub.cons (s := 0) rfl (Sub.cons (s := 1) rfl (Sub.cons (s := 2) rfl (Sub.cons (s := 6) rfl (Sub.cons (s := 7) rfl (Sub.cons (s := 10) rfl (Sub.cons (s := 11) rfl (Sub.cons (s := 12) rfl (Sub.cons (s := 13) rfl (Sub.cons (s := 14) rfl (Sub.cons (s := 15) rfl (Sub.cons (s := 16) rfl (Sub.cons (s := 17) rfl (Sub.cons (s := 18) rfl (Sub.cons (s := 19) rfl (Sub.cons (s := 20) rfl (Sub.cons (s := 21) rfl (Sub.cons (s := 22) rfl (Sub.cons (s := 23) rfl (Sub.cons (s := 24) rfl (Sub.cons (s := 25) rfl (Sub.cons (s := 26) rfl (Sub.cons (s := 27) rfl (Sub.nil _)))))))))))))))))))))))))
        · skip
          obtain ⟨f, hff⟩ : ∃ f, findF n d.fs = some f := by
            cases hq : findF n d.fs with
            | none => have h9 := h11; rw [hq] at h9; cases h9
            | some f => exact ⟨f, rfl⟩
          refine Cx.skip ?_
          obtain ⟨Rf, e1, e2, e3, e4⟩ := file_ex (n := n) (fs := d.fs) (f := f) (ex := 1) (.inl ⟨hff, rfl⟩)
          exact Xx.mkK (⟨f, 1, Rf, rfl, rfl, by rw [← star_assoc (fiH f) Rf R, ← e1, one_star], e1, e2, e3, e4⟩) (Sub.consE (s := 8) rfl (by rw [hff]; rfl) (Sub.cons (s := 0) rfl (Sub.cons (s := 1) rfl (Sub.cons (s := 2) rfl (Sub.cons (s := 6) rfl (Sub.cons (s := 7) rfl (Sub.cons (s := 10) rfl (Sub.cons (s := 11) rfl (Sub.cons (s := 12) rfl (Sub.cons (s := 13) rfl (Sub.cons (s := 14) rfl (Sub.cons (s := 15) rfl (Sub.cons (s := 16) rfl (Sub.cons (s := 17) rfl (Sub.cons (s := 18) rfl (Sub.cons (s := 19) rfl (Sub.cons (s := 20) rfl (Sub.cons (s := 21) rfl (Sub.cons (s := 22) rfl (Sub.cons (s := 23) rfl (Sub.cons (s := 24) rfl (Sub.cons (s := 25) rfl (Sub.cons (s := 26) rfl (Sub.cons (s := 27) rfl (Sub.nil _)))))))))))))))))))))))))
      · rintro ρ' B' H' ⟨f, ex, Rf, rfl, rfl, rfl, hex, hset, hfm, hfn⟩
        have hfo : f.m.Ok := by rw [hfm]; exact fileM_ok fun g hg => hF.ok hg
        have hfo3 := hfo.2.2.1
        have hback : ∀ X : HP, X * (imap d.mb (d.fs.map fkv) * (sbuf 25 3 d.Ap d.plan.length d.cp (d.plan.flatMap scs) * (fiH f * (Rf * R)))) = (X * (imap d.mb (d.fs.map fkv) * (sbuf 25 3 d.Ap d.plan.length d.cp (d.plan.flatMap scs) * fisH d.fs))) * (ex * R) := fun X => by rw [← star_assoc (fiH f) Rf R, ← hex]; ac_rfl
        have hun : fiH f * (Rf * R) = row f.b 102 (fcs f) * (sbuf 5 1 f.An f.m.now.length f.cn (u8s f.m.now) * (sbuf 5 1 f.As f.m.sure.length f.cs (u8s f.m.sure) * (sbuf 3 1 f.Al f.m.loose.length f.cl (nv f.m.loose) * (Rf * R)))) := by unfold fiH; ac_rfl
        rw [hun] at hback ⊢
        refine Cx.seq (fun K12 k12 => ?_)
        refine Cx.region ?_
        refine Lx.y (mv rfl) rfl ?_
        refine Lx.y (nilc rfl) rfl ?_
        refine Lx.y (fa' fo102_0 rfl) rfl ?_
        refine Lx.y (Yx.val (ld Try.underlying80 rfl rfl rfl) (show _ = Value.slice f.An f.m.now.length f.cn from rfl)) rfl ?_
        refine Lx.y (lenV (ty' := 0) Try.underlying80 rfl) rfl ?_
        refine Lx.y (asg rfl) rfl ?_
        refine Lx.nil ?_
        refine Xx.tn (k12 _ _ _ _ ?_)
        refine Cx.seq (fun K13 k13 => ?_)
        refine Cx.seq (fun K14 k14 => ?_)
        refine Cx.drawn (by kernel_rfl) ?_
        refine Dx.p (i := 0) rfl (by kernel_rfl) (mv rfl) rfl ?_
        refine Dx.p (i := 1) rfl (by kernel_rfl) (neS rfl rfl) rfl ?_
        refine Dx.p (i := 2) rfl (by kernel_rfl) (mv rfl) rfl ?_
        refine Xx.ifN (t := 39) rfl (fun h15 => ?_) (fun h15 => ?_)
        · skip
          have g1 := h15
          refine Dx.pT (i := 3) rfl rfl rfl rfl (by kernel_rfl) (mv rfl) rfl ?_
          refine Dx.pT (i := 4) rfl rfl rfl rfl (by kernel_rfl) (mv rfl) rfl ?_
          refine Dx.pT (i := 5) rfl rfl rfl rfl (by kernel_rfl) (lenS Try.underlying9 rfl) rfl ?_
          refine Dx.pT (i := 6) rfl rfl rfl rfl (by kernel_rfl) (Yx.val (add rfl rfl (by first | exact wrap64 (by omega) (by omega) | rfl)) (show _ = i64 ((f.m.now.length + s.length : Nat) : Int) from rfl)) rfl ?_
          refine Dx.pT (i := 8) rfl rfl rfl rfl (by kernel_rfl) (mv rfl) rfl ?_
          refine Dx.pT (i := 11) rfl rfl rfl rfl (by kernel_rfl) (mv rfl) rfl ?_
          refine Dx.pT (i := 12) rfl rfl rfl rfl (by kernel_rfl) (nilc rfl) rfl ?_
          refine Dx.pT (i := 13) rfl rfl rfl rfl (by kernel_rfl) (fa' fo97_1 rfl) rfl ?_
          refine Dx.rT (i := 14) rfl rfl rfl rfl (by kernel_rfl) (Yx.val (ld Try.underlying3 rfl rfl rfl) (show _ = i64 d.room from rfl)) rfl ?_
          refine Dx.pT (i := 15) rfl rfl rfl rfl (by kernel_rfl) (mv rfl) rfl ?_
          refine Dx.one (i := 7) (by kernel_rfl) ?_
          refine Dstep.oT (i := 7) rfl rfl rfl rfl (Ox.cb rfl rfl rfl (sectors_ct (f.m.now.length + s.length) _ (by omega))) rfl (fun v B' H' hΦ hB => ?_)
          obtain ⟨rfl, rfl, hBB⟩ := hΦ; have hBB2 := hBB.symm; subst hBB2; clear hB
          refine ⟨JOk.yes (JOk.top) (Yx.val (ld Try.underlying3 rfl rfl rfl) (show _ = i64 d.room from rfl)), ?_⟩
          refine Dx.one (i := 9) (by kernel_rfl) ?_
          refine Dstep.oT (i := 9) rfl rfl rfl rfl (Ox.cb rfl rfl rfl (sectors_ct f.m.now.length _ (by omega))) rfl (fun v B' H' hΦ hB => ?_)
          obtain ⟨rfl, rfl, hBB⟩ := hΦ; have hBB2 := hBB.symm; subst hBB2; clear hB
          refine ⟨JOk.yes (JOk.top) (Yx.val (ld Try.underlying3 rfl rfl rfl) (show _ = i64 d.room from rfl)), ?_⟩
          refine Dx.pT (i := 10) rfl rfl rfl rfl (by kernel_rfl) (sub rfl rfl (by exact wrap64 (by unfold sec; omega) (by unfold sec; omega))) rfl ?_
          refine Dx.one (i := 16) (by kernel_rfl) ?_
          refine Dstep.oT (i := 16) rfl rfl rfl rfl (Ox.co rfl rfl rfl (Used_ct d db _ hF) (hback _)) rfl (fun v B' H' hΦ hB => ?_)
          obtain ⟨rfl, rfl, rfl⟩ := hΦ; clear hB
          rw [show dkH db d * (ex * R) = row db 97 (dcs d) * (imap d.mb (d.fs.map fkv) * (sbuf 25 3 d.Ap d.plan.length d.cp (d.plan.flatMap scs) * (row f.b 102 (fcs f) * (sbuf 5 1 f.An f.m.now.length f.cn (u8s f.m.now) * (sbuf 5 1 f.As f.m.sure.length f.cs (u8s f.m.sure) * (sbuf 3 1 f.Al f.m.loose.length f.cl (nv f.m.loose) * (Rf * R))))))) from (hback _).symm]
          refine ⟨JOk.yes (JOk.top) (Yx.val (ld Try.underlying3 rfl rfl rfl) (show _ = i64 d.room from rfl)), ?_⟩
          refine Dx.pT (i := 17) rfl rfl rfl rfl (by kernel_rfl) (sub rfl rfl (by exact wrap64 (by omega) (by omega))) rfl ?_
          refine Dx.pT (i := 18) rfl rfl rfl rfl (by kernel_rfl) (gtr rfl rfl) rfl ?_
          refine Dx.p (i := 19) rfl (by kernel_rfl) (pickT rfl rfl) rfl ?_
          refine Dx.done (by kernel_rfl) ?_
          refine Xx.tn (k14 _ _ _ _ ?_)
          refine Cx.condD rfl (fun h16 => ?_) (fun h16 => ?_)
          · skip
            have g2 := h16
            refine Cx.seq (fun K17 k17 => ?_)
            refine Cx.region ?_
            refine Lx.y (asg rfl) rfl ?_
            refine Lx.y (asg rfl) rfl ?_
            refine Lx.nil ?_
            refine Xx.tn (k17 _ _ _ _ ?_)
            refine Cx.ret ?_
            refine Xx.tr ?_
            have hg : s ≠ [] ∧ ((sec ((fileM n d.abs.fs).now.length + s.length) : Nat) : Int) - (sec (fileM n d.abs.fs).now.length : Nat) > d.abs.room - (usedM d.abs.fs : Nat) := by rw [← hfm]; exact ⟨g1, g2⟩
            have hap : appendD d.abs n s = (d.abs, 0, 50) := by unfold appendD; rw [if_neg hdd, if_neg hn, if_pos hg]
            refine Xx.perm (Xx.perm (Xx.drop (p := ex) (H := dkH db d * R) ?_) (star_left _ _ _)) (hback _)
            exact Xx.ret2 rfl rfl rfl ⟨by rw [hap], d, by rw [hap], rfl⟩ (Frag.le_refl _) rfl
          · skip
            have g2 := h16
            refine Cx.skip ?_
            refine Xx.tn (k13 _ _ _ _ ?_)
            refine Cx.seq (fun K18 k18 => ?_)
            refine Cx.seq (fun K19 k19 => ?_)
            refine Cx.region ?_
            refine Lx.y (mv rfl) rfl ?_
            refine Lx.c rfl rfl rfl (strikes_ct2 d db _ hF) (hback _) rfl ?_
            rintro v1 B1 H1 ⟨rfl, hFf, hTt⟩ hB1
            refine Lx.nil ?_
            refine Xx.tn (k19 _ _ _ _ ?_)
            refine Cx.condB rfl (fun h20 => ?_) (fun h20 => ?_)
            · skip
              have g3 := h20
              obtain ⟨d2, hd2, rfl⟩ := hTt g3
              refine Cx.seq (fun K21 k21 => ?_)
              refine Cx.region ?_
              refine Lx.y (asg rfl) rfl ?_
              refine Lx.y (asg rfl) rfl ?_
              refine Lx.nil ?_
              refine Xx.tn (k21 _ _ _ _ ?_)
              refine Cx.ret ?_
              refine Xx.tr ?_
              have hg : ¬ (s ≠ [] ∧ ((sec ((fileM n d.abs.fs).now.length + s.length) : Nat) : Int) - (sec (fileM n d.abs.fs).now.length : Nat) > d.abs.room - (usedM d.abs.fs : Nat)) := fun h => by rw [← hfm] at h; exact g2 h.2
              have hap : appendD d.abs n s = ((strikesD d.abs).1, 0, 7) := by unfold appendD; rw [if_neg hdd, if_neg hn, if_neg hg, if_pos g3]
              refine Xx.perm (Xx.drop (p := ex) (H := dkH db d2 * R) ?_) (star_left _ _ _)
              exact Xx.ret2 rfl rfl rfl ⟨by rw [hap], d2, by rw [hap]; exact hd2, rfl⟩ hB1 rfl
            · skip
              have g3 := h20
              obtain ⟨hs1, rfl⟩ := hFf g3
              rw [show dkH db { d with ch := d.ch + 1 } * (ex * R) = row db 97 (dcs { d with ch := d.ch + 1 }) * (imap d.mb (d.fs.map fkv) * (sbuf 25 3 d.Ap d.plan.length d.cp (d.plan.flatMap scs) * (row f.b 102 (fcs f) * (sbuf 5 1 f.An f.m.now.length f.cn (u8s f.m.now) * (sbuf 5 1 f.As f.m.sure.length f.cs (u8s f.m.sure) * (sbuf 3 1 f.Al f.m.loose.length f.cl (nv f.m.loose) * (Rf * R))))))) from (hback _).symm]
              refine Cx.skip ?_
              refine Xx.tn (k18 _ _ _ _ ?_)
              refine Cx.seq (fun K22 k22 => ?_)
              refine Cx.region ?_
              refine Lx.y (mv rfl) rfl ?_
              refine Lx.y (nilc rfl) rfl ?_
              refine Lx.y (fa' fo97_0 rfl) rfl ?_
              refine Lx.y (ld Try.underlying94 rfl rfl rfl) rfl ?_
              refine Lx.y (mv rfl) rfl ?_
              refine Lx.y (mv rfl) rfl ?_
              refine Lx.o0 (stM Try.underlying94 Try.underlying3 rfl rfl rfl) (fun v B' H' hΦ hB => ?_)
              obtain ⟨hBB, rfl⟩ := hΦ
              have hBB2 := hBB.symm
              subst hBB2
              clear hB
              refine Lx.nil ?_
              refine Xx.tn (k22 _ _ _ _ ?_)
              refine Cx.seq (fun K23 k23 => ?_)
              refine Cx.region ?_
              refine Lx.y (mv rfl) rfl ?_
              refine Lx.y (mv rfl) rfl ?_
              refine Lx.y (nilc rfl) rfl ?_
              refine Lx.y (fa' fo102_0 rfl) rfl ?_
              refine Lx.y (Yx.val (ld Try.underlying80 rfl rfl rfl) (show _ = Value.slice f.An f.m.now.length f.cn from rfl)) rfl ?_
              refine Lx.y (mv rfl) rfl ?_
              refine Lx.o (appT (et := 5) (A := f.An) (f.m.now.length + s.length) (u8s (f.m.now ++ s)) Try.underlying80 Try.underlying9 ti5 rfl rfl (by omega) (by omega) rfl (by rw [u8s_app])) rfl (fun v B' H' hΦ hB => ?_)
              obtain ⟨A2, c2, rfl, hA2, hc2, hBB, rfl⟩ := hΦ
              have hBB2 := hBB.symm
              subst hBB2
              clear hB
              refine Lx.y (nilc rfl) rfl ?_
              refine Lx.y (fa' fo102_0 rfl) rfl ?_
              refine Lx.st (stO Try.underlying80 sz80 rfl rfl rfl (by show 0 < 3; omega) rfl) ?_
              refine Lx.nil ?_
              refine Xx.tn (k23 _ _ _ _ ?_)
              refine Cx.seq (fun K24 k24 => ?_)
              refine Cx.region ?_
              refine Lx.y (mv rfl) rfl ?_
              refine Lx.y (mv rfl) rfl ?_
              refine Lx.y (mv rfl) rfl ?_
              refine Lx.y (mv rfl) rfl ?_
              refine Lx.y (lenS Try.underlying9 rfl) rfl ?_
              refine Lx.y (Yx.val (add rfl rfl (by first | exact wrap64 (by omega) (by omega) | rfl)) (show _ = i64 ((f.m.now.length + s.length : Nat) : Int) from rfl)) rfl ?_
              refine Lx.c rfl rfl rfl (touch_ct ⟨⟨n, f.m.now ++ s, f.m.sure, f.m.loose⟩, f.b, A2, c2, f.As, f.cs, f.Al, f.cl⟩ f.m.now.length (f.m.now.length + s.length) _ hfo.1 (by have := hfo.loose; show f.m.loose.length ≤ _; omega) (by omega) (by omega)) ((show _ = fiH ⟨⟨n, f.m.now ++ s, f.m.sure, f.m.loose⟩, f.b, A2, c2, f.As, f.cs, f.Al, f.cl⟩ * (row db 97 (dcs { d with ch := d.ch + 1 }) * (imap d.mb (mset n (.pointer (some ⟨f.b, 0, none⟩)) (d.fs.map fkv)) * (sbuf 25 3 d.Ap d.plan.length d.cp (d.plan.flatMap scs) * (Rf * R)))) by unfold fiH fcs; simp only [List.length_append]; generalize f.m.now.length + s.length = q; ac_rfl)) rfl ?_
              rintro v2 B2 H2 ⟨hBB, rfl, Al9, cl9, rfl⟩ hB2
              refine Lx.nil ?_
              refine Xx.tn (k24 _ _ _ _ ?_)
              refine Cx.seq (fun K25 k25 => ?_)
              refine Cx.region ?_
              refine Lx.y (mv rfl) rfl ?_
              refine Lx.y (asg rfl) rfl ?_
              refine Lx.y (asg rfl) rfl ?_
              refine Lx.nil ?_
              refine Xx.tn (k25 _ _ _ _ ?_)
              refine Cx.ret ?_
              have hg : ¬ (s ≠ [] ∧ ((sec ((fileM n d.abs.fs).now.length + s.length) : Nat) : Int) - (sec (fileM n d.abs.fs).now.length : Nat) > d.abs.room - (usedM d.abs.fs : Nat)) := fun h => by rw [← hfm] at h; exact g2 h.2
              have hap : appendD d.abs n s = ({ d.abs with ch := d.ch + 1, fs := setM ⟨n, f.m.now ++ s, f.m.sure, touchL f.m.loose f.m.now.length (f.m.now.length + s.length)⟩ d.abs.fs }, ((f.m.now.length : Nat) : Int), 0) := by
                unfold appendD
                rw [if_neg hdd, if_neg hn, if_neg hg, if_neg (by rw [g3]; decide), hs1, ← hfm]
              have e1 := hset ⟨⟨n, f.m.now ++ s, f.m.sure, touchL f.m.loose f.m.now.length (f.m.now.length + s.length)⟩, f.b, A2, c2, f.As, f.cs, Al9, cl9⟩ rfl
              have e2 := mset_set ⟨⟨n, f.m.now ++ s, f.m.sure, touchL f.m.loose f.m.now.length (f.m.now.length + s.length)⟩, f.b, A2, c2, f.As, f.cs, Al9, cl9⟩ d.fs
              exact Xx.ret2 rfl rfl rfl ⟨by rw [hap], { d with ch := d.ch + 1, fs := setF ⟨⟨n, f.m.now ++ s, f.m.sure, touchL f.m.loose f.m.now.length (f.m.now.length + s.length)⟩, f.b, A2, c2, f.As, f.cs, Al9, cl9⟩ d.fs }, by rw [hap]; unfold Dk.abs; simp only [setF_m], rfl⟩ (by first | exact hB1 | exact Frag.le_trans hB1 hB2) (by show _ = (row db 97 (dcs { d with ch := d.ch + 1 }) * (imap d.mb ((setF ⟨⟨n, f.m.now ++ s, f.m.sure, touchL f.m.loose f.m.now.length (f.m.now.length + s.length)⟩, f.b, A2, c2, f.As, f.cs, Al9, cl9⟩ d.fs).map fkv) * (sbuf 25 3 d.Ap d.plan.length d.cp (d.plan.flatMap scs) * fisH (setF ⟨⟨n, f.m.now ++ s, f.m.sure, touchL f.m.loose f.m.now.length (f.m.now.length + s.length)⟩, f.b, A2, c2, f.As, f.cs, Al9, cl9⟩ d.fs)))) * R; rw [e1, ← e2]; ac_rfl)
        · skip
          have g1 := h15
          refine Dx.pF (i := 3) rfl (fun _ h => by cases h) rfl rfl rfl (by kernel_rfl) rfl ?_
          refine Dx.pF (i := 4) rfl (fun _ h => by cases h) rfl rfl rfl (by kernel_rfl) rfl ?_
          refine Dx.pF (i := 5) rfl (fun _ h => by cases h) rfl rfl rfl (by kernel_rfl) rfl ?_
          refine Dx.pF (i := 6) rfl (fun _ h => by cases h) rfl rfl rfl (by kernel_rfl) rfl ?_
          refine Dx.pF (i := 7) rfl (fun _ h => by cases h) rfl rfl rfl (by kernel_rfl) rfl ?_
          refine Dx.pF (i := 8) rfl (fun _ h => by cases h) rfl rfl rfl (by kernel_rfl) rfl ?_
          refine Dx.pF (i := 9) rfl (fun _ h => by cases h) rfl rfl rfl (by kernel_rfl) rfl ?_
          refine Dx.pF (i := 10) rfl (fun _ h => by cases h) rfl rfl rfl (by kernel_rfl) rfl ?_
          refine Dx.pF (i := 11) rfl (fun _ h => by cases h) rfl rfl rfl (by kernel_rfl) rfl ?_
          refine Dx.pF (i := 12) rfl (fun _ h => by cases h) rfl rfl rfl (by kernel_rfl) rfl ?_
          refine Dx.pF (i := 13) rfl (fun _ h => by cases h) rfl rfl rfl (by kernel_rfl) rfl ?_
          refine Dx.pF (i := 14) rfl (fun _ h => by cases h) rfl rfl rfl (by kernel_rfl) rfl ?_
          refine Dx.pF (i := 15) rfl (fun _ h => by cases h) rfl rfl rfl (by kernel_rfl) rfl ?_
          refine Dx.pF (i := 16) rfl (fun _ h => by cases h) rfl rfl rfl (by kernel_rfl) rfl ?_
          refine Dx.pF (i := 17) rfl (fun _ h => by cases h) rfl rfl rfl (by kernel_rfl) rfl ?_
          refine Dx.pF (i := 18) rfl (fun _ h => by cases h) rfl rfl rfl (by kernel_rfl) rfl ?_
          refine Dx.p (i := 19) rfl (by kernel_rfl) (pickF rfl rfl) rfl ?_
          refine Dx.done (by kernel_rfl) ?_
          refine Xx.tn (k14 _ _ _ _ ?_)
          refine Cx.condF rfl ?_
          refine Cx.skip ?_
          refine Xx.tn (k13 _ _ _ _ ?_)
          refine Cx.seq (fun K26 k26 => ?_)
          refine Cx.seq (fun K27 k27 => ?_)
          refine Cx.region ?_
          refine Lx.y (mv rfl) rfl ?_
          refine Lx.c rfl rfl rfl (strikes_ct2 d db _ hF) (hback _) rfl ?_
          rintro v1 B1 H1 ⟨rfl, hFf, hTt⟩ hB1
          refine Lx.nil ?_
          refine Xx.tn (k27 _ _ _ _ ?_)
          refine Cx.condB rfl (fun h28 => ?_) (fun h28 => ?_)
          · skip
            have g3 := h28
            obtain ⟨d2, hd2, rfl⟩ := hTt g3
            refine Cx.seq (fun K29 k29 => ?_)
            refine Cx.region ?_
            refine Lx.y (asg rfl) rfl ?_
            refine Lx.y (asg rfl) rfl ?_
            refine Lx.nil ?_
            refine Xx.tn (k29 _ _ _ _ ?_)
            refine Cx.ret ?_
            refine Xx.tr ?_
            have hg : ¬ (s ≠ [] ∧ ((sec ((fileM n d.abs.fs).now.length + s.length) : Nat) : Int) - (sec (fileM n d.abs.fs).now.length : Nat) > d.abs.room - (usedM d.abs.fs : Nat)) := fun h => h.1 g1
            have hap : appendD d.abs n s = ((strikesD d.abs).1, 0, 7) := by unfold appendD; rw [if_neg hdd, if_neg hn, if_neg hg, if_pos g3]
            refine Xx.perm (Xx.drop (p := ex) (H := dkH db d2 * R) ?_) (star_left _ _ _)
            exact Xx.ret2 rfl rfl rfl ⟨by rw [hap], d2, by rw [hap]; exact hd2, rfl⟩ hB1 rfl
          · skip
            have g3 := h28
            obtain ⟨hs1, rfl⟩ := hFf g3
            rw [show dkH db { d with ch := d.ch + 1 } * (ex * R) = row db 97 (dcs { d with ch := d.ch + 1 }) * (imap d.mb (d.fs.map fkv) * (sbuf 25 3 d.Ap d.plan.length d.cp (d.plan.flatMap scs) * (row f.b 102 (fcs f) * (sbuf 5 1 f.An f.m.now.length f.cn (u8s f.m.now) * (sbuf 5 1 f.As f.m.sure.length f.cs (u8s f.m.sure) * (sbuf 3 1 f.Al f.m.loose.length f.cl (nv f.m.loose) * (Rf * R))))))) from (hback _).symm]
            refine Cx.skip ?_
            refine Xx.tn (k26 _ _ _ _ ?_)
            refine Cx.seq (fun K30 k30 => ?_)
            refine Cx.region ?_
            refine Lx.y (mv rfl) rfl ?_
            refine Lx.y (nilc rfl) rfl ?_
            refine Lx.y (fa' fo97_0 rfl) rfl ?_
            refine Lx.y (ld Try.underlying94 rfl rfl rfl) rfl ?_
            refine Lx.y (mv rfl) rfl ?_
            refine Lx.y (mv rfl) rfl ?_
            refine Lx.o0 (stM Try.underlying94 Try.underlying3 rfl rfl rfl) (fun v B' H' hΦ hB => ?_)
            obtain ⟨hBB, rfl⟩ := hΦ
            have hBB2 := hBB.symm
            subst hBB2
            clear hB
            refine Lx.nil ?_
            refine Xx.tn (k30 _ _ _ _ ?_)
            refine Cx.seq (fun K31 k31 => ?_)
            refine Cx.region ?_
            refine Lx.y (mv rfl) rfl ?_
            refine Lx.y (mv rfl) rfl ?_
            refine Lx.y (nilc rfl) rfl ?_
            refine Lx.y (fa' fo102_0 rfl) rfl ?_
            refine Lx.y (Yx.val (ld Try.underlying80 rfl rfl rfl) (show _ = Value.slice f.An f.m.now.length f.cn from rfl)) rfl ?_
            refine Lx.y (mv rfl) rfl ?_
            refine Lx.o (appT (et := 5) (A := f.An) (f.m.now.length + s.length) (u8s (f.m.now ++ s)) Try.underlying80 Try.underlying9 ti5 rfl rfl (by omega) (by omega) rfl (by rw [u8s_app])) rfl (fun v B' H' hΦ hB => ?_)
            obtain ⟨A2, c2, rfl, hA2, hc2, hBB, rfl⟩ := hΦ
            have hBB2 := hBB.symm
            subst hBB2
            clear hB
            refine Lx.y (nilc rfl) rfl ?_
            refine Lx.y (fa' fo102_0 rfl) rfl ?_
            refine Lx.st (stO Try.underlying80 sz80 rfl rfl rfl (by show 0 < 3; omega) rfl) ?_
            refine Lx.nil ?_
            refine Xx.tn (k31 _ _ _ _ ?_)
            refine Cx.seq (fun K32 k32 => ?_)
            refine Cx.region ?_
            refine Lx.y (mv rfl) rfl ?_
            refine Lx.y (mv rfl) rfl ?_
            refine Lx.y (mv rfl) rfl ?_
            refine Lx.y (mv rfl) rfl ?_
            refine Lx.y (lenS Try.underlying9 rfl) rfl ?_
            refine Lx.y (Yx.val (add rfl rfl (by first | exact wrap64 (by omega) (by omega) | rfl)) (show _ = i64 ((f.m.now.length + s.length : Nat) : Int) from rfl)) rfl ?_
            refine Lx.c rfl rfl rfl (touch_ct ⟨⟨n, f.m.now ++ s, f.m.sure, f.m.loose⟩, f.b, A2, c2, f.As, f.cs, f.Al, f.cl⟩ f.m.now.length (f.m.now.length + s.length) _ hfo.1 (by have := hfo.loose; show f.m.loose.length ≤ _; omega) (by omega) (by omega)) ((show _ = fiH ⟨⟨n, f.m.now ++ s, f.m.sure, f.m.loose⟩, f.b, A2, c2, f.As, f.cs, f.Al, f.cl⟩ * (row db 97 (dcs { d with ch := d.ch + 1 }) * (imap d.mb (mset n (.pointer (some ⟨f.b, 0, none⟩)) (d.fs.map fkv)) * (sbuf 25 3 d.Ap d.plan.length d.cp (d.plan.flatMap scs) * (Rf * R)))) by unfold fiH fcs; simp only [List.length_append]; generalize f.m.now.length + s.length = q; ac_rfl)) rfl ?_
            rintro v2 B2 H2 ⟨hBB, rfl, Al9, cl9, rfl⟩ hB2
            refine Lx.nil ?_
            refine Xx.tn (k32 _ _ _ _ ?_)
            refine Cx.seq (fun K33 k33 => ?_)
            refine Cx.region ?_
            refine Lx.y (mv rfl) rfl ?_
            refine Lx.y (asg rfl) rfl ?_
            refine Lx.y (asg rfl) rfl ?_
            refine Lx.nil ?_
            refine Xx.tn (k33 _ _ _ _ ?_)
            refine Cx.ret ?_
            have hg : ¬ (s ≠ [] ∧ ((sec ((fileM n d.abs.fs).now.length + s.length) : Nat) : Int) - (sec (fileM n d.abs.fs).now.length : Nat) > d.abs.room - (usedM d.abs.fs : Nat)) := fun h => h.1 g1
            have hap : appendD d.abs n s = ({ d.abs with ch := d.ch + 1, fs := setM ⟨n, f.m.now ++ s, f.m.sure, touchL f.m.loose f.m.now.length (f.m.now.length + s.length)⟩ d.abs.fs }, ((f.m.now.length : Nat) : Int), 0) := by
              unfold appendD
              rw [if_neg hdd, if_neg hn, if_neg hg, if_neg (by rw [g3]; decide), hs1, ← hfm]
            have e1 := hset ⟨⟨n, f.m.now ++ s, f.m.sure, touchL f.m.loose f.m.now.length (f.m.now.length + s.length)⟩, f.b, A2, c2, f.As, f.cs, Al9, cl9⟩ rfl
            have e2 := mset_set ⟨⟨n, f.m.now ++ s, f.m.sure, touchL f.m.loose f.m.now.length (f.m.now.length + s.length)⟩, f.b, A2, c2, f.As, f.cs, Al9, cl9⟩ d.fs
            exact Xx.ret2 rfl rfl rfl ⟨by rw [hap], { d with ch := d.ch + 1, fs := setF ⟨⟨n, f.m.now ++ s, f.m.sure, touchL f.m.loose f.m.now.length (f.m.now.length + s.length)⟩, f.b, A2, c2, f.As, f.cs, Al9, cl9⟩ d.fs }, by rw [hap]; unfold Dk.abs; simp only [setF_m], rfl⟩ (by first | exact hB1 | exact Frag.le_trans hB1 hB2) (by show _ = (row db 97 (dcs { d with ch := d.ch + 1 }) * (imap d.mb ((setF ⟨⟨n, f.m.now ++ s, f.m.sure, touchL f.m.loose f.m.now.length (f.m.now.length + s.length)⟩, f.b, A2, c2, f.As, f.cs, Al9, cl9⟩ d.fs).map fkv) * (sbuf 25 3 d.Ap d.plan.length d.cp (d.plan.flatMap scs) * fisH (setF ⟨⟨n, f.m.now ++ s, f.m.sure, touchL f.m.loose f.m.now.length (f.m.now.length + s.length)⟩, f.b, A2, c2, f.As, f.cs, Al9, cl9⟩ d.fs)))) * R; rw [e1, ← e2]; ac_rfl)
end DkH
end Go.Proofs.Ytgcebieihmlaoaa

/-
  A file read, made sure.
-/
namespace Go.Proofs.Ytgcebieihmlaoaa
open Go.SL Go.RowKit
set_option linter.unusedVariables false
set_option linter.unusedSimpArgs false
set_option maxRecDepth 100000
open DkA DkB DkC DkD DkE DkF DkG DkH
namespace DkI
theorem sz3 : (Try.prog.info? 3).map (·.size) = some 1 := by kernel_rfl
theorem sz5 : (Try.prog.info? 5).map (·.size) = some 1 := by kernel_rfl
theorem sz25 : (Try.prog.info? 25).map (·.size) = some 3 := by kernel_rfl
theorem ti3 : TI Try.prog 3 [.int .i64 0] 1 8 := TI.of (by kernel_rfl) rfl rfl
theorem ti5 : TI Try.prog 5 [.int .u8 0] 1 1 := TI.of (by kernel_rfl) rfl rfl
theorem ti102 : TI Try.prog 102 [.slice none 0 0, .slice none 0 0, .slice none 0 0] 3 72 := TI.of (by kernel_rfl) rfl rfl
theorem fo102_0 : FO Try.prog 102 0 0 1 false := FO.of Try.underlying102 rfl rfl (by kernel_rfl) Try.underlying80 rfl rfl

theorem b2S {P : Program} {ρ : Sl} {ty src dst et : TypeId} {x : Operand} {l : List UInt8} {A : Option Addr} {n c N0 : Nat} {B : Frag} {H R : HP} (hs : P.underlying src = some (.slice et)) (he' : P.underlying et = some (.int .u8)) (hd : P.underlying dst = some .string) (hx : ev ρ x = some (.slice A n c)) [hp : PickS H A et 1 n c (u8s l) R] : Yx P (.convert src dst x) ty ρ (St N0 B H) (str l) :=
  ⟨fun _ h => (by cases h), fun f w dst' pos after guard he s => (b2s hs he' hd hx (Src'.sbuf (et := et) (c := c) (by
    rcases (s.of_eq hp.eq).cases_sbuf with ⟨e1, e2, _, e4, _⟩ | ⟨b, sp, e1, e2, _⟩
    · exact .inl ⟨e1, e2, e4⟩
    · exact .inr ⟨b, e1, e2⟩)) hp.eq).2 f w dst' pos after guard he s⟩
def errM (D : Dm) (n : Int) : Int := if D.dead = true then 7 else match findM n D.fs with
  | none => 2
  | some _ => 0
def fileP (d : Dk) (n : Int) : Option Addr := if d.dead = true then none else (findF n d.fs).map fun f => ⟨f.b, 0, none⟩
theorem fileV_eq (d : Dk) (n : Int) : fileV d n = .tuple #[.pointer (fileP d n), i64 (errM d.abs n)] := by
  unfold fileV fileP errM
  rw [show d.abs.dead = d.dead from rfl]
  split
  · rfl
  · have := findF_m n d.fs
    rw [show d.abs.fs = d.fs.map (·.m) from rfl, ← this]
    cases findF n d.fs <;> rfl
theorem file_ok {d : Dk} {n : Int} (h : errM d.abs n = 0) : d.dead = false ∧ ∃ f, findF n d.fs = some f ∧ fileP d n = some ⟨f.b, 0, none⟩ ∧ fileM n d.abs.fs = f.m := by
  unfold errM at h
  split at h
  · cases h
  · rename_i hd
    have hd' : d.dead = false := by
      cases hq : d.dead with
      | false => rfl
      | true => exact absurd hq hd
    have hm := findF_m n d.fs
    rw [show d.abs.fs = d.fs.map (·.m) from rfl, ← hm] at h
    cases hq : findF n d.fs with
    | none => rw [hq] at h; cases h
    | some f =>
      rw [hq] at hm
      exact ⟨hd', f, rfl, by unfold fileP; rw [if_neg (by rw [hd']; decide), hq]; rfl, by unfold fileM; rw [show d.abs.fs = d.fs.map (·.m) from rfl, ← hm]; rfl⟩
theorem file_ct2 (d : Dk) (db : Nat) (n : Int) (B : Frag) : CtC Try.prog 47 [.pointer (some ⟨db, 0, none⟩), i64 n] B (dkH db d) (.tuple #[.pointer (fileP d n), i64 (errM d.abs n)]) (dkH db d) := by
  rw [← fileV_eq]; exact file_ct d db n B
/-- one file of a disk, apart -/
theorem dkH_at {d : Dk} {db : Nat} {n : Int} {f : Fi} (h : findF n d.fs = some f) : ∃ Rf, dkH db d = row db 97 (dcs d) * (imap d.mb (d.fs.map fkv) * (sbuf 25 3 d.Ap d.plan.length d.cp (d.plan.flatMap scs) * (fiH f * Rf))) ∧ (∀ f' : Fi, f'.m.n = n → fisH (setF f' d.fs) = fiH f' * Rf) ∧ fisH d.fs = fiH f * Rf ∧ fisH (delF n d.fs) = Rf := by
  obtain ⟨Rf, e1, e2, e3⟩ := fisH_find h
  exact ⟨Rf, by unfold dkH; rw [e1], e2, e1, e3⟩

set_option maxHeartbeats 2000000 in
theorem Read_ct (d : Dk) (db : Nat) (n : Int) (B : Frag) (hF : d.abs.Fit) : CtC Try.prog 14 [.pointer (some ⟨db, 0, none⟩), i64 n] B (dkH db d) (.tuple #[str (if errM d.abs n = 0 then (fileM n d.abs.fs).now else []), i64 (errM d.abs n)]) (dkH db d) := by
  refine Ct.of_body Try.func14 rfl (nt := 22) rfl (by kernel_rfl) rfl ?_
  intro N0 w0 R
  refine Cx.seq (fun K1 k1 => ?_)
  refine Cx.region ?_
  refine Lx.y (asg rfl) rfl ?_
  refine Lx.y (asg rfl) rfl ?_
  refine Lx.nil ?_
  refine Xx.tn (k1 _ _ _ _ ?_)
  refine Cx.seq (fun K2 k2 => ?_)
  refine Cx.region ?_
  refine Lx.y (mv rfl) rfl ?_
  refine Lx.y (mv rfl) rfl ?_
  refine Lx.co rfl rfl rfl (file_ct2 d db n _) (rfl) rfl ?_
  refine Lx.y (mv rfl) rfl ?_
  refine Lx.y (ext rfl rfl) rfl ?_
  refine Lx.y (ext rfl rfl) rfl ?_
  refine Lx.y (asg rfl) rfl ?_
  refine Lx.y (asg rfl) rfl ?_
  refine Lx.nil ?_
  refine Xx.tn (k2 _ _ _ _ ?_)
  refine Cx.seq (fun K3 k3 => ?_)
  refine Cx.seq (fun K4 k4 => ?_)
  refine Cx.region ?_
  refine Lx.y (mv rfl) rfl ?_
  refine Lx.y (neI rfl rfl) rfl ?_
  refine Lx.nil ?_
  refine Xx.tn (k4 _ _ _ _ ?_)
  refine Cx.condN rfl (fun h5 => ?_) (fun h5 => ?_)
  · skip
    have he := h5
    refine Cx.seq (fun K6 k6 => ?_)
    refine Cx.region ?_
    refine Lx.y (mv rfl) rfl ?_
    refine Lx.y (asg rfl) rfl ?_
    refine Lx.y (asg rfl) rfl ?_
    refine Lx.nil ?_
    refine Xx.tn (k6 _ _ _ _ ?_)
    refine Cx.ret ?_
    refine Xx.tr ?_
    exact Xx.ret2 rfl rfl rfl ⟨by rw [if_neg he]; rfl, rfl, rfl⟩ (Frag.le_refl _) rfl
  · skip
    have he := h5
    obtain ⟨hd, f, hff, hfp, hfm⟩ := file_ok he
    obtain ⟨Rf, hH, hset, hfs, hdel⟩ := dkH_at (db := db) hff
    rw [hfp, hH, show fiH f = row f.b 102 (fcs f) * (sbuf 5 1 f.An f.m.now.length f.cn (u8s f.m.now) * (sbuf 5 1 f.As f.m.sure.length f.cs (u8s f.m.sure) * sbuf 3 1 f.Al f.m.loose.length f.cl (nv f.m.loose))) from rfl]
    simp only [star_assoc]
    refine Cx.skip ?_
    refine Xx.tn (k3 _ _ _ _ ?_)
    refine Cx.seq (fun K7 k7 => ?_)
    refine Cx.region ?_
    refine Lx.y (mv rfl) rfl ?_
    refine Lx.y (nilc rfl) rfl ?_
    refine Lx.y (fa' fo102_0 rfl) rfl ?_
    refine Lx.y (Yx.val (ld Try.underlying80 rfl rfl rfl) (show _ = Value.slice f.An f.m.now.length f.cn from rfl)) rfl ?_
    refine Lx.y (b2S (A := f.An) Try.underlying80 Try.underlying5 Try.underlying9 rfl) rfl ?_
    refine Lx.y (asg rfl) rfl ?_
    refine Lx.y (asg rfl) rfl ?_
    refine Lx.nil ?_
    refine Xx.tn (k7 _ _ _ _ ?_)
    refine Cx.ret ?_
    exact Xx.ret2 rfl rfl rfl ⟨by rw [if_pos he, hfm, he], rfl, rfl⟩ (Frag.le_refl _) (by rw [hH]; unfold fiH; ac_rfl)
end DkI
end Go.Proofs.Ytgcebieihmlaoaa

/-
  A file made sure.
-/
namespace Go.Proofs.Ytgcebieihmlaoaa
open Go.SL Go.RowKit
set_option linter.unusedVariables false
set_option linter.unusedSimpArgs false
set_option maxRecDepth 100000
open DkA DkB DkC DkD DkE DkF DkG DkH DkI
namespace DkJ
theorem sz3 : (Try.prog.info? 3).map (·.size) = some 1 := by kernel_rfl
theorem sz5 : (Try.prog.info? 5).map (·.size) = some 1 := by kernel_rfl
theorem sz25 : (Try.prog.info? 25).map (·.size) = some 3 := by kernel_rfl
theorem sz39 : (Try.prog.info? 39).map (·.size) = some 1 := by kernel_rfl
theorem sz80 : (Try.prog.info? 80).map (·.size) = some 1 := by kernel_rfl
theorem ti3 : TI Try.prog 3 [.int .i64 0] 1 8 := TI.of (by kernel_rfl) rfl rfl
theorem ti5 : TI Try.prog 5 [.int .u8 0] 1 1 := TI.of (by kernel_rfl) rfl rfl
theorem ti102 : TI Try.prog 102 [.slice none 0 0, .slice none 0 0, .slice none 0 0] 3 72 := TI.of (by kernel_rfl) rfl rfl
theorem fo102_0 : FO Try.prog 102 0 0 1 false := FO.of Try.underlying102 rfl rfl (by kernel_rfl) Try.underlying80 rfl rfl
theorem fo102_1 : FO Try.prog 102 1 1 1 false := FO.of Try.underlying102 rfl rfl (by kernel_rfl) Try.underlying80 rfl rfl
theorem fo102_2 : FO Try.prog 102 2 2 1 false := FO.of Try.underlying102 rfl rfl (by kernel_rfl) Try.underlying39 rfl rfl

def syncD (D : Dm) (n : Int) : Dm × Int := if errM D n ≠ 0 then (D, errM D n) else if (strikesD D).2 = true then ((strikesD D).1, 7)
  else ({ (strikesD D).1 with fs := setM ⟨n, (fileM n D.fs).now, (fileM n D.fs).now, []⟩ (strikesD D).1.fs }, 0)

set_option maxHeartbeats 2000000 in
theorem Sync_ct (d : Dk) (db : Nat) (n : Int) (B : Frag) (hF : d.abs.Fit) : Ct Try.prog 13 [.pointer (some ⟨db, 0, none⟩), i64 n] B (dkH db d) (fun v B' H' => v = i64 (syncD d.abs n).2 ∧ ∃ d' : Dk, d'.abs = (syncD d.abs n).1 ∧ H' = dkH db d') := by
  refine Ct.of_body Try.func13 rfl (nt := 29) rfl (by kernel_rfl) rfl ?_
  intro N0 w0 R
  refine Cx.seq (fun K1 k1 => ?_)
  refine Cx.region ?_
  refine Lx.y (asg rfl) rfl ?_
  refine Lx.nil ?_
  refine Xx.tn (k1 _ _ _ _ ?_)
  refine Cx.seq (fun K2 k2 => ?_)
  refine Cx.region ?_
  refine Lx.y (mv rfl) rfl ?_
  refine Lx.y (mv rfl) rfl ?_
  refine Lx.co rfl rfl rfl (file_ct2 d db n _) (rfl) rfl ?_
  refine Lx.y (mv rfl) rfl ?_
  refine Lx.y (ext rfl rfl) rfl ?_
  refine Lx.y (ext rfl rfl) rfl ?_
  refine Lx.y (asg rfl) rfl ?_
  refine Lx.y (asg rfl) rfl ?_
  refine Lx.nil ?_
  refine Xx.tn (k2 _ _ _ _ ?_)
  refine Cx.seq (fun K3 k3 => ?_)
  refine Cx.seq (fun K4 k4 => ?_)
  refine Cx.region ?_
  refine Lx.y (mv rfl) rfl ?_
  refine Lx.y (neI rfl rfl) rfl ?_
  refine Lx.nil ?_
  refine Xx.tn (k4 _ _ _ _ ?_)
  refine Cx.condN rfl (fun h5 => ?_) (fun h5 => ?_)
  · skip
    have he := h5
    have hap : syncD d.abs n = (d.abs, errM d.abs n) := by unfold syncD; rw [if_pos he]
    refine Cx.seq (fun K6 k6 => ?_)
    refine Cx.region ?_
    refine Lx.y (mv rfl) rfl ?_
    refine Lx.y (asg rfl) rfl ?_
    refine Lx.nil ?_
    refine Xx.tn (k6 _ _ _ _ ?_)
    refine Cx.ret ?_
    refine Xx.tr ?_
    exact Xx.ret1 rfl rfl ⟨by rw [hap]; rfl, d, by rw [hap], rfl⟩ (Frag.le_refl _) rfl
  · skip
    have he := h5
    obtain ⟨hd, f, hff, hfp, hfm⟩ := file_ok he
    rw [hfp]
    refine Cx.skip ?_
    refine Xx.tn (k3 _ _ _ _ ?_)
    refine Cx.seq (fun K7 k7 => ?_)
    refine Cx.seq (fun K8 k8 => ?_)
    refine Cx.region ?_
    refine Lx.y (mv rfl) rfl ?_
    refine Lx.c rfl rfl rfl (strikes_ct2 d db _ hF) (rfl) rfl ?_
    rintro v1 B1 H1 ⟨rfl, hFf, hTt⟩ hB1
    refine Lx.nil ?_
    refine Xx.tn (k8 _ _ _ _ ?_)
    refine Cx.condB rfl (fun h9 => ?_) (fun h9 => ?_)
    · skip
      have g3 := h9
      obtain ⟨d2, hd2, rfl⟩ := hTt g3
      have hap : syncD d.abs n = ((strikesD d.abs).1, 7) := by unfold syncD; rw [if_neg (fun h => h he), if_pos g3]
      refine Cx.seq (fun K10 k10 => ?_)
      refine Cx.region ?_
      refine Lx.y (asg rfl) rfl ?_
      refine Lx.nil ?_
      refine Xx.tn (k10 _ _ _ _ ?_)
      refine Cx.ret ?_
      refine Xx.tr ?_
      exact Xx.ret1 rfl rfl ⟨by rw [hap], d2, by rw [hap]; exact hd2, rfl⟩ hB1 rfl
    · skip
      have g3 := h9
      obtain ⟨hs1, rfl⟩ := hFf g3
      obtain ⟨Rf, hH, hset, hfs, hdel⟩ := dkH_at (d := { d with ch := d.ch + 1 }) (db := db) (n := n) (f := f) hff
      have hfo : f.m.Ok := by rw [← hfm]; exact fileM_ok fun g hg => hF.ok hg
      have hfo3 := hfo.2.2.1
      rw [hH, show fiH f = row f.b 102 (fcs f) * (sbuf 5 1 f.An f.m.now.length f.cn (u8s f.m.now) * (sbuf 5 1 f.As f.m.sure.length f.cs (u8s f.m.sure) * sbuf 3 1 f.Al f.m.loose.length f.cl (nv f.m.loose))) from rfl]
      simp only [star_assoc]
      refine Cx.skip ?_
      refine Xx.tn (k7 _ _ _ _ ?_)
      refine Cx.seq (fun K11 k11 => ?_)
      refine Cx.region ?_
      refine Lx.y (mv rfl) rfl ?_
      refine Lx.y (mv rfl) rfl ?_
      refine Lx.y (mv rfl) rfl ?_
      refine Lx.y (nilc rfl) rfl ?_
      refine Lx.y (fa' fo102_0 rfl) rfl ?_
      refine Lx.y (Yx.val (ld Try.underlying80 rfl rfl rfl) (show _ = Value.slice f.An f.m.now.length f.cn from rfl)) rfl ?_
      refine Lx.c rfl rfl rfl (ClB_ct f.An f.m.now.length f.cn (u8s f.m.now) _ (u8_all _) (by omega) (by omega)) (pickS _) rfl ?_
      rintro v3 B3 H3 ⟨hBB, A9, c9, rfl, rfl⟩ hB3
      subst hBB
      rename Frag => B3
      clear hB3
      simp only [star_assoc]
      refine Lx.y (nilc rfl) rfl ?_
      refine Lx.y (fa' fo102_1 rfl) rfl ?_
      refine Lx.st (stO Try.underlying80 sz80 rfl rfl rfl (by show 1 < 3; omega) rfl) ?_
      refine Lx.y (nilc rfl) rfl ?_
      refine Lx.y (fa' fo102_2 rfl) rfl ?_
      refine Lx.st (stO Try.underlying39 sz39 rfl rfl rfl (by show 2 < 3; omega) rfl) ?_
      refine Lx.nil ?_
      refine Xx.tn (k11 _ _ _ _ ?_)
      refine Cx.seq (fun K12 k12 => ?_)
      refine Cx.region ?_
      refine Lx.y (asg rfl) rfl ?_
      refine Lx.nil ?_
      refine Xx.tn (k12 _ _ _ _ ?_)
      refine Cx.ret ?_
      have hap : syncD d.abs n = ({ d.abs with ch := d.ch + 1, fs := setM ⟨n, f.m.now, f.m.now, []⟩ d.abs.fs }, 0) := by
        unfold syncD
        rw [if_neg (fun h => h he), if_neg (by rw [g3]; decide), hs1, hfm]
      have hfn := (findF_mem hff).2
      have e1 := hset ⟨⟨n, f.m.now, f.m.now, []⟩, f.b, f.An, f.cn, A9, c9, none, 0⟩ rfl
      have e2 : (setF ⟨⟨n, f.m.now, f.m.now, []⟩, f.b, f.An, f.cn, A9, c9, none, 0⟩ d.fs).map fkv = d.fs.map fkv := setF_same hff rfl rfl
      have efi : fiH ⟨⟨n, f.m.now, f.m.now, []⟩, f.b, f.An, f.cn, A9, c9, none, 0⟩ = row f.b 102 [.slice f.An f.m.now.length f.cn, .slice A9 f.m.now.length c9, .slice none 0 0] * (sbuf 5 1 f.An f.m.now.length f.cn (u8s f.m.now) * sbuf 5 1 A9 f.m.now.length c9 (u8s f.m.now)) := by
        unfold fiH fcs
        show _ * (_ * (_ * sbuf 3 1 none 0 0 [])) = _
        rw [sbuf_nil, star_one]
        rfl
      refine Xx.perm (Xx.drop (p := sbuf 5 1 f.As f.m.sure.length f.cs (u8s f.m.sure) * sbuf 3 1 f.Al f.m.loose.length f.cl (nv f.m.loose)) (H := dkH db { d with ch := d.ch + 1, fs := setF ⟨⟨n, f.m.now, f.m.now, []⟩, f.b, f.An, f.cn, A9, c9, none, 0⟩ d.fs } * R) ?_) (by show _ = _ * ((row db 97 (dcs { d with ch := d.ch + 1 }) * (imap d.mb ((setF ⟨⟨n, f.m.now, f.m.now, []⟩, f.b, f.An, f.cn, A9, c9, none, 0⟩ d.fs).map fkv) * (sbuf 25 3 d.Ap d.plan.length d.cp (d.plan.flatMap scs) * fisH (setF ⟨⟨n, f.m.now, f.m.now, []⟩, f.b, f.An, f.cn, A9, c9, none, 0⟩ d.fs)))) * R); rw [e1, e2, efi]; ac_rfl)
      exact Xx.ret1 rfl rfl ⟨by rw [hap], { d with ch := d.ch + 1, fs := setF ⟨⟨n, f.m.now, f.m.now, []⟩, f.b, f.An, f.cn, A9, c9, none, 0⟩ d.fs }, by rw [hap]; unfold Dk.abs; simp only [setF_m], rfl⟩ hB1 rfl
end DkJ
end Go.Proofs.Ytgcebieihmlaoaa

/-
  A file cut; a file taken away.
-/
namespace Go.Proofs.Ytgcebieihmlaoaa
open Go.SL Go.RowKit
set_option linter.unusedVariables false
set_option linter.unusedSimpArgs false
set_option maxRecDepth 100000
open DkA DkB DkC DkD DkE DkF DkG DkH DkI DkJ
namespace DkK
theorem sz3 : (Try.prog.info? 3).map (·.size) = some 1 := by kernel_rfl
theorem sz5 : (Try.prog.info? 5).map (·.size) = some 1 := by kernel_rfl
theorem sz25 : (Try.prog.info? 25).map (·.size) = some 3 := by kernel_rfl
theorem ti3 : TI Try.prog 3 [.int .i64 0] 1 8 := TI.of (by kernel_rfl) rfl rfl
theorem ti5 : TI Try.prog 5 [.int .u8 0] 1 1 := TI.of (by kernel_rfl) rfl rfl
theorem ti102 : TI Try.prog 102 [.slice none 0 0, .slice none 0 0, .slice none 0 0] 3 72 := TI.of (by kernel_rfl) rfl rfl
theorem fo97_0 : FO Try.prog 97 0 0 1 false := FO.of Try.underlying97 rfl rfl (by kernel_rfl) Try.underlying94 rfl rfl

theorem Xx.lessA {e : Env} {ds : List Deferred} {K : Act → World → Prop} {ρ : Sl} {B : Frag} {H R : HP} (A : Option Addr) (m : Nat) {et : TypeId} {n c : Nat} {xs : List Value} [hp : PickS H A et 1 n c xs R] (hm : m ≤ n)
    (h : Xx e ds K ρ B (sbuf et 1 A m c (xs.take m) * R)) : Xx e ds K ρ B H :=
  Xx.perm (fun a w f b' s => by
    rcases s.cases_sbuf with ⟨h1, h2, h3, h4, s2⟩ | ⟨bb, sp, h1, h2, h3, h4, s2⟩
    · subst h1 h2 h3 h4
      obtain rfl : m = 0 := by omega
      exact h a w f b' s
    · subst h1
      refine h a w f b' (St.of_sbuf (sp := xs.drop m ++ sp) (by rw [List.length_take]; omega) (by omega) (by rw [← List.append_assoc, List.take_append_drop]; exact h4) ?_)
      rw [← List.append_assoc, List.take_append_drop]; exact s2) hp.eq
def removeD (D : Dm) (n : Int) : Dm × Int := if errM D n ≠ 0 then (D, errM D n) else if (strikesD D).2 = true then ((strikesD D).1, 7)
  else ({ (strikesD D).1 with fs := delM n (strikesD D).1.fs }, 0)
def cutD (D : Dm) (n long : Int) : Dm × Int := if errM D n ≠ 0 then (D, errM D n) else if long < 0 ∨ long > ((fileM n D.fs).now.length : Nat) then (D, 1) else if (strikesD D).2 = true then ((strikesD D).1, 7)
  else ({ (strikesD D).1 with fs := setM ⟨n, (fileM n D.fs).now.take long.toNat, (fileM n D.fs).now.take long.toNat, []⟩ (strikesD D).1.fs }, 0)

set_option maxHeartbeats 2000000 in
theorem Remove_ct (d : Dk) (db : Nat) (n : Int) (B : Frag) (hF : d.abs.Fit) : Ct Try.prog 26 [.pointer (some ⟨db, 0, none⟩), i64 n] B (dkH db d) (fun v B' H' => v = i64 (removeD d.abs n).2 ∧ ∃ d' : Dk, d'.abs = (removeD d.abs n).1 ∧ H' = dkH db d') := by
  refine Ct.of_body Try.func26 rfl (nt := 23) rfl (by kernel_rfl) rfl ?_
  intro N0 w0 R
  refine Cx.seq (fun K1 k1 => ?_)
  refine Cx.region ?_
  refine Lx.y (asg rfl) rfl ?_
  refine Lx.nil ?_
  refine Xx.tn (k1 _ _ _ _ ?_)
  refine Cx.seq (fun K2 k2 => ?_)
  refine Cx.seq (fun K3 k3 => ?_)
  refine Cx.region ?_
  refine Lx.y (mv rfl) rfl ?_
  refine Lx.y (mv rfl) rfl ?_
  refine Lx.co rfl rfl rfl (file_ct2 d db n _) (rfl) rfl ?_
  refine Lx.y (mv rfl) rfl ?_
  refine Lx.y (ext rfl rfl) rfl ?_
  refine Lx.y (ext rfl rfl) rfl ?_
  refine Lx.y (asg rfl) rfl ?_
  refine Lx.y (asg rfl) rfl ?_
  refine Lx.nil ?_
  refine Xx.tn (k3 _ _ _ _ ?_)
  refine Cx.seq (fun K4 k4 => ?_)
  refine Cx.region ?_
  refine Lx.y (mv rfl) rfl ?_
  refine Lx.y (neI rfl rfl) rfl ?_
  refine Lx.nil ?_
  refine Xx.tn (k4 _ _ _ _ ?_)
  refine Cx.condN rfl (fun h5 => ?_) (fun h5 => ?_)
  · skip
    have he := h5
    have hap : removeD d.abs n = (d.abs, errM d.abs n) := by unfold removeD; rw [if_pos he]
    refine Cx.seq (fun K6 k6 => ?_)
    refine Cx.region ?_
    refine Lx.y (mv rfl) rfl ?_
    refine Lx.y (asg rfl) rfl ?_
    refine Lx.nil ?_
    refine Xx.tn (k6 _ _ _ _ ?_)
    refine Cx.ret ?_
    refine Xx.tr ?_
    exact Xx.ret1 rfl rfl ⟨by rw [hap]; rfl, d, by rw [hap], rfl⟩ (Frag.le_refl _) rfl
  · skip
    have he := h5
    obtain ⟨hd, f, hff, hfp, hfm⟩ := file_ok he
    refine Cx.skip ?_
    refine Xx.tn (k2 _ _ _ _ ?_)
    refine Cx.seq (fun K7 k7 => ?_)
    refine Cx.seq (fun K8 k8 => ?_)
    refine Cx.region ?_
    refine Lx.y (mv rfl) rfl ?_
    refine Lx.c rfl rfl rfl (strikes_ct2 d db _ hF) (rfl) rfl ?_
    rintro v1 B1 H1 ⟨rfl, hFf, hTt⟩ hB1
    refine Lx.nil ?_
    refine Xx.tn (k8 _ _ _ _ ?_)
    refine Cx.condB rfl (fun h9 => ?_) (fun h9 => ?_)
    · skip
      have g3 := h9
      obtain ⟨d2, hd2, rfl⟩ := hTt g3
      have hap : removeD d.abs n = ((strikesD d.abs).1, 7) := by unfold removeD; rw [if_neg (fun h => h he), if_pos g3]
      refine Cx.seq (fun K10 k10 => ?_)
      refine Cx.region ?_
      refine Lx.y (asg rfl) rfl ?_
      refine Lx.nil ?_
      refine Xx.tn (k10 _ _ _ _ ?_)
      refine Cx.ret ?_
      refine Xx.tr ?_
      exact Xx.ret1 rfl rfl ⟨by rw [hap], d2, by rw [hap]; exact hd2, rfl⟩ hB1 rfl
    · skip
      have g3 := h9
      obtain ⟨hs1, rfl⟩ := hFf g3
      obtain ⟨Rf, hH, hset, hfs, hdel⟩ := dkH_at (d := { d with ch := d.ch + 1 }) (db := db) (n := n) (f := f) hff
      rw [hH]
      simp only [star_assoc]
      refine Cx.skip ?_
      refine Xx.tn (k7 _ _ _ _ ?_)
      refine Cx.seq (fun K11 k11 => ?_)
      refine Cx.region ?_
      refine Lx.y (mv rfl) rfl ?_
      refine Lx.y (nilc rfl) rfl ?_
      refine Lx.y (fa' fo97_0 rfl) rfl ?_
      refine Lx.y (ld Try.underlying94 rfl rfl rfl) rfl ?_
      refine Lx.y (mv rfl) rfl ?_
      refine Lx.o0 (delM Try.underlying94 Try.underlying3 rfl rfl) (fun v B' H' hΦ hB => ?_)
      obtain ⟨rfl, hBB, rfl⟩ := hΦ
      have hBB2 := hBB.symm
      subst hBB2
      clear hB
      refine Lx.nil ?_
      refine Xx.tn (k11 _ _ _ _ ?_)
      refine Cx.seq (fun K12 k12 => ?_)
      refine Cx.region ?_
      refine Lx.y (asg rfl) rfl ?_
      refine Lx.nil ?_
      refine Xx.tn (k12 _ _ _ _ ?_)
      refine Cx.ret ?_
      have hap : removeD d.abs n = ({ d.abs with ch := d.ch + 1, fs := delM n d.abs.fs }, 0) := by
        unfold removeD
        rw [if_neg (fun h => h he), if_neg (by rw [g3]; decide), hs1]
      have e2 : mdel n (d.fs.map fkv) = (delF n d.fs).map fkv := mdel_del n d.fs
      refine Xx.perm (Xx.drop (p := fiH f) (H := dkH db { d with ch := d.ch + 1, fs := delF n d.fs } * R) ?_) (by show _ = _ * ((row db 97 (dcs { d with ch := d.ch + 1 }) * (imap d.mb ((delF n d.fs).map fkv) * (sbuf 25 3 d.Ap d.plan.length d.cp (d.plan.flatMap scs) * fisH (delF n d.fs)))) * R); rw [show fisH (delF n d.fs) = Rf from hdel, ← e2]; ac_rfl)
      exact Xx.ret1 rfl rfl ⟨by rw [hap], { d with ch := d.ch + 1, fs := delF n d.fs }, by rw [hap]; unfold Dk.abs; simp only [delF_m], rfl⟩ hB1 rfl
end DkK
end Go.Proofs.Ytgcebieihmlaoaa
