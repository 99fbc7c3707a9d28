/-
  A disk: what it is; its small functions.
-/
import Derived.Test.YtgcebieihmlaoaaProg
import Derived.Test.YtgcebieihmlaoaaSlj
import Derived.Test.YtgcebieihmlaoaaDkA
namespace Go.Proofs.Ytgcebieihmlaoaa
open Go.SL Go.RowKit
set_option linter.unusedVariables false
set_option linter.unusedSimpArgs false
set_option maxRecDepth 100000
open DkA
namespace DkB
theorem sz3 : (Try.prog.info? 3).map (·.size) = some 1 := by kernel_rfl
theorem sz4 : (Try.prog.info? 4).map (·.size) = some 1 := by kernel_rfl
theorem sz5 : (Try.prog.info? 5).map (·.size) = some 1 := by kernel_rfl
theorem sz25 : (Try.prog.info? 25).map (·.size) = some 3 := by kernel_rfl
theorem ti3 : TI Try.prog 3 [.int .i64 0] 1 8 := TI.of (by kernel_rfl) rfl rfl
theorem ti5 : TI Try.prog 5 [.int .u8 0] 1 1 := TI.of (by kernel_rfl) rfl rfl
theorem ti25 : TI Try.prog 25 [.int .i64 0, .int .u64 0, .int .i64 0] 3 24 := TI.of (by kernel_rfl) rfl rfl
theorem ti97 : TI Try.prog 97 [.map none, .int .i64 0, .bool false, .slice none 0 0, .int .i64 0] 5 56 := TI.of (by kernel_rfl) rfl rfl
theorem ti102 : TI Try.prog 102 [.slice none 0 0, .slice none 0 0, .slice none 0 0] 3 72 := TI.of (by kernel_rfl) rfl rfl
theorem fo97_0 : FO Try.prog 97 0 0 1 false := FO.of Try.underlying97 rfl rfl (by kernel_rfl) Try.underlying94 rfl rfl
theorem fo97_1 : FO Try.prog 97 1 1 1 false := FO.of Try.underlying97 rfl rfl (by kernel_rfl) Try.underlying3 rfl rfl
theorem fo97_2 : FO Try.prog 97 2 2 1 false := FO.of Try.underlying97 rfl rfl (by kernel_rfl) Try.underlying4 rfl rfl
theorem fo97_4 : FO Try.prog 97 4 4 1 false := FO.of Try.underlying97 rfl rfl (by kernel_rfl) Try.underlying3 rfl rfl
theorem fo102_0 : FO Try.prog 102 0 0 1 false := FO.of Try.underlying102 rfl rfl (by kernel_rfl) Try.underlying80 rfl rfl
theorem fo102_2 : FO Try.prog 102 2 2 1 false := FO.of Try.underlying102 rfl rfl (by kernel_rfl) Try.underlying39 rfl rfl
theorem pl97 : PL Try.prog 97 [(0, 1), (1, 1), (2, 1), (3, 1), (4, 1)] := PL.of Try.underlying97 (by kernel_rfl)

/-- A file: its number, its bytes, those that are sure, the sectors that are not. -/
structure Fm where
  n : Int
  now : List UInt8
  sure : List UInt8
  loose : List Nat
/-- When the power fails. -/
structure Sk where
  at_ : Int
  mask : BitVec 64
  torn : Int
def scs (x : Sk) : List Value := [i64 x.at_, u64 x.mask, i64 x.torn]
/-- A disk. -/
structure Dm where
  fs : List Fm
  room : Int
  dead : Bool
  plan : List Sk
  ch : Nat
/-- What it is in memory. -/
structure Fi where
  m : Fm
  b : Nat
  An : Option Addr
  cn : Nat
  As : Option Addr
  cs : Nat
  Al : Option Addr
  cl : Nat
structure Dk where
  fs : List Fi
  room : Int
  dead : Bool
  plan : List Sk
  ch : Nat
  mb : Nat
  Ap : Option Addr
  cp : Nat
def Dk.abs (d : Dk) : Dm := ⟨d.fs.map (·.m), d.room, d.dead, d.plan, d.ch⟩
def fcs (f : Fi) : List Value := [.slice f.An f.m.now.length f.cn, .slice f.As f.m.sure.length f.cs, .slice f.Al f.m.loose.length f.cl]
def fiH (f : Fi) : HP := row f.b 102 (fcs f) * (sbuf 5 1 f.An f.m.now.length f.cn (u8s f.m.now) * (sbuf 5 1 f.As f.m.sure.length f.cs (u8s f.m.sure) * sbuf 3 1 f.Al f.m.loose.length f.cl (nv f.m.loose)))
def fkv (f : Fi) : Int × Value := (f.m.n, .pointer (some ⟨f.b, 0, none⟩))
def fisH : List Fi → HP
  | [] => 1
  | f :: fs => fiH f * fisH fs
def dcs (d : Dk) : List Value := [.map (some d.mb), i64 d.room, .bool d.dead, .slice d.Ap d.plan.length d.cp, i64 ((d.ch : Nat) : Int)]
def dkH (db : Nat) (d : Dk) : HP := row db 97 (dcs d) * (imap d.mb (d.fs.map fkv) * (sbuf 25 3 d.Ap d.plan.length d.cp (d.plan.flatMap scs) * fisH d.fs))
/-- It is no greater than can be. -/
structure Dm.Fit (D : Dm) : Prop where
  nd : (D.fs.map (·.n)).Nodup
  rise : ∀ f ∈ D.fs, Rise f.loose
  lim : ∀ f ∈ D.fs, ∀ i ∈ f.loose, i < sec f.now.length
  len : D.fs.length ≤ 1000000
  now : ∀ f ∈ D.fs, f.now.length ≤ 68719476736
  sure : ∀ f ∈ D.fs, f.sure.length ≤ f.now.length
  room : 0 ≤ D.room ∧ D.room ≤ 9223372036854775807
  ch : D.ch ≤ 1152921504606846976
  plan : D.plan.length ≤ 1000000
theorem fisH_mem {fs : List Fi} {f : Fi} (h : f ∈ fs) : ∃ Rf, fisH fs = fiH f * Rf := by
  induction fs with
  | nil => cases h
  | cons g fs ih =>
    rcases List.mem_cons.1 h with rfl | h
    · exact ⟨_, rfl⟩
    · obtain ⟨Rf, e⟩ := ih h
      exact ⟨fiH g * Rf, by show fiH g * fisH fs = _; rw [e, star_left]⟩
def findF (k : Int) : List Fi → Option Fi
  | [] => none
  | f :: fs => if k = f.m.n then some f else findF k fs
def setF (f' : Fi) : List Fi → List Fi
  | [] => [f']
  | f :: fs => if f'.m.n = f.m.n then f' :: fs else f :: setF f' fs
def delF (k : Int) : List Fi → List Fi
  | [] => []
  | f :: fs => if k = f.m.n then fs else f :: delF k fs
def findM (k : Int) : List Fm → Option Fm
  | [] => none
  | f :: fs => if k = f.n then some f else findM k fs
def setM (f' : Fm) : List Fm → List Fm
  | [] => [f']
  | f :: fs => if f'.n = f.n then f' :: fs else f :: setM f' fs
def delM (k : Int) : List Fm → List Fm
  | [] => []
  | f :: fs => if k = f.n then fs else f :: delM k fs
theorem findF_m (k : Int) (fs : List Fi) : (findF k fs).map (·.m) = findM k (fs.map (·.m)) := by
  induction fs with
  | nil => rfl
  | cons f fs ih =>
    simp only [findF, findM, List.map_cons]
    split
    · rfl
    · exact ih
theorem setF_m (f' : Fi) (fs : List Fi) : (setF f' fs).map (·.m) = setM f'.m (fs.map (·.m)) := by
  induction fs with
  | nil => rfl
  | cons f fs ih =>
    simp only [setF, setM, List.map_cons]
    split
    · rfl
    · rw [List.map_cons, ih]
theorem delF_m (k : Int) (fs : List Fi) : (delF k fs).map (·.m) = delM k (fs.map (·.m)) := by
  induction fs with
  | nil => rfl
  | cons f fs ih =>
    simp only [delF, delM, List.map_cons]
    split
    · rfl
    · rw [List.map_cons, ih]
theorem mget_find (k : Int) (fs : List Fi) : mget k (fs.map fkv) = (findF k fs).map fun f => .pointer (some ⟨f.b, 0, none⟩) := by
  induction fs with
  | nil => rfl
  | cons f fs ih =>
    show (if k = f.m.n then _ else _) = _
    simp only [findF]
    split
    · rfl
    · exact ih
theorem mset_set (f' : Fi) (fs : List Fi) : mset f'.m.n (.pointer (some ⟨f'.b, 0, none⟩)) (fs.map fkv) = (setF f' fs).map fkv := by
  induction fs with
  | nil => rfl
  | cons f fs ih =>
    show (if f'.m.n = f.m.n then _ else _) = _
    simp only [setF]
    split
    · rfl
    · rw [ih]; rfl
theorem mdel_del (k : Int) (fs : List Fi) : mdel k (fs.map fkv) = (delF k fs).map fkv := by
  induction fs with
  | nil => rfl
  | cons f fs ih =>
    show (if k = f.m.n then _ else _) = _
    simp only [delF]
    split
    · rfl
    · rw [ih]; rfl
theorem findF_mem {k : Int} {fs : List Fi} {f : Fi} (h : findF k fs = some f) : f ∈ fs ∧ f.m.n = k := by
  induction fs with
  | nil => cases h
  | cons g fs ih =>
    simp only [findF] at h
    split at h
    · rename_i e; cases h; exact ⟨by simp, e.symm⟩
    · obtain ⟨h1, h2⟩ := ih h; exact ⟨by simp [h1], h2⟩
theorem fisH_find {k : Int} {fs : List Fi} {f : Fi} (h : findF k fs = some f) : ∃ Rf, fisH fs = fiH f * Rf ∧ (∀ f', f'.m.n = k → fisH (setF f' fs) = fiH f' * Rf) ∧ fisH (delF k fs) = Rf := by
  induction fs with
  | nil => cases h
  | cons g fs ih =>
    simp only [findF] at h
    split at h
    · rename_i e
      cases h
      exact ⟨_, rfl, fun f' hf => by simp only [setF]; rw [if_pos (hf.trans e)]; rfl, by simp only [delF]; rw [if_pos e]⟩
    · rename_i e
      obtain ⟨Rf, h1, h2, h3⟩ := ih h
      refine ⟨fiH g * Rf, by show fiH g * fisH fs = _; rw [h1, star_left], fun f' hf => ?_, ?_⟩
      · simp only [setF]; rw [if_neg (by rw [hf]; exact e)]
        show fiH g * fisH (setF f' fs) = _
        rw [h2 f' hf, star_left]
      · simp only [delF]; rw [if_neg e]
        show fiH g * fisH (delF k fs) = _
        rw [h3]
theorem fisH_new {fs : List Fi} {f' : Fi} (h : findF f'.m.n fs = none) : fisH (setF f' fs) = fiH f' * fisH fs := by
  induction fs with
  | nil => rfl
  | cons g fs ih =>
    simp only [findF] at h
    split at h
    · cases h
    · rename_i e
      simp only [setF]; rw [if_neg e]
      show fiH g * fisH (setF f' fs) = fiH f' * (fiH g * fisH fs)
      rw [ih h, star_left]
theorem setF_same {k : Int} {fs : List Fi} {f f' : Fi} (h : findF k fs = some f) (hn : f'.m.n = k) (hb : f'.b = f.b) : (setF f' fs).map fkv = fs.map fkv := by
  induction fs with
  | nil => cases h
  | cons g fs ih =>
    simp only [findF] at h
    simp only [setF]
    split at h
    · rename_i e
      cases h
      rw [if_pos (hn.trans e), List.map_cons, List.map_cons]
      congr 1
      unfold fkv
      rw [hn, hb, e]
    · rename_i e
      rw [if_neg (by rw [hn]; exact e), List.map_cons, List.map_cons, ih h]
def usedM (ms : List Fm) : Nat := (ms.map fun m => sec m.now.length).sum
def looseM (ms : List Fm) : Nat := (ms.map fun m => m.loose.length).sum
theorem usedM_snoc (dz : List (Fi × Nat)) (z : Fi × Nat) : usedM ((dz ++ [z]).map (·.1.m)) = usedM (dz.map (·.1.m)) + sec z.1.m.now.length := by
  unfold usedM; rw [List.map_append, List.map_append, List.sum_append]; simp
theorem looseM_snoc (dz : List (Fi × Nat)) (z : Fi × Nat) : looseM ((dz ++ [z]).map (·.1.m)) = looseM (dz.map (·.1.m)) + z.1.m.loose.length := by
  unfold looseM; rw [List.map_append, List.map_append, List.sum_append]; simp
theorem usedM_perm {dz : List (Fi × Nat)} {fs : List Fi} (h : (dz.map (·.1)).Perm fs) : usedM (dz.map (·.1.m)) = usedM (fs.map (·.m)) := by
  unfold usedM
  have := ((h.map (·.m)).map fun m => sec m.now.length).sum_nat
  rw [List.map_map, List.map_map] at this
  rw [List.map_map]
  exact this
theorem looseM_perm {dz : List (Fi × Nat)} {fs : List Fi} (h : (dz.map (·.1)).Perm fs) : looseM (dz.map (·.1.m)) = looseM (fs.map (·.m)) := by
  unfold looseM
  have := ((h.map (·.m)).map fun m => m.loose.length).sum_nat
  rw [List.map_map, List.map_map] at this
  rw [List.map_map]
  exact this
theorem sum_le {α : Type} (g : α → Nat) (k : Nat) : ∀ (l : List α), (∀ x ∈ l, g x ≤ k) → (l.map g).sum ≤ l.length * k := by
  intro l
  induction l with
  | nil => intro _; simp
  | cons x l ih =>
    intro h
    have h1 := h x (by simp)
    have h2 := ih fun y hy => h y (by simp [hy])
    rw [List.map_cons, List.sum_cons, List.length_cons, Nat.succ_mul]; omega
theorem rise_len (l : List Nat) (k : Nat) (hr : Rise l) (hk : ∀ i ∈ l, i < k) : l.length ≤ k := by
  have h1 : l.Nodup := hr.imp (fun h e => by omega)
  have := nodup_len l (List.range k) h1 (fun i hi => List.mem_range.2 (hk i hi))
  rwa [List.length_range] at this
theorem Dm.Fit.loose {D : Dm} (h : D.Fit) {f : Fm} (hf : f ∈ D.fs) : f.loose.length ≤ sec f.now.length := rise_len _ _ (h.rise f hf) (h.lim f hf)
/-- a file as it may be -/
def Fm.Ok (f : Fm) : Prop := Rise f.loose ∧ (∀ i ∈ f.loose, i < sec f.now.length) ∧ f.now.length ≤ 68719476736 ∧ f.sure.length ≤ f.now.length
theorem Dm.Fit.ok {D : Dm} (h : D.Fit) {f : Fm} (hf : f ∈ D.fs) : f.Ok := ⟨h.rise f hf, h.lim f hf, h.now f hf, h.sure f hf⟩
theorem Fm.Ok.loose {f : Fm} (h : f.Ok) : f.loose.length ≤ 1073741825 := by
  have := rise_len _ _ h.1 h.2.1
  have := h.2.2.1
  unfold sec at *; omega

set_option maxHeartbeats 1000000 in
theorem New_ct (n : Int) (B : Frag) : Ct Try.prog 22 [i64 n] B 1 (fun v B' H' => B' = B ∧ ((n < 0 ∧ v = .tuple #[.pointer none, i64 1] ∧ H' = 1) ∨ (0 ≤ n ∧ ∃ db mb, v = .tuple #[.pointer (some ⟨db, 0, none⟩), i64 0] ∧ H' = dkH db ⟨[], n, false, [], 0, mb, none, 0⟩))) := by
  refine Ct.of_body Try.func22 rfl (nt := 10) rfl (by kernel_rfl) rfl ?_
  intro N0 w0 R
  rw [one_star]
  refine Cx.seq (fun K1 k1 => ?_)
  refine Cx.region ?_
  refine Lx.y (asg rfl) rfl ?_
  refine Lx.y (asg rfl) rfl ?_
  refine Lx.nil ?_
  refine Xx.tn (k1 _ _ _ _ ?_)
  refine Cx.seq (fun K2 k2 => ?_)
  refine Cx.seq (fun K3 k3 => ?_)
  refine Cx.region ?_
  refine Lx.y (mv rfl) rfl ?_
  refine Lx.y (lss rfl rfl) rfl ?_
  refine Lx.nil ?_
  refine Xx.tn (k3 _ _ _ _ ?_)
  refine Cx.condD rfl (fun h4 => ?_) (fun h4 => ?_)
  · skip
    have hn := h4
    refine Cx.seq (fun K5 k5 => ?_)
    refine Cx.region ?_
    refine Lx.y (asg rfl) rfl ?_
    refine Lx.y (asg rfl) rfl ?_
    refine Lx.nil ?_
    refine Xx.tn (k5 _ _ _ _ ?_)
    refine Cx.ret ?_
    refine Xx.tr ?_
    exact Xx.ret2 rfl rfl rfl ⟨rfl, .inl ⟨hn, rfl, rfl⟩⟩ (Frag.le_refl _) (by rw [one_star])
  · skip
    have hn := h4
    refine Cx.skip ?_
    refine Xx.tn (k2 _ _ _ _ ?_)
    refine Cx.seq (fun K6 k6 => ?_)
    refine Cx.region ?_
    refine Lx.o (mkM) rfl (fun v B' H' hΦ hB => ?_)
    obtain ⟨mb, rfl, hBB, rfl⟩ := hΦ
    have hBB2 := hBB.symm
    subst hBB2
    clear hB
    refine Lx.y (mv rfl) rfl ?_
    refine Lx.y (bld ti97 pl97 rfl rfl) rfl ?_
    refine Lx.new (boxA rfl) rfl (fun db => ?_)
    refine Lx.y (asg rfl) rfl ?_
    refine Lx.y (asg rfl) rfl ?_
    refine Lx.nil ?_
    refine Xx.tn (k6 _ _ _ _ ?_)
    refine Cx.ret ?_
    exact Xx.ret2 rfl rfl rfl ⟨rfl, .inr ⟨by omega, db, mb, rfl, rfl⟩⟩ (Frag.le_refl _) (by unfold dkH fisH; simp only [List.length_nil, List.flatMap_nil, List.map_nil]; rw [sbuf_nil, one_star, star_one, star_assoc]; rfl)

set_option maxHeartbeats 1000000 in
theorem Used_ct (d : Dk) (db : Nat) (B : Frag) (hF : d.abs.Fit) : CtC Try.prog 27 [.pointer (some ⟨db, 0, none⟩)] B (dkH db d) (i64 ((usedM d.abs.fs : Nat) : Int)) (dkH db d) := by
  refine Ct.of_body Try.func27 rfl (nt := 26) rfl (by kernel_rfl) rfl ?_
  intro N0 w0 R
  unfold dkH
  simp only [star_assoc]
  refine Cx.seq (fun K1 k1 => ?_)
  refine Cx.region ?_
  refine Lx.y (asg rfl) rfl ?_
  refine Lx.nil ?_
  refine Xx.tn (k1 _ _ _ _ ?_)
  refine Cx.seq (fun K2 k2 => ?_)
  refine Cx.seq (fun K3 k3 => ?_)
  refine Cx.region ?_
  refine Lx.y (mv rfl) rfl ?_
  refine Lx.y (Yx.ff (eqNilP Try.underlying26 rfl rfl) rfl) rfl ?_
  refine Lx.nil ?_
  refine Xx.tn (k3 _ _ _ _ ?_)
  refine Cx.condF rfl ?_
  refine Cx.skip ?_
  refine Xx.tn (k2 _ _ _ _ ?_)
  refine Cx.seq (fun K4 k4 => ?_)
  refine Cx.region ?_
  refine Lx.y (asg rfl) rfl ?_
  refine Lx.nil ?_
  refine Xx.tn (k4 _ _ _ _ ?_)
  refine Cx.seq (fun K5 k5 => ?_)
  refine Cx.seq (fun K6 k6 => ?_)
  refine Cx.region ?_
  refine Lx.y (mv rfl) rfl ?_
  refine Lx.y (nilc rfl) rfl ?_
  refine Lx.y (fa' fo97_0 rfl) rfl ?_
  refine Lx.y (ld Try.underlying94 rfl rfl rfl) rfl ?_
  refine Xx.openF d.mb fun Z c hS hZ => ?_
  refine Lx.o (rgM Try.underlying94 rfl) rfl (fun v B' H' hΦ hB => ?_)
  obtain ⟨it, rfl, hBB, rfl⟩ := hΦ
  have hBB2 := hBB.symm
  subst hBB2
  clear hB
  refine Lx.nil ?_
  refine Xx.tn (k6 _ _ _ _ ?_)
  refine Cx.block ?_
  refine Cx.loopK (Sub.cons (s := 0) rfl (Sub.cons (s := 2) rfl (Sub.cons (s := 6) rfl (Sub.cons (s := 7) rfl (Sub.cons (s := 8) rfl (Sub.cons (s := 9) rfl (Sub.cons (s := 10) rfl (Sub.cons (s := 11) rfl (Sub.cons (s := 12) rfl (Sub.nil _)))))))))) (fun m ρ' B' H' => ∃ (dz : List (Fi × Nat)), (VisF Z dz) ∧ m = Z.length - dz.length ∧ ρ' = [(3, i64 ((usedM (dz.map (·.1.m)) : Nat) : Int))] ∧ B = B' ∧ blk it (itObj d.mb c (dz.map (mz fkv))) * (blk d.mb (mapObj (Z.map (mz fkv)) c) * (row db 97 (dcs d) * (sbuf 25 3 d.Ap d.plan.length d.cp (d.plan.flatMap scs) * (fisH d.fs * R)))) = H') ⟨[], VisF.nil Z, rfl, rfl, rfl, rfl⟩ (Sub.cons (s := 3) rfl (Sub.cons (s := 0) rfl (Sub.cons (s := 2) rfl (Sub.cons (s := 6) rfl (Sub.cons (s := 7) rfl (Sub.cons (s := 8) rfl (Sub.cons (s := 9) rfl (Sub.cons (s := 10) rfl (Sub.cons (s := 11) rfl (Sub.cons (s := 12) rfl (Sub.nil _))))))))))) ?_
  rintro m ρ' B' H' ⟨dz, hv, rfl, rfl, rfl, rfl⟩
  refine Cx.seq (fun K7 k7 => ?_)
  refine Cx.region ?_
  refine Lx.o (nxF hS hv rfl) rfl (fun v B' H' hΦ hB => ?_)
  obtain ⟨o, dz2, rfl, ha, hBB, rfl⟩ := hΦ
  have hBB2 := hBB.symm
  subst hBB2
  clear hB
  refine Lx.y (ext rfl (nx0 _)) rfl ?_
  refine Lx.nil ?_
  refine Xx.tn (k7 _ _ _ _ ?_)
  refine Cx.seq (fun K8 k8 => ?_)
  refine Cx.condB rfl (fun h9 => ?_) (fun h9 => ?_)
  · skip
    obtain ⟨z, rfl⟩ : ∃ z, o = some z := by
      cases o with
      | none => exact absurd h9 (by simp)
      | some z => exact ⟨z, rfl⟩
    obtain ⟨rfl, hzZ, hzn⟩ := ha
    have hzf : z.1 ∈ d.fs := by rw [← hZ]; exact List.mem_map.2 ⟨z, hzZ, rfl⟩
    obtain ⟨Rf, hRf⟩ := fisH_mem hzf
    rw [hRf]
    simp only [fiH, star_assoc]
    have hv2 := hv.step hzZ hzn
    have hvl := hv2.len
    rw [List.length_append, List.length_singleton] at hvl
    have hzw := hF.now _ (List.mem_map.2 ⟨_, hzf, rfl⟩)
    have hZl : Z.length = d.fs.length := by rw [← hZ, List.length_map]
    have hfl : d.fs.length ≤ 1000000 := by have := hF.len; unfold Dk.abs at this; simpa using this
    have hdl := hv.len
    have hub : usedM (dz.map (·.1.m)) ≤ dz.length * 1073741825 := by
      have := sum_le (fun m : Fm => sec m.now.length) 1073741825 (dz.map (·.1.m)) (fun m hm => by
        obtain ⟨y, hy, rfl⟩ := List.mem_map.1 hm
        have h9 : y.1 ∈ d.fs := by rw [← hZ]; exact List.mem_map.2 ⟨y, hv.1 y hy, rfl⟩
        have := hF.now _ (List.mem_map.2 ⟨_, h9, rfl⟩)
        show sec _ ≤ _
        unfold sec; omega)
      rw [List.length_map] at this; exact this
    have hsb : sec z.1.m.now.length ≤ 1073741825 := by unfold sec; omega
    refine Cx.skip ?_
    refine Xx.tn (k8 _ _ _ _ ?_)
    refine Cx.block ?_
    refine Cx.seq (fun K10 k10 => ?_)
    refine Cx.region ?_
    refine Lx.y (entF hS hzZ rfl) rfl ?_
    refine Lx.y (ext rfl rfl) rfl ?_
    refine Lx.y (asg rfl) rfl ?_
    refine Lx.nil ?_
    refine Xx.tn (k10 _ _ _ _ ?_)
    refine Cx.region ?_
    refine Lx.y (mv rfl) rfl ?_
    refine Lx.y (mv rfl) rfl ?_
    refine Lx.y (nilc rfl) rfl ?_
    refine Lx.y (fa' fo102_0 rfl) rfl ?_
    refine Lx.y (ld Try.underlying80 rfl rfl rfl) rfl ?_
    refine Lx.y (lenV (ty' := 0) Try.underlying80 rfl) rfl ?_
    refine Lx.cp rfl rfl rfl (sectors_ct z.1.m.now.length _ (by omega)) rfl ?_
    refine Lx.y (Yx.val (add rfl rfl (by first | exact wrap64 (by omega) (by omega) | rfl)) (show _ = i64 ((usedM (dz.map (·.1.m)) + sec z.1.m.now.length : Nat) : Int) from rfl)) rfl ?_
    refine Lx.y (asg rfl) rfl ?_
    refine Lx.nil ?_
    refine Xx.bn ?_
    exact Xx.againK ⟨dz ++ [z], hv2, rfl, rfl, rfl, (by rw [hRf]; simp only [fiH]; ac_rfl)⟩ (by rw [List.length_append, List.length_singleton]; omega) (Sub.consE (s := 3) rfl (by rw [usedM_snoc]) (Sub.cons (s := 0) rfl (Sub.cons (s := 2) rfl (Sub.cons (s := 6) rfl (Sub.cons (s := 7) rfl (Sub.cons (s := 8) rfl (Sub.cons (s := 9) rfl (Sub.cons (s := 10) rfl (Sub.cons (s := 11) rfl (Sub.cons (s := 12) rfl (Sub.nil _)))))))))))
  · skip
    obtain rfl : o = none := by
      cases o with
      | none => rfl
      | some z => exact absurd h9 (by simp)
    obtain ⟨rfl, hall⟩ := ha
    have hp := hv.all hS hall
    rw [hZ] at hp
    refine Cx.exit ?_
    refine Xx.te ?_
    refine Xx.te ?_
    refine Xx.bh ?_
    refine Xx.tn (k5 _ _ _ _ ?_)
    refine Cx.seq (fun K11 k11 => ?_)
    refine Cx.region ?_
    refine Lx.y (mv rfl) rfl ?_
    refine Lx.y (asg rfl) rfl ?_
    refine Lx.nil ?_
    refine Xx.tn (k11 _ _ _ _ ?_)
    refine Cx.ret ?_
    refine Xx.closeF d.mb hS hZ (Xx.dropB it ?_)
    exact Xx.ret1 rfl rfl ⟨by rw [usedM_perm hp]; rfl, rfl, rfl⟩ (Frag.le_refl _) (by ac_rfl)

set_option maxHeartbeats 1000000 in
theorem Loose_ct (d : Dk) (db : Nat) (B : Frag) (hF : d.abs.Fit) : CtC Try.prog 19 [.pointer (some ⟨db, 0, none⟩)] B (dkH db d) (i64 ((looseM d.abs.fs : Nat) : Int)) (dkH db d) := by
  refine Ct.of_body Try.func19 rfl (nt := 25) rfl (by kernel_rfl) rfl ?_
  intro N0 w0 R
  unfold dkH
  simp only [star_assoc]
  refine Cx.seq (fun K1 k1 => ?_)
  refine Cx.region ?_
  refine Lx.y (asg rfl) rfl ?_
  refine Lx.nil ?_
  refine Xx.tn (k1 _ _ _ _ ?_)
  refine Cx.seq (fun K2 k2 => ?_)
  refine Cx.seq (fun K3 k3 => ?_)
  refine Cx.region ?_
  refine Lx.y (mv rfl) rfl ?_
  refine Lx.y (Yx.ff (eqNilP Try.underlying26 rfl rfl) rfl) rfl ?_
  refine Lx.nil ?_
  refine Xx.tn (k3 _ _ _ _ ?_)
  refine Cx.condF rfl ?_
  refine Cx.skip ?_
  refine Xx.tn (k2 _ _ _ _ ?_)
  refine Cx.seq (fun K4 k4 => ?_)
  refine Cx.region ?_
  refine Lx.y (asg rfl) rfl ?_
  refine Lx.nil ?_
  refine Xx.tn (k4 _ _ _ _ ?_)
  refine Cx.seq (fun K5 k5 => ?_)
  refine Cx.seq (fun K6 k6 => ?_)
  refine Cx.region ?_
  refine Lx.y (mv rfl) rfl ?_
  refine Lx.y (nilc rfl) rfl ?_
  refine Lx.y (fa' fo97_0 rfl) rfl ?_
  refine Lx.y (ld Try.underlying94 rfl rfl rfl) rfl ?_
  refine Xx.openF d.mb fun Z c hS hZ => ?_
  refine Lx.o (rgM Try.underlying94 rfl) rfl (fun v B' H' hΦ hB => ?_)
  obtain ⟨it, rfl, hBB, rfl⟩ := hΦ
  have hBB2 := hBB.symm
  subst hBB2
  clear hB
  refine Lx.nil ?_
  refine Xx.tn (k6 _ _ _ _ ?_)
  refine Cx.block ?_
  refine Cx.loopK (Sub.cons (s := 0) rfl (Sub.cons (s := 2) rfl (Sub.cons (s := 6) rfl (Sub.cons (s := 7) rfl (Sub.cons (s := 8) rfl (Sub.cons (s := 9) rfl (Sub.cons (s := 10) rfl (Sub.cons (s := 11) rfl (Sub.cons (s := 12) rfl (Sub.nil _)))))))))) (fun m ρ' B' H' => ∃ (dz : List (Fi × Nat)), (VisF Z dz) ∧ m = Z.length - dz.length ∧ ρ' = [(3, i64 ((looseM (dz.map (·.1.m)) : Nat) : Int))] ∧ B = B' ∧ blk it (itObj d.mb c (dz.map (mz fkv))) * (blk d.mb (mapObj (Z.map (mz fkv)) c) * (row db 97 (dcs d) * (sbuf 25 3 d.Ap d.plan.length d.cp (d.plan.flatMap scs) * (fisH d.fs * R)))) = H') ⟨[], VisF.nil Z, rfl, rfl, rfl, rfl⟩ (Sub.cons (s := 3) rfl (Sub.cons (s := 0) rfl (Sub.cons (s := 2) rfl (Sub.cons (s := 6) rfl (Sub.cons (s := 7) rfl (Sub.cons (s := 8) rfl (Sub.cons (s := 9) rfl (Sub.cons (s := 10) rfl (Sub.cons (s := 11) rfl (Sub.cons (s := 12) rfl (Sub.nil _))))))))))) ?_
  rintro m ρ' B' H' ⟨dz, hv, rfl, rfl, rfl, rfl⟩
  refine Cx.seq (fun K7 k7 => ?_)
  refine Cx.region ?_
  refine Lx.o (nxF hS hv rfl) rfl (fun v B' H' hΦ hB => ?_)
  obtain ⟨o, dz2, rfl, ha, hBB, rfl⟩ := hΦ
  have hBB2 := hBB.symm
  subst hBB2
  clear hB
  refine Lx.y (ext rfl (nx0 _)) rfl ?_
  refine Lx.nil ?_
  refine Xx.tn (k7 _ _ _ _ ?_)
  refine Cx.seq (fun K8 k8 => ?_)
  refine Cx.condB rfl (fun h9 => ?_) (fun h9 => ?_)
  · skip
    obtain ⟨z, rfl⟩ : ∃ z, o = some z := by
      cases o with
      | none => exact absurd h9 (by simp)
      | some z => exact ⟨z, rfl⟩
    obtain ⟨rfl, hzZ, hzn⟩ := ha
    have hzf : z.1 ∈ d.fs := by rw [← hZ]; exact List.mem_map.2 ⟨z, hzZ, rfl⟩
    obtain ⟨Rf, hRf⟩ := fisH_mem hzf
    rw [hRf]
    simp only [fiH, star_assoc]
    have hv2 := hv.step hzZ hzn
    have hvl := hv2.len
    rw [List.length_append, List.length_singleton] at hvl
    have hzw := hF.now _ (List.mem_map.2 ⟨_, hzf, rfl⟩)
    have hZl : Z.length = d.fs.length := by rw [← hZ, List.length_map]
    have hfl : d.fs.length ≤ 1000000 := by have := hF.len; unfold Dk.abs at this; simpa using this
    have hdl := hv.len
    have hub : looseM (dz.map (·.1.m)) ≤ dz.length * 1073741825 := by
      have := sum_le (fun m : Fm => m.loose.length) 1073741825 (dz.map (·.1.m)) (fun m hm => by
        obtain ⟨y, hy, rfl⟩ := List.mem_map.1 hm
        have h9 : y.1 ∈ d.fs := by rw [← hZ]; exact List.mem_map.2 ⟨y, hv.1 y hy, rfl⟩
        have h8 := hF.now _ (List.mem_map.2 ⟨_, h9, rfl⟩)
        have h7 := hF.loose (List.mem_map.2 ⟨_, h9, rfl⟩)
        unfold sec at h7
        show y.1.m.loose.length ≤ _
        omega)
      rw [List.length_map] at this; exact this
    have hsb : z.1.m.loose.length ≤ 1073741825 := by
      have h7 := hF.loose (List.mem_map.2 ⟨_, hzf, rfl⟩)
      unfold sec at h7; omega
    refine Cx.skip ?_
    refine Xx.tn (k8 _ _ _ _ ?_)
    refine Cx.block ?_
    refine Cx.seq (fun K10 k10 => ?_)
    refine Cx.region ?_
    refine Lx.y (entF hS hzZ rfl) rfl ?_
    refine Lx.y (ext rfl rfl) rfl ?_
    refine Lx.y (asg rfl) rfl ?_
    refine Lx.nil ?_
    refine Xx.tn (k10 _ _ _ _ ?_)
    refine Cx.region ?_
    refine Lx.y (mv rfl) rfl ?_
    refine Lx.y (mv rfl) rfl ?_
    refine Lx.y (nilc rfl) rfl ?_
    refine Lx.y (fa' fo102_2 rfl) rfl ?_
    refine Lx.y (ld Try.underlying39 rfl rfl rfl) rfl ?_
    refine Lx.y (lenV (ty' := 0) Try.underlying39 rfl) rfl ?_
    refine Lx.y (Yx.val (add rfl rfl (by first | exact wrap64 (by omega) (by omega) | rfl)) (show _ = i64 ((looseM (dz.map (·.1.m)) + z.1.m.loose.length : Nat) : Int) from rfl)) rfl ?_
    refine Lx.y (asg rfl) rfl ?_
    refine Lx.nil ?_
    refine Xx.bn ?_
    exact Xx.againK ⟨dz ++ [z], hv2, rfl, rfl, rfl, (by rw [hRf]; simp only [fiH]; ac_rfl)⟩ (by rw [List.length_append, List.length_singleton]; omega) (Sub.consE (s := 3) rfl (by rw [looseM_snoc]) (Sub.cons (s := 0) rfl (Sub.cons (s := 2) rfl (Sub.cons (s := 6) rfl (Sub.cons (s := 7) rfl (Sub.cons (s := 8) rfl (Sub.cons (s := 9) rfl (Sub.cons (s := 10) rfl (Sub.cons (s := 11) rfl (Sub.cons (s := 12) rfl (Sub.nil _)))))))))))
  · skip
    obtain rfl : o = none := by
      cases o with
      | none => rfl
      | some z => exact absurd h9 (by simp)
    obtain ⟨rfl, hall⟩ := ha
    have hp := hv.all hS hall
    rw [hZ] at hp
    refine Cx.exit ?_
    refine Xx.te ?_
    refine Xx.te ?_
    refine Xx.bh ?_
    refine Xx.tn (k5 _ _ _ _ ?_)
    refine Cx.seq (fun K11 k11 => ?_)
    refine Cx.region ?_
    refine Lx.y (mv rfl) rfl ?_
    refine Lx.y (asg rfl) rfl ?_
    refine Lx.nil ?_
    refine Xx.tn (k11 _ _ _ _ ?_)
    refine Cx.ret ?_
    refine Xx.closeF d.mb hS hZ (Xx.dropB it ?_)
    exact Xx.ret1 rfl rfl ⟨by rw [looseM_perm hp]; rfl, rfl, rfl⟩ (Frag.le_refl _) (by ac_rfl)

set_option maxHeartbeats 1000000 in
theorem Dead_ct (d : Dk) (db : Nat) (B : Frag) : CtC Try.prog 28 [.pointer (some ⟨db, 0, none⟩)] B (dkH db d) (.bool d.dead) (dkH db d) := by
  refine Ct.of_body Try.func28 rfl (nt := 11) rfl (by kernel_rfl) rfl ?_
  intro N0 w0 R
  unfold dkH
  simp only [star_assoc]
  refine Cx.seq (fun K1 k1 => ?_)
  refine Cx.region ?_
  refine Lx.y (asg rfl) rfl ?_
  refine Lx.nil ?_
  refine Xx.tn (k1 _ _ _ _ ?_)
  refine Cx.seq (fun K2 k2 => ?_)
  refine Cx.region ?_
  refine Lx.y (mv rfl) rfl ?_
  refine Lx.y (Yx.ff (eqNilP Try.underlying26 rfl rfl) rfl) rfl ?_
  refine Lx.y (mv rfl) rfl ?_
  refine Lx.gT rfl rfl rfl ?_
  refine Lx.y (mv rfl) rfl ?_
  refine Lx.gT rfl rfl rfl ?_
  refine Lx.y (nilc rfl) rfl ?_
  refine Lx.gT rfl rfl rfl ?_
  refine Lx.y (fa' fo97_2 rfl) rfl ?_
  refine Lx.gT rfl rfl rfl ?_
  refine Lx.y (ld Try.underlying4 rfl rfl rfl) rfl ?_
  refine Lx.y (pickF rfl rfl) rfl ?_
  refine Lx.y (asg rfl) rfl ?_
  refine Lx.nil ?_
  refine Xx.tn (k2 _ _ _ _ ?_)
  refine Cx.ret ?_
  exact Xx.ret1 rfl rfl ⟨rfl, rfl, rfl⟩ (Frag.le_refl _) (by ac_rfl)

set_option maxHeartbeats 1000000 in
theorem Changes_ct (d : Dk) (db : Nat) (B : Frag) : CtC Try.prog 29 [.pointer (some ⟨db, 0, none⟩)] B (dkH db d) (i64 ((d.ch : Nat) : Int)) (dkH db d) := by
  refine Ct.of_body Try.func29 rfl (nt := 9) rfl (by kernel_rfl) rfl ?_
  intro N0 w0 R
  unfold dkH
  simp only [star_assoc]
  refine Cx.seq (fun K1 k1 => ?_)
  refine Cx.region ?_
  refine Lx.y (asg rfl) rfl ?_
  refine Lx.nil ?_
  refine Xx.tn (k1 _ _ _ _ ?_)
  refine Cx.seq (fun K2 k2 => ?_)
  refine Cx.seq (fun K3 k3 => ?_)
  refine Cx.region ?_
  refine Lx.y (mv rfl) rfl ?_
  refine Lx.y (Yx.ff (eqNilP Try.underlying26 rfl rfl) rfl) rfl ?_
  refine Lx.nil ?_
  refine Xx.tn (k3 _ _ _ _ ?_)
  refine Cx.condF rfl ?_
  refine Cx.skip ?_
  refine Xx.tn (k2 _ _ _ _ ?_)
  refine Cx.seq (fun K4 k4 => ?_)
  refine Cx.region ?_
  refine Lx.y (mv rfl) rfl ?_
  refine Lx.y (nilc rfl) rfl ?_
  refine Lx.y (fa' fo97_4 rfl) rfl ?_
  refine Lx.y (ld Try.underlying3 rfl rfl rfl) rfl ?_
  refine Lx.y (asg rfl) rfl ?_
  refine Lx.nil ?_
  refine Xx.tn (k4 _ _ _ _ ?_)
  refine Cx.ret ?_
  exact Xx.ret1 rfl rfl ⟨rfl, rfl, rfl⟩ (Frag.le_refl _) (by ac_rfl)

set_option maxHeartbeats 1000000 in
theorem Up_ct (d : Dk) (db : Nat) (B : Frag) : CtC Try.prog 18 [.pointer (some ⟨db, 0, none⟩)] B (dkH db d) (.bool d.dead) (dkH db {d with dead := false}) := by
  refine Ct.of_body Try.func18 rfl (nt := 15) rfl (by kernel_rfl) rfl ?_
  intro N0 w0 R
  unfold dkH
  simp only [star_assoc]
  refine Cx.seq (fun K1 k1 => ?_)
  refine Cx.region ?_
  refine Lx.y (asg rfl) rfl ?_
  refine Lx.nil ?_
  refine Xx.tn (k1 _ _ _ _ ?_)
  refine Cx.seq (fun K2 k2 => ?_)
  refine Cx.seq (fun K3 k3 => ?_)
  refine Cx.region ?_
  refine Lx.y (mv rfl) rfl ?_
  refine Lx.y (Yx.ff (eqNilP Try.underlying26 rfl rfl) rfl) rfl ?_
  refine Lx.y (mv rfl) rfl ?_
  refine Lx.gT rfl rfl rfl ?_
  refine Lx.y (mv rfl) rfl ?_
  refine Lx.gT rfl rfl rfl ?_
  refine Lx.y (nilc rfl) rfl ?_
  refine Lx.gT rfl rfl rfl ?_
  refine Lx.y (fa' fo97_2 rfl) rfl ?_
  refine Lx.gT rfl rfl rfl ?_
  refine Lx.y (ld Try.underlying4 rfl rfl rfl) rfl ?_
  refine Lx.gT rfl rfl rfl ?_
  refine Lx.y (not' rfl) rfl ?_
  refine Lx.y (pickF rfl rfl) rfl ?_
  refine Lx.nil ?_
  refine Xx.tn (k3 _ _ _ _ ?_)
  refine Cx.condB rfl (fun h4 => ?_) (fun h4 => ?_)
  · skip
    have hd : d.dead = false := by simpa using h4
    refine Cx.seq (fun K5 k5 => ?_)
    refine Cx.region ?_
    refine Lx.y (asg rfl) rfl ?_
    refine Lx.nil ?_
    refine Xx.tn (k5 _ _ _ _ ?_)
    refine Cx.ret ?_
    refine Xx.tr ?_
    exact Xx.ret1 rfl rfl ⟨by rw [hd], rfl, rfl⟩ (Frag.le_refl _) (by obtain ⟨fs, room, dead, plan, ch, mb, Ap, cp⟩ := d; obtain rfl : dead = false := hd; simp only [star_assoc])
  · skip
    have hd : d.dead = true := by simpa using h4
    refine Cx.skip ?_
    refine Xx.tn (k2 _ _ _ _ ?_)
    refine Cx.seq (fun K6 k6 => ?_)
    refine Cx.region ?_
    refine Lx.y (mv rfl) rfl ?_
    refine Lx.y (nilc rfl) rfl ?_
    refine Lx.y (fa' fo97_2 rfl) rfl ?_
    refine Lx.st (stO Try.underlying4 sz4 rfl rfl rfl (by show 2 < 5; omega) rfl) ?_
    refine Lx.nil ?_
    refine Xx.tn (k6 _ _ _ _ ?_)
    refine Cx.seq (fun K7 k7 => ?_)
    refine Cx.region ?_
    refine Lx.y (asg rfl) rfl ?_
    refine Lx.nil ?_
    refine Xx.tn (k7 _ _ _ _ ?_)
    refine Cx.ret ?_
    exact Xx.ret1 rfl rfl ⟨by rw [hd], rfl, rfl⟩ (Frag.le_refl _) (by simp only [star_assoc]; rfl)

set_option maxHeartbeats 1000000 in
theorem Room_ct (d : Dk) (db : Nat) (n : Int) (B : Frag) : CtC Try.prog 20 [.pointer (some ⟨db, 0, none⟩), i64 n] B (dkH db d) (.tuple #[]) (dkH db {d with room := if 0 ≤ n then n else d.room}) := by
  refine Ct.of_body Try.func20 rfl (nt := 14) rfl (by kernel_rfl) rfl ?_
  intro N0 w0 R
  unfold dkH
  simp only [star_assoc]
  refine Cx.seq (fun K1 k1 => ?_)
  refine Cx.region ?_
  refine Lx.y (mv rfl) rfl ?_
  refine Lx.y (Yx.tt (neNilP Try.underlying26 rfl rfl) rfl) rfl ?_
  refine Lx.y (mv rfl) rfl ?_
  refine Lx.gT rfl rfl rfl ?_
  refine Lx.y (mv rfl) rfl ?_
  refine Lx.gT rfl rfl rfl ?_
  refine Lx.y (geq rfl rfl) rfl ?_
  refine Lx.y (pickT rfl rfl) rfl ?_
  refine Lx.nil ?_
  refine Xx.tn (k1 _ _ _ _ ?_)
  refine Cx.condD rfl (fun h2 => ?_) (fun h2 => ?_)
  · skip
    have hn := h2
    refine Cx.region ?_
    refine Lx.y (mv rfl) rfl ?_
    refine Lx.y (mv rfl) rfl ?_
    refine Lx.y (nilc rfl) rfl ?_
    refine Lx.y (fa' fo97_1 rfl) rfl ?_
    refine Lx.st (stO Try.underlying3 sz3 rfl rfl rfl (by show 1 < 5; omega) rfl) ?_
    refine Lx.nil ?_
    exact Xx.end0 rfl ⟨rfl, rfl, rfl⟩ (Frag.le_refl _) (by rw [if_pos hn]; simp only [star_assoc]; rfl)
  · skip
    have hn := h2
    refine Cx.skip ?_
    exact Xx.end0 rfl ⟨rfl, rfl, rfl⟩ (Frag.le_refl _) (by rw [if_neg hn]; simp only [star_assoc])

/-- what "file" hands back -/
def fileV (d : Dk) (n : Int) : Value := if d.dead = true then .tuple #[.pointer none, i64 7] else match findF n d.fs with
  | none => .tuple #[.pointer none, i64 2]
  | some f => .tuple #[.pointer (some ⟨f.b, 0, none⟩), i64 0]

set_option maxHeartbeats 1000000 in
theorem file_ct (d : Dk) (db : Nat) (n : Int) (B : Frag) : CtC Try.prog 47 [.pointer (some ⟨db, 0, none⟩), i64 n] B (dkH db d) (fileV d n) (dkH db d) := by
  refine Ct.of_body Try.func47 rfl (nt := 24) rfl (by kernel_rfl) rfl ?_
  intro N0 w0 R
  unfold dkH
  simp only [star_assoc]
  refine Cx.seq (fun K1 k1 => ?_)
  refine Cx.region ?_
  refine Lx.y (asg rfl) rfl ?_
  refine Lx.y (asg rfl) rfl ?_
  refine Lx.nil ?_
  refine Xx.tn (k1 _ _ _ _ ?_)
  refine Cx.seq (fun K2 k2 => ?_)
  refine Cx.seq (fun K3 k3 => ?_)
  refine Cx.region ?_
  refine Lx.y (mv rfl) rfl ?_
  refine Lx.y (Yx.ff (eqNilP Try.underlying26 rfl rfl) rfl) rfl ?_
  refine Lx.y (mv rfl) rfl ?_
  refine Lx.gT rfl rfl rfl ?_
  refine Lx.y (mv rfl) rfl ?_
  refine Lx.gT rfl rfl rfl ?_
  refine Lx.y (nilc rfl) rfl ?_
  refine Lx.gT rfl rfl rfl ?_
  refine Lx.y (fa' fo97_2 rfl) rfl ?_
  refine Lx.gT rfl rfl rfl ?_
  refine Lx.y (ld Try.underlying4 rfl rfl rfl) rfl ?_
  refine Lx.y (pickF rfl rfl) rfl ?_
  refine Lx.nil ?_
  refine Xx.tn (k3 _ _ _ _ ?_)
  refine Cx.condB rfl (fun h4 => ?_) (fun h4 => ?_)
  · skip
    have hd := h4
    refine Cx.seq (fun K5 k5 => ?_)
    refine Cx.region ?_
    refine Lx.y (asg rfl) rfl ?_
    refine Lx.y (asg rfl) rfl ?_
    refine Lx.nil ?_
    refine Xx.tn (k5 _ _ _ _ ?_)
    refine Cx.ret ?_
    refine Xx.tr ?_
    exact Xx.ret2 rfl rfl rfl ⟨(by unfold fileV; rw [if_pos hd]), rfl, rfl⟩ (Frag.le_refl _) (by ac_rfl)
  · skip
    have hd := h4
    refine Cx.skip ?_
    refine Xx.tn (k2 _ _ _ _ ?_)
    refine Cx.seq (fun K6 k6 => ?_)
    refine Cx.region ?_
    refine Lx.y (mv rfl) rfl ?_
    refine Lx.y (nilc rfl) rfl ?_
    refine Lx.y (fa' fo97_0 rfl) rfl ?_
    refine Lx.y (ld Try.underlying94 rfl rfl rfl) rfl ?_
    refine Lx.y (mv rfl) rfl ?_
    refine Lx.y (lkM Try.underlying94 Try.underlying3 Try.zeroValue95 rfl rfl (v := .pointer ((findF n d.fs).map fun f => ⟨f.b, 0, none⟩)) (by rw [mget_find]; cases findF n d.fs <;> rfl)) rfl ?_
    refine Lx.y (asg rfl) rfl ?_
    refine Lx.nil ?_
    refine Xx.tn (k6 _ _ _ _ ?_)
    refine Cx.seq (fun K7 k7 => ?_)
    refine Cx.seq (fun K8 k8 => ?_)
    refine Cx.region ?_
    refine Lx.y (mv rfl) rfl ?_
    refine Lx.y (eqNilP Try.underlying95 rfl rfl) rfl ?_
    refine Lx.nil ?_
    refine Xx.tn (k8 _ _ _ _ ?_)
    refine Cx.condB rfl (fun h9 => ?_) (fun h9 => ?_)
    · skip
      have hf := h9
      refine Cx.seq (fun K10 k10 => ?_)
      refine Cx.region ?_
      refine Lx.y (asg rfl) rfl ?_
      refine Lx.y (asg rfl) rfl ?_
      refine Lx.nil ?_
      refine Xx.tn (k10 _ _ _ _ ?_)
      refine Cx.ret ?_
      refine Xx.tr ?_
      exact Xx.ret2 rfl rfl rfl ⟨(by unfold fileV; rw [if_neg (by rw [hd]; decide)]; cases hq : findF n d.fs with
        | none => rfl
        | some f => rw [hq] at hf; cases hf), rfl, rfl⟩ (Frag.le_refl _) (by ac_rfl)
    · skip
      have hf := h9
      refine Cx.skip ?_
      refine Xx.tn (k7 _ _ _ _ ?_)
      refine Cx.seq (fun K11 k11 => ?_)
      refine Cx.region ?_
      refine Lx.y (mv rfl) rfl ?_
      refine Lx.y (asg rfl) rfl ?_
      refine Lx.y (asg rfl) rfl ?_
      refine Lx.nil ?_
      refine Xx.tn (k11 _ _ _ _ ?_)
      refine Cx.ret ?_
      exact Xx.ret2 rfl rfl rfl ⟨(by unfold fileV; rw [if_neg (by rw [hd]; decide)]; cases hq : findF n d.fs with
        | none => rw [hq] at hf; cases hf
        | some f => rfl), rfl, rfl⟩ (Frag.le_refl _) (by ac_rfl)
end DkB
end Go.Proofs.Ytgcebieihmlaoaa
