/-
  Texts of this seat, one behind the other: DkB, Shelf, DkC, DkD, DkE, DkF, DkG, DkH, DkI, DkJ, DkK, DkL, DkM, DkN, Jn1, Jn2.
-/
import Derived.Test.YthlfffbcligocaaGreatProg
import Derived.Shelf.Sort.Plain
import Derived.Shelf.Strings.Prefix
import Derived.Shelf.Strings.Repeat
import Derived.Shelf.Slices.In.SortNone
import Derived.Test.YthlfffbcligocaaGreatMf4
set_option linter.unusedSimpArgs false
set_option linter.unusedVariables false
namespace Go.Proofs.YthlfffbcligocaaGreat
open Go.SL Go.RowKit
set_option maxRecDepth 100000
open DkA
namespace DkB
theorem sz3 : (Tryz.prog.info? 3).map (·.size) = some 1 := by kernel_rfl
theorem sz4 : (Tryz.prog.info? 4).map (·.size) = some 1 := by kernel_rfl
theorem sz5 : (Tryz.prog.info? 5).map (·.size) = some 1 := by kernel_rfl
theorem sz59 : (Tryz.prog.info? 59).map (·.size) = some 3 := by kernel_rfl
theorem ti3 : TI Tryz.prog 3 [.int .i64 0] 1 8 := TI.of (by kernel_rfl) rfl rfl
theorem ti5 : TI Tryz.prog 5 [.int .u8 0] 1 1 := TI.of (by kernel_rfl) rfl rfl
theorem ti59 : TI Tryz.prog 59 [.int .i64 0, .int .u64 0, .int .i64 0] 3 24 := TI.of (by kernel_rfl) rfl rfl
theorem ti90 : TI Tryz.prog 90 [.map none, .int .i64 0, .bool false, .slice none 0 0, .int .i64 0] 5 56 := TI.of (by kernel_rfl) rfl rfl
theorem ti109 : TI Tryz.prog 109 [.slice none 0 0, .slice none 0 0, .slice none 0 0] 3 72 := TI.of (by kernel_rfl) rfl rfl
theorem fo90_0 : FO Tryz.prog 90 0 0 1 false := FO.of U90 rfl rfl (by kernel_rfl) U88 rfl rfl
theorem fo90_1 : FO Tryz.prog 90 1 1 1 false := FO.of U90 rfl rfl (by kernel_rfl) U3 rfl rfl
theorem fo90_2 : FO Tryz.prog 90 2 2 1 false := FO.of U90 rfl rfl (by kernel_rfl) U4 rfl rfl
theorem fo90_4 : FO Tryz.prog 90 4 4 1 false := FO.of U90 rfl rfl (by kernel_rfl) U3 rfl rfl
theorem fo109_0 : FO Tryz.prog 109 0 0 1 false := FO.of U109 rfl rfl (by kernel_rfl) U107 rfl rfl
theorem pl90 : PL Tryz.prog 90 [(0, 1), (1, 1), (2, 1), (3, 1), (4, 1)] := PL.of U90 (by kernel_rfl)
structure Fm where
  n : Int
  now : List UInt8
  sure : List UInt8
  loose : List Nat
structure Sk where
  at_ : Int
  mask : BitVec 64
  torn : Int
def scs (x : Sk) : List Value := [i64 x.at_, u64 x.mask, i64 x.torn]
structure Dm where
  fs : List Fm
  room : Int
  dead : Bool
  plan : List Sk
  ch : Nat
structure Fi where
  m : Fm
  b : Nat
  An : Option Addr
  cn : Nat
  As : Option Addr
  cs : Nat
  Al : Option Addr
  cl : Nat
structure Dk where
  fs : List Fi
  room : Int
  dead : Bool
  plan : List Sk
  ch : Nat
  mb : Nat
  Ap : Option Addr
  cp : Nat
def Dk.abs (d : Dk) : Dm := ⟨d.fs.map (·.m), d.room, d.dead, d.plan, d.ch⟩
def fcs (f : Fi) : List Value := [.slice f.An f.m.now.length f.cn, .slice f.As f.m.sure.length f.cs, .slice f.Al f.m.loose.length f.cl]
def fiH (f : Fi) : HP := row f.b 109 (fcs f) * (sbuf 5 1 f.An f.m.now.length f.cn (u8s f.m.now) * (sbuf 5 1 f.As f.m.sure.length f.cs (u8s f.m.sure) * sbuf 3 1 f.Al f.m.loose.length f.cl (nv f.m.loose)))
def fkv (f : Fi) : Int × Value := (f.m.n, .pointer (some ⟨f.b, 0, none⟩))
def fisH : List Fi → HP
  | [] => 1
  | f :: fs => fiH f * fisH fs
def dcs (d : Dk) : List Value := [.map (some d.mb), i64 d.room, .bool d.dead, .slice d.Ap d.plan.length d.cp, i64 ((d.ch : Nat) : Int)]
def dkH (db : Nat) (d : Dk) : HP := row db 90 (dcs d) * (imap d.mb (d.fs.map fkv) * (sbuf 59 3 d.Ap d.plan.length d.cp (d.plan.flatMap scs) * fisH d.fs))
structure Dm.Fit (D : Dm) : Prop where
  nd : (D.fs.map (·.n)).Nodup
  rise : ∀ f ∈ D.fs, Rise f.loose
  lim : ∀ f ∈ D.fs, ∀ i ∈ f.loose, i < sec f.now.length
  len : D.fs.length ≤ 1000000
  now : ∀ f ∈ D.fs, f.now.length ≤ 68719476736
  sure : ∀ f ∈ D.fs, f.sure.length ≤ f.now.length
  room : 0 ≤ D.room ∧ D.room ≤ 9223372036854775807
  ch : D.ch ≤ 1152921504606846976
  plan : D.plan.length ≤ 1000000
theorem fisH_mem {fs : List Fi} {f : Fi} (h : f ∈ fs) : ∃ Rf, fisH fs = fiH f * Rf := by
  induction fs with
  | nil => cases h
  | cons g fs ih =>
    rcases List.mem_cons.1 h with rfl | h
    · exact ⟨_, rfl⟩
    · obtain ⟨Rf, e⟩ := ih h
      exact ⟨fiH g * Rf, by show fiH g * fisH fs = _; rw [e, star_left]⟩
def findF (k : Int) : List Fi → Option Fi
  | [] => none
  | f :: fs => if k = f.m.n then some f else findF k fs
def setF (f' : Fi) : List Fi → List Fi
  | [] => [f']
  | f :: fs => if f'.m.n = f.m.n then f' :: fs else f :: setF f' fs
def delF (k : Int) : List Fi → List Fi
  | [] => []
  | f :: fs => if k = f.m.n then fs else f :: delF k fs
def findM (k : Int) : List Fm → Option Fm
  | [] => none
  | f :: fs => if k = f.n then some f else findM k fs
def setM (f' : Fm) : List Fm → List Fm
  | [] => [f']
  | f :: fs => if f'.n = f.n then f' :: fs else f :: setM f' fs
def delM (k : Int) : List Fm → List Fm
  | [] => []
  | f :: fs => if k = f.n then fs else f :: delM k fs
theorem findF_m (k : Int) (fs : List Fi) : (findF k fs).map (·.m) = findM k (fs.map (·.m)) := by
  induction fs with
  | nil => rfl
  | cons f fs ih =>
    simp only [findF, findM, List.map_cons]
    split
    · rfl
    · exact ih
theorem setF_m (f' : Fi) (fs : List Fi) : (setF f' fs).map (·.m) = setM f'.m (fs.map (·.m)) := by
  induction fs with
  | nil => rfl
  | cons f fs ih =>
    simp only [setF, setM, List.map_cons]
    split
    · rfl
    · rw [List.map_cons, ih]
theorem mget_find (k : Int) (fs : List Fi) : mget k (fs.map fkv) = (findF k fs).map fun f => .pointer (some ⟨f.b, 0, none⟩) := by
  induction fs with
  | nil => rfl
  | cons f fs ih =>
    show (if k = f.m.n then _ else _) = _
    simp only [findF]
    split
    · rfl
    · exact ih
theorem mset_set (f' : Fi) (fs : List Fi) : mset f'.m.n (.pointer (some ⟨f'.b, 0, none⟩)) (fs.map fkv) = (setF f' fs).map fkv := by
  induction fs with
  | nil => rfl
  | cons f fs ih =>
    show (if f'.m.n = f.m.n then _ else _) = _
    simp only [setF]
    split
    · rfl
    · rw [ih]; rfl
theorem findF_mem {k : Int} {fs : List Fi} {f : Fi} (h : findF k fs = some f) : f ∈ fs ∧ f.m.n = k := by
  induction fs with
  | nil => cases h
  | cons g fs ih =>
    simp only [findF] at h
    split at h
    · rename_i e; cases h; exact ⟨by simp, e.symm⟩
    · obtain ⟨h1, h2⟩ := ih h; exact ⟨by simp [h1], h2⟩
theorem fisH_find {k : Int} {fs : List Fi} {f : Fi} (h : findF k fs = some f) : ∃ Rf, fisH fs = fiH f * Rf ∧ (∀ f', f'.m.n = k → fisH (setF f' fs) = fiH f' * Rf) ∧ fisH (delF k fs) = Rf := by
  induction fs with
  | nil => cases h
  | cons g fs ih =>
    simp only [findF] at h
    split at h
    · rename_i e
      cases h
      exact ⟨_, rfl, fun f' hf => by simp only [setF]; rw [if_pos (hf.trans e)]; rfl, by simp only [delF]; rw [if_pos e]⟩
    · rename_i e
      obtain ⟨Rf, h1, h2, h3⟩ := ih h
      refine ⟨fiH g * Rf, by show fiH g * fisH fs = _; rw [h1, star_left], fun f' hf => ?_, ?_⟩
      · simp only [setF]; rw [if_neg (by rw [hf]; exact e)]
        show fiH g * fisH (setF f' fs) = _
        rw [h2 f' hf, star_left]
      · simp only [delF]; rw [if_neg e]
        show fiH g * fisH (delF k fs) = _
        rw [h3]
theorem fisH_new {fs : List Fi} {f' : Fi} (h : findF f'.m.n fs = none) : fisH (setF f' fs) = fiH f' * fisH fs := by
  induction fs with
  | nil => rfl
  | cons g fs ih =>
    simp only [findF] at h
    split at h
    · cases h
    · rename_i e
      simp only [setF]; rw [if_neg e]
      show fiH g * fisH (setF f' fs) = fiH f' * (fiH g * fisH fs)
      rw [ih h, star_left]
theorem setF_same {k : Int} {fs : List Fi} {f f' : Fi} (h : findF k fs = some f) (hn : f'.m.n = k) (hb : f'.b = f.b) : (setF f' fs).map fkv = fs.map fkv := by
  induction fs with
  | nil => cases h
  | cons g fs ih =>
    simp only [findF] at h
    simp only [setF]
    split at h
    · rename_i e
      cases h
      rw [if_pos (hn.trans e), List.map_cons, List.map_cons]
      congr 1
      unfold fkv
      rw [hn, hb, e]
    · rename_i e
      rw [if_neg (by rw [hn]; exact e), List.map_cons, List.map_cons, ih h]
def usedM (ms : List Fm) : Nat := (ms.map fun m => sec m.now.length).sum
def looseM (ms : List Fm) : Nat := (ms.map fun m => m.loose.length).sum
theorem usedM_snoc (dz : List (Fi × Nat)) (z : Fi × Nat) : usedM ((dz ++ [z]).map (·.1.m)) = usedM (dz.map (·.1.m)) + sec z.1.m.now.length := by
  unfold usedM; rw [List.map_append, List.map_append, List.sum_append]; simp
theorem usedM_perm {dz : List (Fi × Nat)} {fs : List Fi} (h : (dz.map (·.1)).Perm fs) : usedM (dz.map (·.1.m)) = usedM (fs.map (·.m)) := by
  unfold usedM
  have := ((h.map (·.m)).map fun m => sec m.now.length).sum_nat
  rw [List.map_map, List.map_map] at this
  rw [List.map_map]
  exact this
theorem sum_le {α : Type} (g : α → Nat) (k : Nat) : ∀ (l : List α), (∀ x ∈ l, g x ≤ k) → (l.map g).sum ≤ l.length * k := by
  intro l
  induction l with
  | nil => intro _; simp
  | cons x l ih =>
    intro h
    have h1 := h x (by simp)
    have h2 := ih fun y hy => h y (by simp [hy])
    rw [List.map_cons, List.sum_cons, List.length_cons, Nat.succ_mul]; omega
theorem rise_len (l : List Nat) (k : Nat) (hr : Rise l) (hk : ∀ i ∈ l, i < k) : l.length ≤ k := by
  have h1 : l.Nodup := hr.imp (fun h e => by omega)
  have := nodup_len l (List.range k) h1 (fun i hi => List.mem_range.2 (hk i hi))
  rwa [List.length_range] at this
def Fm.Ok (f : Fm) : Prop := Rise f.loose ∧ (∀ i ∈ f.loose, i < sec f.now.length) ∧ f.now.length ≤ 68719476736 ∧ f.sure.length ≤ f.now.length
theorem Dm.Fit.ok {D : Dm} (h : D.Fit) {f : Fm} (hf : f ∈ D.fs) : f.Ok := ⟨h.rise f hf, h.lim f hf, h.now f hf, h.sure f hf⟩
theorem Fm.Ok.loose {f : Fm} (h : f.Ok) : f.loose.length ≤ 1073741825 := by
  have := rise_len _ _ h.1 h.2.1
  have := h.2.2.1
  unfold sec at *; omega
set_option maxHeartbeats 1000000 in
theorem New_ct (n : Int) (B : Frag) : Ct Tryz.prog 10 [i64 n] B 1 (fun v B' H' => B' = B ∧ ((n < 0 ∧ v = .tuple #[.pointer none, i64 1] ∧ H' = 1) ∨ (0 ≤ n ∧ ∃ db mb, v = .tuple #[.pointer (some ⟨db, 0, none⟩), i64 0] ∧ H' = dkH db ⟨[], n, false, [], 0, mb, none, 0⟩))) := by
 refine Ct.of_body Tryz.func10 rfl (nt := 10) rfl (by kernel_rfl) rfl ?_
 intro N0 w0 R
 rw [one_star]
 refine Cq (fun K1 k1 => ?_)
 refine Cr <| Lx.y (asg rfl) rfl <| Lx.y (asg rfl) rfl <| Lx.nil <| ?_
 refine Xx.tn (k1 _ _ _ _ ?_)
 refine Cq (fun K2 k2 => ?_)
 refine Cq (fun K3 k3 => ?_)
 refine Cr <| Lx.y (mv rfl) rfl <| Lx.y (lss rfl rfl) rfl <| Lx.nil <| ?_
 refine Xx.tn (k3 _ _ _ _ ?_)
 refine Cx.condD rfl (fun h4 => ?_) (fun h4 => ?_)
 ·
  have hn := h4
  refine Cq (fun K5 k5 => ?_)
  refine Cr <| Lx.y (asg rfl) rfl <| Lx.y (asg rfl) rfl <| Lx.nil <| ?_
  refine Xx.tn (k5 _ _ _ _ ?_)
  refine Cx.ret <| Xx.tr <| ?_
  exact Xx.ret2 rfl rfl rfl ⟨rfl, .inl ⟨hn, rfl, rfl⟩⟩ (Fl _) (by rw [one_star])
 ·
  have hn := h4
  refine Cx.skip ?_
  refine Xx.tn (k2 _ _ _ _ ?_)
  refine Cq (fun K6 k6 => ?_)
  refine Cr ?_
  refine Lx.o (mkM) rfl (fun v B' H' hΦ hB => ?_)
  obtain ⟨mb, rfl, hBB, rfl⟩ := hΦ
  have hBB2 := hBB.symm
  subst hBB2
  clear hB
  refine Lx.y (mv rfl) rfl <| Lx.y (bld ti90 pl90 rfl rfl) rfl <| ?_
  refine Lx.new (boxA rfl) rfl (fun db => ?_)
  refine Lx.y (asg rfl) rfl <| Lx.y (asg rfl) rfl <| Lx.nil <| ?_
  refine Xx.tn (k6 _ _ _ _ ?_)
  refine Cx.ret ?_
  exact Xx.ret2 rfl rfl rfl ⟨rfl, .inr ⟨by omega, db, mb, rfl, rfl⟩⟩ (Fl _) (by unfold dkH fisH; simp only [List.length_nil, List.flatMap_nil, List.map_nil]; rw [sbuf_nil, one_star, star_one, star_assoc]; rfl)
set_option maxHeartbeats 1000000 in
theorem Used_ct (d : Dk) (db : Nat) (B : Frag) (hF : d.abs.Fit) : CtC Tryz.prog 57 [.pointer (some ⟨db, 0, none⟩)] B (dkH db d) (i64 ((usedM d.abs.fs : Nat) : Int)) (dkH db d) := by
 refine Ct.of_body Tryz.func57 rfl (nt := 26) rfl (by kernel_rfl) rfl ?_
 intro N0 w0 R
 unfold dkH
 simp only [star_assoc]
 refine Cq (fun K1 k1 => ?_)
 refine Cr <| Lx.y (asg rfl) rfl <| Lx.nil <| ?_
 refine Xx.tn (k1 _ _ _ _ ?_)
 refine Cq (fun K2 k2 => ?_)
 refine Cq (fun K3 k3 => ?_)
 refine Cr <| Lx.y (mv rfl) rfl <| Lx.y (Yx.ff (eqNilP U27 rfl rfl) rfl) rfl <| Lx.nil <| ?_
 refine Xx.tn (k3 _ _ _ _ ?_)
 refine Cx.condF rfl <| Cx.skip <| ?_
 refine Xx.tn (k2 _ _ _ _ ?_)
 refine Cq (fun K4 k4 => ?_)
 refine Cr <| Lx.y (asg rfl) rfl <| Lx.nil <| ?_
 refine Xx.tn (k4 _ _ _ _ ?_)
 refine Cq (fun K5 k5 => ?_)
 refine Cq (fun K6 k6 => ?_)
 refine Cr <| Lx.y (mv rfl) rfl <| Lx.y (nilc rfl) rfl <| Lx.y (fa' fo90_0 rfl) rfl <| Lx.y (ld U88 rfl rfl rfl) rfl <| ?_
 refine Xx.openF d.mb fun Z c hS hZ => ?_
 refine Lx.o (rgM U88 rfl) rfl (fun v B' H' hΦ hB => ?_)
 obtain ⟨it, rfl, hBB, rfl⟩ := hΦ
 have hBB2 := hBB.symm
 subst hBB2
 clear hB
 refine Lx.nil ?_
 refine Xx.tn (k6 _ _ _ _ ?_)
 refine Cx.block ?_
 refine Cx.loopK (Sc 0 rfl (Sc 2 rfl (Sc 6 rfl (Sc 7 rfl (Sc 8 rfl (Sc 9 rfl (Sc 10 rfl (Sc 11 rfl (Sc 12 rfl (Sub.nil _)))))))))) (fun m ρ' B' H' => ∃ (dz : List (Fi × Nat)), (VisF Z dz) ∧ m = Z.length - dz.length ∧ ρ' = [(3, i64 ((usedM (dz.map (·.1.m)) : Nat) : Int))] ∧ B = B' ∧ blk it (itObj d.mb c (dz.map (mz fkv))) * (blk d.mb (mapObj (Z.map (mz fkv)) c) * (row db 90 (dcs d) * (sbuf 59 3 d.Ap d.plan.length d.cp (d.plan.flatMap scs) * (fisH d.fs * R)))) = H') ⟨[], VisF.nil Z, rfl, rfl, rfl, rfl⟩ (Sc 3 rfl (Sc 0 rfl (Sc 2 rfl (Sc 6 rfl (Sc 7 rfl (Sc 8 rfl (Sc 9 rfl (Sc 10 rfl (Sc 11 rfl (Sc 12 rfl (Sub.nil _))))))))))) ?_
 rintro m ρ' B' H' ⟨dz, hv, rfl, rfl, rfl, rfl⟩
 refine Cq (fun K7 k7 => ?_)
 refine Cr ?_
 refine Lx.o (nxF hS hv rfl) rfl (fun v B' H' hΦ hB => ?_)
 obtain ⟨o, dz2, rfl, ha, hBB, rfl⟩ := hΦ
 have hBB2 := hBB.symm
 subst hBB2
 clear hB
 refine Lx.y (ext rfl (nx0 _)) rfl <| Lx.nil <| ?_
 refine Xx.tn (k7 _ _ _ _ ?_)
 refine Cq (fun K8 k8 => ?_)
 refine Cx.condB rfl (fun h9 => ?_) (fun h9 => ?_)
 ·
  obtain ⟨z, rfl⟩ : ∃ z, o = some z := by
   cases o with
   | none => exact absurd h9 (by simp)
   | some z => exact ⟨z, rfl⟩
  obtain ⟨rfl, hzZ, hzn⟩ := ha
  have hzf : z.1 ∈ d.fs := by rw [← hZ]; exact List.mem_map.2 ⟨z, hzZ, rfl⟩
  obtain ⟨Rf, hRf⟩ := fisH_mem hzf
  rw [hRf]
  simp only [fiH, star_assoc]
  have hv2 := hv.step hzZ hzn
  have hvl := hv2.len
  rw [List.length_append, List.length_singleton] at hvl
  have hzw := hF.now _ (List.mem_map.2 ⟨_, hzf, rfl⟩)
  have hZl : Z.length = d.fs.length := by rw [← hZ, List.length_map]
  have hfl : d.fs.length ≤ 1000000 := by have := hF.len; unfold Dk.abs at this; simpa using this
  have hdl := hv.len
  have hub : usedM (dz.map (·.1.m)) ≤ dz.length * 1073741825 := by
   have := sum_le (fun m : Fm => sec m.now.length) 1073741825 (dz.map (·.1.m)) (fun m hm => by
    obtain ⟨y, hy, rfl⟩ := List.mem_map.1 hm
    have h9 : y.1 ∈ d.fs := by rw [← hZ]; exact List.mem_map.2 ⟨y, hv.1 y hy, rfl⟩
    have := hF.now _ (List.mem_map.2 ⟨_, h9, rfl⟩)
    show sec _ ≤ _
    unfold sec; omega)
   rw [List.length_map] at this; exact this
  have hsb : sec z.1.m.now.length ≤ 1073741825 := by unfold sec; omega
  refine Cx.skip ?_
  refine Xx.tn (k8 _ _ _ _ ?_)
  refine Cx.block ?_
  refine Cq (fun K10 k10 => ?_)
  refine Cr <| Lx.y (entF hS hzZ rfl) rfl <| Lx.y (ext rfl rfl) rfl <| Lx.y (asg rfl) rfl <| Lx.nil <| ?_
  refine Xx.tn (k10 _ _ _ _ ?_)
  refine Cr <| Lx.y (mv rfl) rfl <| Lx.y (mv rfl) rfl <| Lx.y (nilc rfl) rfl <| Lx.y (fa' fo109_0 rfl) rfl <| Lx.y (ld U107 rfl rfl rfl) rfl <| Lx.y (lenV (ty' := 0) U107 rfl) rfl <| ?_
  refine Lx.cp rfl rfl rfl (sectors_ct z.1.m.now.length _ (by omega)) rfl ?_
  refine Lx.y (Yx.val (add rfl rfl (by first | exact wrap64 (by omega) (by omega) | rfl)) (show _ = i64 ((usedM (dz.map (·.1.m)) + sec z.1.m.now.length : Nat) : Int) from rfl)) rfl <| Lx.y (asg rfl) rfl <| Lx.nil <| Xx.bn <| ?_
  exact Xx.againK ⟨dz ++ [z], hv2, rfl, rfl, rfl, (by rw [hRf]; simp only [fiH]; ac_rfl)⟩ (by rw [List.length_append, List.length_singleton]; omega) (Sub.consE (s := 3) rfl (by rw [usedM_snoc]) (Sc 0 rfl (Sc 2 rfl (Sc 6 rfl (Sc 7 rfl (Sc 8 rfl (Sc 9 rfl (Sc 10 rfl (Sc 11 rfl (Sc 12 rfl (Sub.nil _)))))))))))
 ·
  obtain rfl : o = none := by
   cases o with
   | none => rfl
   | some z => exact absurd h9 (by simp)
  obtain ⟨rfl, hall⟩ := ha
  have hp := hv.all hS hall
  rw [hZ] at hp
  refine Cx.exit <| Xx.te <| Xx.te <| Xx.bh <| ?_
  refine Xx.tn (k5 _ _ _ _ ?_)
  refine Cq (fun K11 k11 => ?_)
  refine Cr <| Lx.y (mv rfl) rfl <| Lx.y (asg rfl) rfl <| Lx.nil <| ?_
  refine Xx.tn (k11 _ _ _ _ ?_)
  refine Cx.ret ?_
  refine Xx.closeF d.mb hS hZ (Xx.dropB it ?_)
  exact Xx.ret1 rfl rfl ⟨by rw [usedM_perm hp]; rfl, rfl, rfl⟩ (Fl _) (by ac_rfl)
set_option maxHeartbeats 1000000 in
theorem Dead_ct (d : Dk) (db : Nat) (B : Frag) : CtC Tryz.prog 44 [.pointer (some ⟨db, 0, none⟩)] B (dkH db d) (.bool d.dead) (dkH db d) := by
 refine Ct.of_body Tryz.func44 rfl (nt := 11) rfl (by kernel_rfl) rfl ?_
 intro N0 w0 R
 unfold dkH
 simp only [star_assoc]
 refine Cq (fun K1 k1 => ?_)
 refine Cr <| Lx.y (asg rfl) rfl <| Lx.nil <| ?_
 refine Xx.tn (k1 _ _ _ _ ?_)
 refine Cq (fun K2 k2 => ?_)
 refine Cr <| Lx.y (mv rfl) rfl <| Lx.y (Yx.ff (eqNilP U27 rfl rfl) rfl) rfl <| Lx.y (mv rfl) rfl <| Lx.gT rfl rfl rfl <| Lx.y (mv rfl) rfl <| Lx.gT rfl rfl rfl <| Lx.y (nilc rfl) rfl <| Lx.gT rfl rfl rfl <| Lx.y (fa' fo90_2 rfl) rfl <| Lx.gT rfl rfl rfl <| Lx.y (ld U4 rfl rfl rfl) rfl <| ?_
 refine Lx.y (pickF rfl rfl) rfl <| Lx.y (asg rfl) rfl <| Lx.nil <| ?_
 refine Xx.tn (k2 _ _ _ _ ?_)
 refine Cx.ret ?_
 exact Xx.ret1 rfl rfl ⟨rfl, rfl, rfl⟩ (Fl _) (by ac_rfl)
set_option maxHeartbeats 1000000 in
theorem Up_ct (d : Dk) (db : Nat) (B : Frag) : CtC Tryz.prog 30 [.pointer (some ⟨db, 0, none⟩)] B (dkH db d) (.bool d.dead) (dkH db {d with dead := false}) := by
 refine Ct.of_body Tryz.func30 rfl (nt := 15) rfl (by kernel_rfl) rfl ?_
 intro N0 w0 R
 unfold dkH
 simp only [star_assoc]
 refine Cq (fun K1 k1 => ?_)
 refine Cr <| Lx.y (asg rfl) rfl <| Lx.nil <| ?_
 refine Xx.tn (k1 _ _ _ _ ?_)
 refine Cq (fun K2 k2 => ?_)
 refine Cq (fun K3 k3 => ?_)
 refine Cr <| Lx.y (mv rfl) rfl <| Lx.y (Yx.ff (eqNilP U27 rfl rfl) rfl) rfl <| Lx.y (mv rfl) rfl <| Lx.gT rfl rfl rfl <| Lx.y (mv rfl) rfl <| Lx.gT rfl rfl rfl <| Lx.y (nilc rfl) rfl <| Lx.gT rfl rfl rfl <| Lx.y (fa' fo90_2 rfl) rfl <| Lx.gT rfl rfl rfl <| Lx.y (ld U4 rfl rfl rfl) rfl <| ?_
 refine Lx.gT rfl rfl rfl <| Lx.y (not' rfl) rfl <| Lx.y (pickF rfl rfl) rfl <| Lx.nil <| ?_
 refine Xx.tn (k3 _ _ _ _ ?_)
 refine Cx.condB rfl (fun h4 => ?_) (fun h4 => ?_)
 ·
  have hd : d.dead = false := by simpa using h4
  refine Cq (fun K5 k5 => ?_)
  refine Cr <| Lx.y (asg rfl) rfl <| Lx.nil <| ?_
  refine Xx.tn (k5 _ _ _ _ ?_)
  refine Cx.ret <| Xx.tr <| ?_
  exact Xx.ret1 rfl rfl ⟨by rw [hd], rfl, rfl⟩ (Fl _) (by obtain ⟨fs, room, dead, plan, ch, mb, Ap, cp⟩ := d; obtain rfl : dead = false := hd; simp only [star_assoc])
 ·
  have hd : d.dead = true := by simpa using h4
  refine Cx.skip ?_
  refine Xx.tn (k2 _ _ _ _ ?_)
  refine Cq (fun K6 k6 => ?_)
  refine Cr <| Lx.y (mv rfl) rfl <| Lx.y (nilc rfl) rfl <| Lx.y (fa' fo90_2 rfl) rfl <| ?_
  refine Lx.st (stO U4 sz4 rfl rfl rfl (by show 2 < 5; omega) rfl) ?_
  refine Lx.nil ?_
  refine Xx.tn (k6 _ _ _ _ ?_)
  refine Cq (fun K7 k7 => ?_)
  refine Cr <| Lx.y (asg rfl) rfl <| Lx.nil <| ?_
  refine Xx.tn (k7 _ _ _ _ ?_)
  refine Cx.ret ?_
  exact Xx.ret1 rfl rfl ⟨by rw [hd], rfl, rfl⟩ (Fl _) (by simp only [star_assoc]; rfl)
set_option maxHeartbeats 1000000 in
theorem Room_ct (d : Dk) (db : Nat) (n : Int) (B : Frag) : CtC Tryz.prog 25 [.pointer (some ⟨db, 0, none⟩), i64 n] B (dkH db d) (.tuple #[]) (dkH db {d with room := if 0 ≤ n then n else d.room}) := by
 refine Ct.of_body Tryz.func25 rfl (nt := 14) rfl (by kernel_rfl) rfl ?_
 intro N0 w0 R
 unfold dkH
 simp only [star_assoc]
 refine Cq (fun K1 k1 => ?_)
 refine Cr <| Lx.y (mv rfl) rfl <| Lx.y (Yx.tt (neNilP U27 rfl rfl) rfl) rfl <| Lx.y (mv rfl) rfl <| Lx.gT rfl rfl rfl <| Lx.y (mv rfl) rfl <| Lx.gT rfl rfl rfl <| Lx.y (geq rfl rfl) rfl <| Lx.y (pickT rfl rfl) rfl <| Lx.nil <| ?_
 refine Xx.tn (k1 _ _ _ _ ?_)
 refine Cx.condD rfl (fun h2 => ?_) (fun h2 => ?_)
 ·
  have hn := h2
  refine Cr <| Lx.y (mv rfl) rfl <| Lx.y (mv rfl) rfl <| Lx.y (nilc rfl) rfl <| Lx.y (fa' fo90_1 rfl) rfl <| ?_
  refine Lx.st (stO U3 sz3 rfl rfl rfl (by show 1 < 5; omega) rfl) ?_
  refine Lx.nil ?_
  exact Xx.end0 rfl ⟨rfl, rfl, rfl⟩ (Fl _) (by rw [if_pos hn]; simp only [star_assoc]; rfl)
 ·
  have hn := h2
  refine Cx.skip ?_
  exact Xx.end0 rfl ⟨rfl, rfl, rfl⟩ (Fl _) (by rw [if_neg hn]; simp only [star_assoc])
def fileV (d : Dk) (n : Int) : Value := if d.dead = true then .tuple #[.pointer none, i64 7] else match findF n d.fs with
  | none => .tuple #[.pointer none, i64 2]
  | some f => .tuple #[.pointer (some ⟨f.b, 0, none⟩), i64 0]
set_option maxHeartbeats 1000000 in
theorem file_ct (d : Dk) (db : Nat) (n : Int) (B : Frag) : CtC Tryz.prog 60 [.pointer (some ⟨db, 0, none⟩), i64 n] B (dkH db d) (fileV d n) (dkH db d) := by
 refine Ct.of_body Tryz.func60 rfl (nt := 24) rfl (by kernel_rfl) rfl ?_
 intro N0 w0 R
 unfold dkH
 simp only [star_assoc]
 refine Cq (fun K1 k1 => ?_)
 refine Cr <| Lx.y (asg rfl) rfl <| Lx.y (asg rfl) rfl <| Lx.nil <| ?_
 refine Xx.tn (k1 _ _ _ _ ?_)
 refine Cq (fun K2 k2 => ?_)
 refine Cq (fun K3 k3 => ?_)
 refine Cr <| Lx.y (mv rfl) rfl <| Lx.y (Yx.ff (eqNilP U27 rfl rfl) rfl) rfl <| Lx.y (mv rfl) rfl <| Lx.gT rfl rfl rfl <| Lx.y (mv rfl) rfl <| Lx.gT rfl rfl rfl <| Lx.y (nilc rfl) rfl <| Lx.gT rfl rfl rfl <| Lx.y (fa' fo90_2 rfl) rfl <| Lx.gT rfl rfl rfl <| Lx.y (ld U4 rfl rfl rfl) rfl <| ?_
 refine Lx.y (pickF rfl rfl) rfl <| Lx.nil <| ?_
 refine Xx.tn (k3 _ _ _ _ ?_)
 refine Cx.condB rfl (fun h4 => ?_) (fun h4 => ?_)
 ·
  have hd := h4
  refine Cq (fun K5 k5 => ?_)
  refine Cr <| Lx.y (asg rfl) rfl <| Lx.y (asg rfl) rfl <| Lx.nil <| ?_
  refine Xx.tn (k5 _ _ _ _ ?_)
  refine Cx.ret <| Xx.tr <| ?_
  exact Xx.ret2 rfl rfl rfl ⟨(by unfold fileV; rw [if_pos hd]), rfl, rfl⟩ (Fl _) (by ac_rfl)
 ·
  have hd := h4
  refine Cx.skip ?_
  refine Xx.tn (k2 _ _ _ _ ?_)
  refine Cq (fun K6 k6 => ?_)
  refine Cr <| Lx.y (mv rfl) rfl <| Lx.y (nilc rfl) rfl <| Lx.y (fa' fo90_0 rfl) rfl <| Lx.y (ld U88 rfl rfl rfl) rfl <| Lx.y (mv rfl) rfl <| ?_
  refine Lx.y (lkM U88 U3 Tryz.zeroValue106 rfl rfl (v := .pointer ((findF n d.fs).map fun f => ⟨f.b, 0, none⟩)) (by rw [mget_find]; cases findF n d.fs <;> rfl)) rfl ?_
  refine Lx.y (asg rfl) rfl <| Lx.nil <| ?_
  refine Xx.tn (k6 _ _ _ _ ?_)
  refine Cq (fun K7 k7 => ?_)
  refine Cq (fun K8 k8 => ?_)
  refine Cr <| Lx.y (mv rfl) rfl <| Lx.y (eqNilP U106 rfl rfl) rfl <| Lx.nil <| ?_
  refine Xx.tn (k8 _ _ _ _ ?_)
  refine Cx.condB rfl (fun h9 => ?_) (fun h9 => ?_)
  ·
   have hf := h9
   refine Cq (fun K10 k10 => ?_)
   refine Cr <| Lx.y (asg rfl) rfl <| Lx.y (asg rfl) rfl <| Lx.nil <| ?_
   refine Xx.tn (k10 _ _ _ _ ?_)
   refine Cx.ret <| Xx.tr <| ?_
   exact Xx.ret2 rfl rfl rfl ⟨(by unfold fileV; rw [if_neg (by rw [hd]; decide)]; cases hq : findF n d.fs with
    | none => rfl
    | some f => rw [hq] at hf; cases hf), rfl, rfl⟩ (Fl _) (by ac_rfl)
  ·
   have hf := h9
   refine Cx.skip ?_
   refine Xx.tn (k7 _ _ _ _ ?_)
   refine Cq (fun K11 k11 => ?_)
   refine Cr <| Lx.y (mv rfl) rfl <| Lx.y (asg rfl) rfl <| Lx.y (asg rfl) rfl <| Lx.nil <| ?_
   refine Xx.tn (k11 _ _ _ _ ?_)
   refine Cx.ret ?_
   exact Xx.ret2 rfl rfl rfl ⟨(by unfold fileV; rw [if_neg (by rw [hd]; decide)]; cases hq : findF n d.fs with
    | none => rw [hq] at hf; cases hf
    | some f => rfl), rfl, rfl⟩ (Fl _) (by ac_rfl)
end DkB
end Go.Proofs.YthlfffbcligocaaGreat
namespace Go.Proofs.YthlfffbcligocaaGreat
open Go.Shelf
def Shelf.lays189_ren : Go.Shelf.Ren := ⟨fun | 189 => 145 | 125 => 153 | 257 => 170 | 128 => 171 | 129 => 172 | 294 => 180 | 295 => 181 | 296 => 182 | 297 => 183 | 298 => 184 | 299 => 185 | 216 => 129 | 300 => 186 | 301 => 187 | 328 => 189 | 329 => 190 | 330 => 191 | 331 => 192 | 332 => 193 | 215 => 158 | 343 => 194 | n => n, fun | 28 => 26 | 3 => 3 | 46 => 182 | 0 => 0 | 51 => 104 | 53 => 22 | 4 => 4 | 183 => 240 | 182 => 239 | 131 => 161 | 5 => 5 | 9 => 9 | 218 => 246 | 222 => 130 | 228 => 250 | 229 => 251 | n => n, fun | n => n⟩
theorem Shelf.lays189 : Go.Proofs.Lays.n189 Tryz.prog Shelf.lays189_ren := {
  mixed := by kernel_rfl
  f125 := Tryz.func153.trans (congrArg some (by kernel_rfl))
  f128 := Tryz.func171.trans (congrArg some (by kernel_rfl))
  f129 := Tryz.func172.trans (congrArg some (by kernel_rfl))
  f189 := Tryz.func145.trans (congrArg some (by kernel_rfl))
  f215 := Tryz.func158.trans (congrArg some (by kernel_rfl))
  f216 := Tryz.func129.trans (congrArg some (by kernel_rfl))
  f257 := Tryz.func170.trans (congrArg some (by kernel_rfl))
  f294 := Tryz.func180.trans (congrArg some (by kernel_rfl))
  f295 := Tryz.func181.trans (congrArg some (by kernel_rfl))
  f296 := Tryz.func182.trans (congrArg some (by kernel_rfl))
  f297 := Tryz.func183.trans (congrArg some (by kernel_rfl))
  f298 := Tryz.func184.trans (congrArg some (by kernel_rfl))
  f299 := Tryz.func185.trans (congrArg some (by kernel_rfl))
  f300 := Tryz.func186.trans (congrArg some (by kernel_rfl))
  f301 := Tryz.func187.trans (congrArg some (by kernel_rfl))
  f328 := Tryz.func189.trans (congrArg some (by kernel_rfl))
  f329 := Tryz.func190.trans (congrArg some (by kernel_rfl))
  f330 := Tryz.func191.trans (congrArg some (by kernel_rfl))
  f331 := Tryz.func192.trans (congrArg some (by kernel_rfl))
  f332 := Tryz.func193.trans (congrArg some (by kernel_rfl))
  f343 := Tryz.func194.trans (congrArg some (by kernel_rfl))
  t0 := U0
  a0 := Tryz.isAgg0
  z0 := Tryz.sizeOf0
  v0 := Tryz.zeroValue0
  t3 := U3
  a3 := Tryz.isAgg3
  z3 := Tryz.sizeOf3
  v3 := Tryz.zeroValue3
  t4 := U4
  a4 := Tryz.isAgg4
  z4 := Tryz.sizeOf4
  v4 := Tryz.zeroValue4
  t5 := U5
  a5 := Tryz.isAgg5
  z5 := Tryz.sizeOf5
  v5 := Tryz.zeroValue5
  t9 := U9
  a9 := Tryz.isAgg9
  z9 := Tryz.sizeOf9
  v9 := Tryz.zeroValue9
  t28 := U26
  a28 := Tryz.isAgg26
  z28 := Tryz.sizeOf26
  v28 := Tryz.zeroValue26
  t46 := U182
  a46 := Tryz.isAgg182
  z46 := Tryz.sizeOf182
  v46 := Tryz.zeroValue182
  t51 := U104
  a51 := Tryz.isAgg104
  z51 := Tryz.sizeOf104
  v51 := Tryz.zeroValue104
  t53 := U22
  a53 := Tryz.isAgg22
  z53 := Tryz.sizeOf22
  v53 := Tryz.zeroValue22
  t131 := U161
  a131 := Tryz.isAgg161
  z131 := Tryz.sizeOf161
  v131 := Tryz.zeroValue161
  t182 := U239
  a182 := Tryz.isAgg239
  z182 := Tryz.sizeOf239
  v182 := Tryz.zeroValue239
  t183 := U240
  a183 := Tryz.isAgg240
  z183 := Tryz.sizeOf240
  v183 := Tryz.zeroValue240
  t218 := U246
  a218 := Tryz.isAgg246
  z218 := Tryz.sizeOf246
  v218 := Tryz.zeroValue246
  t222 := U130
  a222 := Tryz.isAgg130
  z222 := Tryz.sizeOf130
  v222 := Tryz.zeroValue130
  t228 := U250
  a228 := Tryz.isAgg250
  z228 := Tryz.sizeOf250
  v228 := Tryz.zeroValue250
  t229 := U251
  a229 := Tryz.isAgg251
  z229 := Tryz.sizeOf251
  v229 := Tryz.zeroValue251 }
open Go.Sort Go.RowKit in
theorem Shelf.slices_Sort_int (blk off cap : Nat) (zs : List Int) (w : World) (hH : Holds (Value.int .i64) w blk off zs.toArray) (hblk : blk < w.heap.size) (hsz : zs.length < 4611686018427387904) :
    Calls Tryz.prog 145 #[.slice (some ⟨blk, off, none⟩) zs.length cap] w fun e w' =>
      e = .returned (.tuple #[]) ∧ ∃ n os, w' = grow (putRow (Value.int .i64) (Sort.ahead w n) blk off (zs.mergeSort fun x y => decide (x ≤ y)).toArray) os := Any.slices_Sort_int Shelf.lays189 blk off cap zs w hH hblk hsz
def Shelf.lays99_ren : Go.Shelf.Ren := ⟨fun | 99 => 167 | 206 => 178 | n => n, fun | 9 => 9 | 4 => 4 | 3 => 3 | n => n, fun | n => n⟩
open Go.RowKit Go.Lib in
def Shelf.lays105_ren : Go.Shelf.Ren := ⟨fun | 105 => 142 | 212 => 166 | 99 => 167 | 165 => 168 | 166 => 89 | 170 => 88 | 169 => 90 | 263 => 176 | 264 => 177 | 206 => 178 | 240 => 128 | 241 => 179 | 276 => 157 | 277 => 188 | n => n, fun | 9 => 9 | 3 => 3 | 4 => 4 | 20 => 20 | 0 => 0 | 46 => 182 | 109 => 228 | 5 => 5 | 72 => 146 | 76 => 152 | 51 => 104 | 146 => 234 | 53 => 22 | 148 => 236 | 70 => 144 | 37 => 107 | 75 => 151 | 127 => 195 | 164 => 219 | 80 => 38 | n => n, fun | n => n⟩
theorem Shelf.lays105 : Go.Proofs.Lays.n105 Tryz.prog Shelf.lays105_ren := {
  mixed := by kernel_rfl
  f99 := Tryz.func167.trans (congrArg some (by kernel_rfl))
  f105 := Tryz.func142.trans (congrArg some (by kernel_rfl))
  f165 := Tryz.func168.trans (congrArg some (by kernel_rfl))
  f166 := Tryz.func89.trans (congrArg some (by kernel_rfl))
  f169 := Tryz.func90.trans (congrArg some (by kernel_rfl))
  f170 := Tryz.func88.trans (congrArg some (by kernel_rfl))
  f206 := Tryz.func178.trans (congrArg some (by kernel_rfl))
  f212 := Tryz.func166.trans (congrArg some (by kernel_rfl))
  f240 := Tryz.func128.trans (congrArg some (by kernel_rfl))
  f241 := Tryz.func179.trans (congrArg some (by kernel_rfl))
  f263 := Tryz.func176.trans (congrArg some (by kernel_rfl))
  f264 := Tryz.func177.trans (congrArg some (by kernel_rfl))
  f276 := Tryz.func157.trans (congrArg some (by kernel_rfl))
  f277 := Tryz.func188.trans (congrArg some (by kernel_rfl))
  t0 := U0
  a0 := Tryz.isAgg0
  z0 := Tryz.sizeOf0
  v0 := Tryz.zeroValue0
  t3 := U3
  a3 := Tryz.isAgg3
  z3 := Tryz.sizeOf3
  v3 := Tryz.zeroValue3
  t4 := U4
  a4 := Tryz.isAgg4
  z4 := Tryz.sizeOf4
  v4 := Tryz.zeroValue4
  t5 := U5
  a5 := Tryz.isAgg5
  z5 := Tryz.sizeOf5
  v5 := Tryz.zeroValue5
  t9 := U9
  a9 := Tryz.isAgg9
  z9 := Tryz.sizeOf9
  v9 := Tryz.zeroValue9
  t20 := U20
  a20 := Tryz.isAgg20
  z20 := Tryz.sizeOf20
  v20 := Tryz.zeroValue20
  t37 := U107
  a37 := Tryz.isAgg107
  z37 := Tryz.sizeOf107
  v37 := Tryz.zeroValue107
  t46 := U182
  a46 := Tryz.isAgg182
  z46 := Tryz.sizeOf182
  v46 := Tryz.zeroValue182
  t51 := U104
  a51 := Tryz.isAgg104
  z51 := Tryz.sizeOf104
  v51 := Tryz.zeroValue104
  t53 := U22
  a53 := Tryz.isAgg22
  z53 := Tryz.sizeOf22
  v53 := Tryz.zeroValue22
  t70 := U144
  a70 := Tryz.isAgg144
  z70 := Tryz.sizeOf144
  v70 := Tryz.zeroValue144
  t72 := U146
  a72 := Tryz.isAgg146
  z72 := Tryz.sizeOf146
  v72 := Tryz.zeroValue146
  t75 := U151
  a75 := Tryz.isAgg151
  z75 := Tryz.sizeOf151
  v75 := Tryz.zeroValue151
  t76 := U152
  a76 := Tryz.isAgg152
  z76 := Tryz.sizeOf152
  v76 := Tryz.zeroValue152
  t109 := U228
  a109 := Tryz.isAgg228
  z109 := Tryz.sizeOf228
  v109 := Tryz.zeroValue228
  t127 := U195
  a127 := Tryz.isAgg195
  z127 := Tryz.sizeOf195
  v127 := Tryz.zeroValue195
  t146 := U234
  a146 := Tryz.isAgg234
  z146 := Tryz.sizeOf234
  v146 := Tryz.zeroValue234
  t148 := U236
  a148 := Tryz.isAgg236
  z148 := Tryz.sizeOf236
  v148 := Tryz.zeroValue236
  t164 := U219
  a164 := Tryz.isAgg219
  z164 := Tryz.sizeOf219
  v164 := Tryz.zeroValue219 }
theorem Shelf.Builder_Extra_105 : Builder.Extra Tryz.prog Shelf.lays105_ren := {
  sizeBuilder := by kernel_rfl
  liesBuilder := by kernel_rfl
  t5 := U5
  a5 := Tryz.isAgg5
  z5 := Tryz.sizeOf5
  v5 := Tryz.zeroValue5
  infoByte := by kernel_rfl
  cellsByte := by kernel_rfl
  sizeByte := by kernel_rfl
  neB5 := by decide }
open Go.RowKit Go.Lib in
open Go.RowKit Go.Sort in
theorem Shelf.slices_Sort_int_none (p : Option Addr) (cap : Nat) (w : World) :
    Calls Tryz.prog 145 #[.slice p 0 cap] w fun e w' => e = .returned (.tuple #[]) ∧ w' = w := Any.slices_Sort_int_none Shelf.lays189 p cap w
end Go.Proofs.YthlfffbcligocaaGreat
namespace Go.Proofs.YthlfffbcligocaaGreat
open Go.SL Go.RowKit
set_option maxRecDepth 100000
open DkA DkB
namespace DkC
theorem sz3 : (Tryz.prog.info? 3).map (·.size) = some 1 := by kernel_rfl
theorem sz5 : (Tryz.prog.info? 5).map (·.size) = some 1 := by kernel_rfl
theorem sz26 : (Tryz.prog.info? 26).map (·.size) = some 1 := by kernel_rfl
theorem sz59 : (Tryz.prog.info? 59).map (·.size) = some 3 := by kernel_rfl
theorem ti3 : TI Tryz.prog 3 [.int .i64 0] 1 8 := TI.of (by kernel_rfl) rfl rfl
theorem fo90_0 : FO Tryz.prog 90 0 0 1 false := FO.of U90 rfl rfl (by kernel_rfl) U88 rfl rfl
def kint (n : Int) : List Value := [i64 n]
theorem intsN (l : List Int) : (ints l).length = l.length := by simp [ints]
set_option maxHeartbeats 2000000 in
theorem Keys_it (fs : List Fi) (mb b1 : Nat) (B : Frag) : ItA Tryz.prog 146 [.pointer (some ⟨b1, 0, none⟩)] kint (fun xs : List Int => xs.length ≤ fs.length) (fun xs : List Int => xs.Perm (fs.map (·.m.n))) B (row b1 88 [.map (some mb)] * imap mb (fs.map fkv)) := by
 refine ⟨Go.SL.enters_of Tryz.func146 rfl (by kernel_rfl), fun lp J Jx hy B1 H1 hB1 hJ0 => ?_⟩
 refine Ct.of_bodyM Tryz.func146 rfl (nt := 14) rfl (by kernel_rfl) rfl ?_
 intro N0 w0 R
 simp only [star_assoc]
 refine Cq (fun K1 k1 => ?_)
 refine Cr <| Lx.y (ld U88 rfl rfl rfl) rfl <| ?_
 refine Xx.openF mb fun Z c hS hZ => ?_
 refine Lx.o (rgM U88 rfl) rfl (fun v B' H' hΦ hB => ?_)
 obtain ⟨it, rfl, hBB, rfl⟩ := hΦ
 have hBB2 := hBB.symm
 subst hBB2
 clear hB
 refine Lx.nil ?_
 refine Xx.tn (k1 _ _ _ _ ?_)
 refine Cx.block ?_
 refine Cx.loopK (Sc 0 rfl (Sc 1 rfl (Sc 4 rfl (Sc 5 rfl (Sub.nil _))))) (fun m ρ' B' H' => ∃ (dz : List (Fi × Nat)) (B2 : Frag) (H2 : HP), (VisF Z dz ∧ J (dz.map (·.1.m.n)) B2 H2 ∧ B1.le B2) ∧ m = Z.length - dz.length ∧ ρ' = [] ∧ B2 = B' ∧ blk it (itObj mb c (dz.map (mz fkv))) * (blk mb (mapObj (Z.map (mz fkv)) c) * (row b1 88 [.map (some mb)] * (H2 * R))) = H') ⟨[], _, _, ⟨VisF.nil Z, hJ0, Fl _⟩, rfl, rfl, rfl, by ac_rfl⟩ (Sc 0 rfl (Sc 1 rfl (Sc 4 rfl (Sc 5 rfl (Sub.nil _))))) ?_
 rintro m ρ' B' H' ⟨dz, B2, H2, ⟨hv, hJ, hB2⟩, rfl, rfl, rfl, rfl⟩
 refine Cq (fun K2 k2 => ?_)
 refine Cr ?_
 refine Lx.o (nxF hS hv rfl) rfl (fun v B' H' hΦ hB => ?_)
 obtain ⟨o, dz2, rfl, ha, hBB, rfl⟩ := hΦ
 have hBB2 := hBB.symm
 subst hBB2
 clear hB
 refine Lx.y (ext rfl (nx0 _)) rfl <| Lx.nil <| ?_
 refine Xx.tn (k2 _ _ _ _ ?_)
 refine Cq (fun K3 k3 => ?_)
 refine Cx.condB rfl (fun h4 => ?_) (fun h4 => ?_)
 ·
  obtain ⟨z, rfl⟩ : ∃ z, o = some z := by
   cases o with
   | none => exact absurd h4 (by simp)
   | some z => exact ⟨z, rfl⟩
  obtain ⟨rfl, hzZ, hzn⟩ := ha
  have hv2 := hv.step hzZ hzn
  have hvl := hv2.len
  rw [List.length_append, List.length_singleton] at hvl
  have hZl : Z.length = fs.length := by rw [← hZ, List.length_map]
  refine Cx.skip ?_
  refine Xx.tn (k3 _ _ _ _ ?_)
  refine Cx.block ?_
  refine Cq (fun K5 k5 => ?_)
  refine Cr <| Lx.y (entF hS hzZ rfl) rfl <| Lx.y (ext rfl rfl) rfl <| Lx.y (asg rfl) rfl <| Lx.nil <| ?_
  refine Xx.tn (k5 _ _ _ _ ?_)
  refine Cq (fun K6 k6 => ?_)
  refine Cr <| Lx.y (mv rfl) rfl <| Lx.y (mv rfl) rfl <| ?_
  refine Lx.yield rfl rfl (hy (dz.map (·.1.m.n)) z.1.m.n B2 H2 (by show (dz.map (·.1.m.n) ++ [z.1.m.n]).length ≤ fs.length; rw [List.length_append, List.length_map, List.length_singleton]; omega) (Fz hB1 hB2) hJ) (show _ = H2 * (blk it (itObj mb c ((dz ++ [z]).map (mz fkv))) * (blk mb (mapObj (Z.map (mz fkv)) c) * (row b1 88 [.map (some mb)] * R))) by ac_rfl) rfl ?_
  rintro t B7 H7 hΦ hB7
  refine Lx.y (not' rfl) rfl <| Lx.nil <| ?_
  refine Xx.tn (k6 _ _ _ _ ?_)
  refine Cx.condB rfl (fun h7 => ?_) (fun h7 => ?_)
  ·
   obtain ⟨_, hΦ⟩ : t = false ∧ Jx (dz.map (·.1.m.n) ++ [z.1.m.n]) B7 H7 := by simpa [show t = false by simpa using h7] using hΦ
   refine Cx.ret ?_
   refine Xx.br ?_
   refine Xx.tr ?_
   refine Xx.br ?_
   refine Xx.closeF mb hS hZ (Xx.dropB it ?_)
   exact Xx.rM (Ds := []) (fun a w f _ => results_none rfl _ _ _) ⟨H7, rfl, .inr ⟨_, hΦ⟩⟩ (Fz hB2 hB7) (by rw [marks_nil, one_star]; ac_rfl)
  ·
   obtain ⟨_, hΦ⟩ : t = true ∧ J (dz.map (·.1.m.n) ++ [z.1.m.n]) B7 H7 := by simpa [show t = true by simpa using h7] using hΦ
   refine Cx.skip <| Xx.bn <| ?_
   exact Xx.againK ⟨dz ++ [z], _, _, ⟨hv2, by rw [List.map_append]; exact hΦ, Fz hB2 hB7⟩, rfl, rfl, rfl, (by ac_rfl)⟩ (by rw [List.length_append, List.length_singleton]; omega) (Sc 0 rfl (Sc 1 rfl (Sc 4 rfl (Sc 5 rfl (Sub.nil _)))))
 ·
  obtain rfl : o = none := by
   cases o with
   | none => rfl
   | some z => exact absurd h4 (by simp)
  obtain ⟨rfl, hall⟩ := ha
  have hp := hv.all hS hall
  rw [hZ] at hp
  refine Cx.exit <| Xx.te <| Xx.te <| Xx.bh <| ?_
  refine Xx.closeF mb hS hZ (Xx.dropB it ?_)
  exact Xx.eM [] rfl (fun a w f _ => results_none rfl _ _ _) ⟨H2, rfl, .inl ⟨_, by have := hp.map (·.m.n); rw [List.map_map] at this; exact this, hJ⟩⟩ hB2 (by rw [marks_nil, one_star]; ac_rfl)
set_option maxHeartbeats 1000000 in
theorem Keys_ct (mb : Nat) (B : Frag) : Ct Tryz.prog 115 [.map (some mb)] B 1 (fun v B' H' => B' = B ∧ ∃ b1, v = .func (.func 146) #[] #[.pointer (some ⟨b1, 0, none⟩)] ∧ H' = row b1 88 [.map (some mb)]) := by
 refine Ct.of_body Tryz.func115 rfl (nt := 4) rfl (by kernel_rfl) rfl ?_
 intro N0 w0 R
 rw [one_star]
 refine Cq (fun K1 k1 => ?_)
 refine Cr ?_
 refine Lx.new (boxO rfl rfl) rfl (fun b1 => ?_)
 refine Lx.y (asg rfl) rfl <| Lx.nil <| ?_
 refine Xx.tn (k1 _ _ _ _ ?_)
 refine Cq (fun K2 k2 => ?_)
 refine Cr <| Lx.y (mkf rfl rfl) rfl <| Lx.y (asg rfl) rfl <| Lx.nil <| ?_
 refine Xx.tn (k2 _ _ _ _ ?_)
 refine Cx.ret ?_
 exact Xx.ret1 rfl rfl ⟨rfl, b1, rfl, rfl⟩ (Fl _) rfl
set_option maxHeartbeats 2000000 in
theorem AppSeq_ct (fs : List Fi) (mb b1 : Nat) (B : Frag) (hn : fs.length ≤ 1000000) : Ct Tryz.prog 169 [.slice none 0 0, .func (.func 146) #[] #[.pointer (some ⟨b1, 0, none⟩)]] B (row b1 88 [.map (some mb)] * imap mb (fs.map fkv)) (fun v B' H' => ∃ xs A c, v = .slice A xs.length c ∧ xs.Perm (fs.map (·.m.n)) ∧ H' = (row b1 88 [.map (some mb)] * imap mb (fs.map fkv)) * sbuf 3 1 A xs.length c (ints xs)) := by
 refine Ct.of_bodyM Tryz.func169 rfl (nt := 13) rfl (by kernel_rfl) rfl ?_
 intro N0 w0 R
 refine Cq (fun K1 k1 => ?_)
 refine Cr ?_
 refine Lx.new (boxO rfl rfl) rfl (fun b2 => ?_)
 refine Lx.y (asg rfl) rfl <| Lx.nil <| ?_
 refine Xx.tn (k1 _ _ _ _ ?_)
 refine Cq (fun K2 k2 => ?_)
 refine Cq (fun K3 k3 => ?_)
 refine Cr <| Lx.y (mv rfl) rfl <| Lx.nil <| ?_
 refine Xx.tn (k3 _ _ _ _ ?_)
 refine Cx.block ?_
 refine Cx.rangeA (σ := _) (Sc 2 rfl (Sub.nil _)) rfl rfl (Keys_it fs mb b1 B) (show _ = (row b1 88 [.map (some mb)] * imap mb (fs.map fkv)) * ((row b2 26 [.slice none 0 0] * sbuf 3 1 none 0 0 (ints [])) * R) by rw [show ints [] = [] from rfl, sbuf_nil, star_one]; ac_rfl) rfl (fun _ => rfl) (fun pre B' H' => ∃ A c, H' = row b2 26 [.slice A pre.length c] * sbuf 3 1 A pre.length c (ints pre)) (fun _ _ _ _ => False) (fun pre x B1 ρ' B' H' => ρ' = [(5, i64 x)] ∧ pre.length + 1 ≤ fs.length ∧ B' = B1 ∧ ∃ A c, H' = row b2 26 [.slice A pre.length c] * sbuf 3 1 A pre.length c (ints pre)) (⟨none, 0, rfl⟩) ?_ ?_ ?_ ?_
 ·rintro lz Nz wz pre x B1 H1 F K hxs hB1 hJ hK
  rw [List.length_append, List.length_singleton] at hxs
  refine Cr <| Lx.y (asg rfl) rfl <| Lx.nil <| ?_
  refine Xx.tn ?_
  exact Xx.sub (hK _ _ _ ⟨rfl, hxs, rfl, hJ⟩ (Fl _)) (Sc 5 rfl (Sc 2 rfl (Sub.nil _)))
 ·rintro lz Nz wz pre x B1 F ρ' B' H' hxs hB1 hBx hAS
  obtain ⟨rfl, hpl, hBB, A, c, rfl⟩ := hAS
  subst hBB
  rename Frag => B5
  simp only [star_assoc]
  refine Cx.block <| Cr <| Lx.y (ld U26 rfl rfl rfl) rfl <| Lx.y (mv rfl) rfl <| ?_
  refine Lx.bsl (bsl1 U26 ti3 rfl rfl rfl (by decide)) rfl (fun bv => ?_)
  refine Lx.o (appN (A := A) (pre.length + 1) [i64 x] (ints (pre ++ [x])) U26 U26 ti3 rfl rfl rfl rfl rfl (by omega) (by omega) rfl (by simp [ints])) rfl (fun v B' H' hΦ hB => ?_)
  obtain ⟨A2, c2, rfl, hA2, hl2, hc2, hBB, rfl⟩ := hΦ
  subst hBB
  clear hB
  refine Lx.st (stO U26 sz26 rfl rfl rfl (by simp) rfl) ?_
  refine Lx.nil <| Xx.bn <| ?_
  refine Xx.dropB bv ?_
  exact Xx.rqn ⟨A2, c2, by rw [List.length_append]⟩ (Fl _) (by ac_rfl)
 ·rintro D xs B' H' hxs hBx hJ
  obtain ⟨A, c, rfl⟩ := hJ
  simp only [star_assoc]
  refine Xx.bn ?_
  refine Xx.tn (k2 _ _ _ _ ?_)
  refine Cq (fun K4 k4 => ?_)
  refine Cr <| Lx.y (ld U26 rfl rfl rfl) rfl <| Lx.y (asg rfl) rfl <| Lx.nil <| ?_
  refine Xx.tn (k4 _ _ _ _ ?_)
  refine Cx.ret ?_
  refine Xx.dropB b2 ?_
  exact Xx.rM (Ds := [D]) (res1 rfl rfl) ⟨xs, A, c, rfl, hxs, rfl⟩ hBx (by rw [marks_cons, marks_nil, star_one]; ac_rfl)
 ·rintro D c pre B' H' hBx hJx
  exact hJx.elim
set_option maxHeartbeats 1000000 in
theorem Collect_ct (fs : List Fi) (mb b1 : Nat) (B : Frag) (hn : fs.length ≤ 1000000) : Ct Tryz.prog 144 [.func (.func 146) #[] #[.pointer (some ⟨b1, 0, none⟩)]] B (row b1 88 [.map (some mb)] * imap mb (fs.map fkv)) (fun v B' H' => ∃ xs A c, v = .slice A xs.length c ∧ xs.Perm (fs.map (·.m.n)) ∧ H' = (row b1 88 [.map (some mb)] * imap mb (fs.map fkv)) * sbuf 3 1 A xs.length c (ints xs)) := by
 refine Ct.of_body Tryz.func144 rfl (nt := 5) rfl (by kernel_rfl) rfl ?_
 intro N0 w0 R
 refine Cq (fun K1 k1 => ?_)
 refine Cr <| Lx.y (asg rfl) rfl <| Lx.nil <| ?_
 refine Xx.tn (k1 _ _ _ _ ?_)
 refine Cq (fun K2 k2 => ?_)
 refine Cr <| Lx.y (mv rfl) rfl <| ?_
 refine Lx.c rfl rfl rfl (AppSeq_ct fs mb b1 _ hn) (rfl) rfl ?_
 rintro v1 B1 H1 ⟨xs, A, c, rfl, hp, rfl⟩ hB1
 refine Lx.y (asg rfl) rfl <| Lx.nil <| ?_
 refine Xx.tn (k2 _ _ _ _ ?_)
 refine Cx.ret ?_
 exact Xx.ret1 rfl rfl ⟨xs, A, c, rfl, hp, rfl⟩ hB1 rfl
theorem Sort_ct (zs : List Int) (A : Option Addr) (c : Nat) (et : TypeId) (B : Frag) (hz : zs.length < 4611686018427387904) :
    Ct Tryz.prog 145 [.slice A zs.length c] B (sbuf et 1 A zs.length c (ints zs)) (fun v B' H' => B' = B ∧ v = .tuple #[] ∧ H' = sbuf et 1 A zs.length c (ints (sortI zs))) :=
  Ct.of_sort (Go.SL.enters_of Tryz.func145 rfl (by kernel_rfl)) (fun blk off cap zs w h1 h2 h3 => Shelf.slices_Sort_int blk off cap zs w h1 h2 h3) (fun p cap w => Shelf.slices_Sort_int_none p cap w) zs A c et B hz
theorem sortI_perm {xs ys : List Int} (h : xs.Perm ys) : sortI xs = sortI ys := by
  have ht : ∀ a b c : Int, decide (a ≤ b) = true → decide (b ≤ c) = true → decide (a ≤ c) = true := fun a b c h1 h2 => by
    simp only [decide_eq_true_eq] at *; omega
  have hl : ∀ a b : Int, (decide (a ≤ b) || decide (b ≤ a)) = true := fun a b => by
    rw [Bool.or_eq_true, decide_eq_true_eq, decide_eq_true_eq]; omega
  have p1 := List.pairwise_mergeSort ht hl xs
  have p2 := List.pairwise_mergeSort ht hl ys
  have hp : (sortI xs).Perm (sortI ys) := ((List.mergeSort_perm xs _).trans h).trans (List.mergeSort_perm ys _).symm
  refine List.Perm.eq_of_pairwise ?_ p1 p2 hp
  intro a b _ _ h1 h2
  simp only [decide_eq_true_eq] at h1 h2
  omega
theorem sortI_len (xs : List Int) : (sortI xs).length = xs.length := List.length_mergeSort _
set_option maxHeartbeats 1000000 in
theorem Sorted_ct (fs : List Fi) (mb b1 : Nat) (B : Frag) (hn : fs.length ≤ 1000000) : Ct Tryz.prog 114 [.func (.func 146) #[] #[.pointer (some ⟨b1, 0, none⟩)]] B (row b1 88 [.map (some mb)] * imap mb (fs.map fkv)) (fun v B' H' => ∃ A c, v = .slice A fs.length c ∧ H' = (row b1 88 [.map (some mb)] * imap mb (fs.map fkv)) * sbuf 3 1 A fs.length c (ints (sortI (fs.map (·.m.n))))) := by
 refine Ct.of_body Tryz.func114 rfl (nt := 9) rfl (by kernel_rfl) rfl ?_
 intro N0 w0 R
 refine Cq (fun K1 k1 => ?_)
 refine Cr <| Lx.y (asg rfl) rfl <| Lx.nil <| ?_
 refine Xx.tn (k1 _ _ _ _ ?_)
 refine Cq (fun K2 k2 => ?_)
 refine Cr <| Lx.y (mv rfl) rfl <| ?_
 refine Lx.c rfl rfl rfl (Collect_ct fs mb b1 _ hn) (rfl) rfl ?_
 rintro v1 B1 H1 ⟨xs, A, c, rfl, hp, rfl⟩ hB1
 have hxl : xs.length = fs.length := by rw [hp.length_eq, List.length_map]
 simp only [star_assoc]
 refine Lx.y (asg rfl) rfl <| Lx.nil <| ?_
 refine Xx.tn (k2 _ _ _ _ ?_)
 refine Cq (fun K3 k3 => ?_)
 refine Cr <| Lx.y (mv rfl) rfl <| ?_
 refine Lx.c rfl rfl rfl (Sort_ct xs A c _ _ (by omega)) (pickS _) rfl ?_
 rintro v2 B2 H2 ⟨hBB, rfl, rfl⟩ hB2
 subst hBB
 rw [sortI_perm hp, hxl]
 refine Lx.nil ?_
 refine Xx.tn (k3 _ _ _ _ ?_)
 refine Cq (fun K4 k4 => ?_)
 refine Cr <| Lx.y (mv rfl) rfl <| Lx.y (asg rfl) rfl <| Lx.nil <| ?_
 refine Xx.tn (k4 _ _ _ _ ?_)
 refine Cx.ret ?_
 exact Xx.ret1 rfl rfl ⟨A, c, rfl, rfl⟩ hB1 (by ac_rfl)
set_option maxHeartbeats 1000000 in
theorem Files_ct (d : Dk) (db : Nat) (B : Frag) (hn : d.fs.length ≤ 1000000) : Ct Tryz.prog 71 [.pointer (some ⟨db, 0, none⟩)] B (dkH db d) (fun v B' H' => ∃ A c, v = .slice A d.fs.length c ∧ H' = dkH db d * sbuf 3 1 A d.fs.length c (ints (sortI (d.fs.map (·.m.n))))) := by
 refine Ct.of_body Tryz.func71 rfl (nt := 11) rfl (by kernel_rfl) rfl ?_
 intro N0 w0 R
 unfold dkH
 simp only [star_assoc]
 refine Cq (fun K1 k1 => ?_)
 refine Cr <| Lx.y (asg rfl) rfl <| Lx.nil <| ?_
 refine Xx.tn (k1 _ _ _ _ ?_)
 refine Cq (fun K2 k2 => ?_)
 refine Cq (fun K3 k3 => ?_)
 refine Cr <| Lx.y (mv rfl) rfl <| Lx.y (Yx.ff (eqNilP U27 rfl rfl) rfl) rfl <| Lx.nil <| ?_
 refine Xx.tn (k3 _ _ _ _ ?_)
 refine Cx.condF rfl <| Cx.skip <| ?_
 refine Xx.tn (k2 _ _ _ _ ?_)
 refine Cq (fun K4 k4 => ?_)
 refine Cr <| Lx.y (mv rfl) rfl <| Lx.y (nilc rfl) rfl <| Lx.y (fa' fo90_0 rfl) rfl <| Lx.y (ld U88 rfl rfl rfl) rfl <| ?_
 refine Lx.c rfl rfl rfl (Keys_ct d.mb _) ((one_star _).symm) rfl ?_
 rintro v1 B1 H1 ⟨hBB, b1, rfl, rfl⟩ hB1
 subst hBB
 clear hB1
 refine Lx.c rfl rfl rfl (Sorted_ct d.fs d.mb b1 _ hn) ((show _ = (row b1 88 [.map (some d.mb)] * imap d.mb (d.fs.map fkv)) * (row db 90 (dcs d) * (sbuf 59 3 d.Ap d.plan.length d.cp (d.plan.flatMap scs) * (fisH d.fs * R))) by ac_rfl)) rfl ?_
 rintro v2 B2 H2 ⟨A, c, rfl, rfl⟩ hB2
 simp only [star_assoc]
 refine Lx.y (asg rfl) rfl <| Lx.nil <| ?_
 refine Xx.tn (k4 _ _ _ _ ?_)
 refine Cx.ret ?_
 refine Xx.dropB b1 ?_
 exact Xx.ret1 rfl rfl ⟨A, c, rfl, rfl⟩ hB2 (by ac_rfl)
end DkC
end Go.Proofs.YthlfffbcligocaaGreat
namespace Go.Proofs.YthlfffbcligocaaGreat
open Go.SL Go.RowKit
set_option maxRecDepth 100000
open DkA DkB DkC
namespace DkD
theorem sz3 : (Tryz.prog.info? 3).map (·.size) = some 1 := by kernel_rfl
theorem sz5 : (Tryz.prog.info? 5).map (·.size) = some 1 := by kernel_rfl
theorem sz59 : (Tryz.prog.info? 59).map (·.size) = some 3 := by kernel_rfl
theorem ti3 : TI Tryz.prog 3 [.int .i64 0] 1 8 := TI.of (by kernel_rfl) rfl rfl
theorem ti5 : TI Tryz.prog 5 [.int .u8 0] 1 1 := TI.of (by kernel_rfl) rfl rfl
theorem fo109_0 : FO Tryz.prog 109 0 0 1 false := FO.of U109 rfl rfl (by kernel_rfl) U107 rfl rfl
theorem fo109_1 : FO Tryz.prog 109 1 1 1 false := FO.of U109 rfl rfl (by kernel_rfl) U107 rfl rfl
theorem fo109_2 : FO Tryz.prog 109 2 2 1 false := FO.of U109 rfl rfl (by kernel_rfl) U26 rfl rfl
theorem nv_at {l : List Nat} {j : Nat} (h : j < l.length) : ((nv l).drop (0 + j * 1)).take 1 = [i64 ((l[j] : Nat) : Int)] := by
  rw [show 0 + j * 1 = j by omega, List.drop_eq_getElem_cons (by rw [nv_len]; exact h)]
  simp [nv]
def pad (l : List UInt8) (n : Nat) : List UInt8 := l ++ List.replicate (n - l.length) 0
def kept (mask : BitVec 64) (bit : Nat) : Bool := decide (mask >>> min bit 63 &&& 1#64 = 1#64)
def toF (now : List UInt8) (mask : BitVec 64) (bit : Nat) (torn : Int) (i : Nat) : Nat :=
  if kept mask bit = true then min (i * 64 + 64) now.length else i * 64 + min torn.toNat (min (i * 64 + 64) now.length - i * 64)
def outF (now out : List UInt8) (fr t : Nat) : List UInt8 := if fr < t then (pad out t).take fr ++ (now.drop fr).take (t - fr) ++ (pad out t).drop t else out
def lostStep (now : List UInt8) (mask : BitVec 64) (s : List UInt8 × Nat × Int) (i : Nat) : List UInt8 × Nat × Int :=
  (outF now s.1 (i * 64) (toF now mask s.2.1 s.2.2 i), s.2.1 + 1, if kept mask s.2.1 = true then s.2.2 else 0)
def lostF (now sure : List UInt8) (loose : List Nat) (mask : BitVec 64) (bit : Nat) (torn : Int) : List UInt8 × Nat × Int := loose.foldl (lostStep now mask) (sure, bit, torn)
theorem foldl_step {α β : Type} (f : β → α → β) (a : β) (l : List α) (j : Nat) (h : j < l.length) : (l.take (j + 1)).foldl f a = f ((l.take j).foldl f a) l[j] := by
  rw [List.take_succ_eq_append_getElem h, List.foldl_append]; rfl
theorem pad_len (l : List UInt8) (n : Nat) : (pad l n).length = max l.length n := by
  unfold pad; rw [List.length_append, List.length_replicate]; omega
theorem pad_le {l : List UInt8} {n : Nat} (h : n ≤ l.length) : pad l n = l := by
  unfold pad; rw [show n - l.length = 0 by omega]; simp
theorem toF_le {now : List UInt8} {mask : BitVec 64} {bit : Nat} {torn : Int} {i : Nat} (h : i < sec now.length) : toF now mask bit torn i ≤ now.length ∧ i * 64 ≤ toF now mask bit torn i := by
  unfold toF; unfold sec at h; split <;> omega
theorem outF_len {now out : List UInt8} {fr t : Nat} (h1 : out.length ≤ now.length) (h2 : t ≤ now.length) : (outF now out fr t).length ≤ now.length := by
  unfold outF
  split
  · rename_i h
    rw [List.length_append, List.length_append, List.length_take, List.length_take, List.length_drop, List.length_drop, pad_len]; omega
  · exact h1
theorem u8s_app (a b : List UInt8) : u8s (a ++ b) = u8s a ++ u8s b := by simp [u8s]
theorem u8s_take (a : List UInt8) (n : Nat) : u8s (a.take n) = (u8s a).take n := by simp [u8s, List.map_take]
theorem u8s_drop (a : List UInt8) (n : Nat) : u8s (a.drop n) = (u8s a).drop n := by simp [u8s, List.map_drop]
theorem u8s_zero (n : Nat) : u8s (List.replicate n 0) = List.replicate n (.int .u8 0) := by simp [u8s]
theorem copy_out {now out : List UInt8} {fr t k : Nat} (h1 : out.length ≤ now.length) (h2 : t ≤ now.length) (h3 : fr ≤ t) (hk : k = min fr (if fr < t then pad out t else out).length) :
    (u8s (if fr < t then pad out t else out)).take k ++ ((u8s now).drop fr).take (t - fr) ++ (u8s (if fr < t then pad out t else out)).drop (k + (t - fr)) = u8s (outF now out fr t) := by
  subst hk
  unfold outF
  by_cases h : fr < t
  · have hl := pad_len out t
    simp only [if_pos h]
    rw [show min fr (pad out t).length = fr by omega, show fr + (t - fr) = t by omega, u8s_app, u8s_app, u8s_take, u8s_take, u8s_drop, u8s_drop]
  · simp only [if_neg h]
    rw [show t - fr = 0 by omega]
    simp
theorem lostF_len (now : List UInt8) (mask : BitVec 64) : ∀ (l : List Nat) (s : List UInt8 × Nat × Int), s.1.length ≤ now.length → (∀ i ∈ l, i < sec now.length) → ((l.foldl (lostStep now mask) s).1.length ≤ now.length ∧ (l.foldl (lostStep now mask) s).2.1 = s.2.1 + l.length) := by
  intro l
  induction l with
  | nil => intro s h _; exact ⟨h, rfl⟩
  | cons i l ih =>
    intro s h hl
    have h1 := ih (lostStep now mask s i) (outF_len h (toF_le (hl i (by simp))).1) (fun k hk => hl k (by simp [hk]))
    refine ⟨h1.1, ?_⟩
    rw [List.foldl_cons, h1.2]
    show s.2.1 + 1 + l.length = s.2.1 + (l.length + 1)
    omega
set_option maxHeartbeats 4000000 in
theorem lost_ct (f : Fi) (bb tb : Nat) (mask : BitVec 64) (bit : Nat) (torn : Int) (B : Frag) (hlim : ∀ i ∈ f.m.loose, i < sec f.m.now.length) (hnow : f.m.now.length ≤ 68719476736) (hsl : f.m.sure.length ≤ f.m.now.length) (hbit : bit + f.m.loose.length ≤ 2305843009213693952) : Ct Tryz.prog 72 [.pointer (some ⟨f.b, 0, none⟩), .pointer (some ⟨bb, 0, none⟩), u64 mask, .pointer (some ⟨tb, 0, none⟩)] B (fiH f * (row bb 3 [i64 ((bit : Nat) : Int)] * row tb 3 [i64 torn])) (fun v B' H' => B' = B ∧ ∃ A c, v = .slice A (lostF f.m.now f.m.sure f.m.loose mask bit torn).1.length c ∧ H' = fiH f * (row bb 3 [i64 (((lostF f.m.now f.m.sure f.m.loose mask bit torn).2.1 : Nat) : Int)] * (row tb 3 [i64 (lostF f.m.now f.m.sure f.m.loose mask bit torn).2.2] * sbuf 5 1 A (lostF f.m.now f.m.sure f.m.loose mask bit torn).1.length c (u8s (lostF f.m.now f.m.sure f.m.loose mask bit torn).1)))) := by
 obtain ⟨⟨fn, now, sure, loose⟩, fb, An, cn, As, cs, Al, cl⟩ := f
 simp only at hlim hnow hsl hbit ⊢
 refine Ct.of_body Tryz.func72 rfl (nt := 97) rfl (by kernel_rfl) rfl ?_
 intro N0 w0 R
 unfold fiH
 simp only [star_assoc]
 refine Cq (fun K1 k1 => ?_)
 refine Cr <| Lx.y (asg rfl) rfl <| Lx.nil <| ?_
 refine Xx.tn (k1 _ _ _ _ ?_)
 refine Cq (fun K2 k2 => ?_)
 refine Cr <| Lx.y (mv rfl) rfl <| Lx.y (nilc rfl) rfl <| Lx.y (fa' fo109_1 rfl) rfl <| Lx.y (Yx.val (ld U107 rfl rfl rfl) (show _ = Value.slice As sure.length cs from rfl)) rfl <| ?_
 refine Lx.c rfl rfl rfl (ClB_ct As sure.length cs (u8s sure) _ (u8_all _) (by omega) (by omega)) (pickS _) rfl ?_
 rintro v1 B1 H1 ⟨hBB, A1, c1, rfl, rfl⟩ hB1
 subst hBB
 rename Frag => B
 clear hB1
 simp only [star_assoc]
 refine Lx.y (asg rfl) rfl <| Lx.nil <| ?_
 refine Xx.tn (k2 _ _ _ _ ?_)
 refine Cq (fun K3 k3 => ?_)
 refine Cq (fun K4 k4 => ?_)
 refine Cr <| Lx.y (mv rfl) rfl <| Lx.y (nilc rfl) rfl <| Lx.y (fa' fo109_2 rfl) rfl <| Lx.y (Yx.val (ld U26 rfl rfl rfl) (show _ = Value.slice Al loose.length cl from rfl)) rfl <| Lx.y (lenV (ty' := 0) U26 rfl) rfl <| Lx.y (mv rfl) rfl <| Lx.nil <| ?_
 refine Xx.tn (k4 _ _ _ _ ?_)
 refine Cx.block ?_
 refine Cx.loopK (Sc 0 rfl (Sc 1 rfl (Sc 2 rfl (Sc 3 rfl (Sc 8 rfl (Sc 15 rfl (Sc 16 rfl (Sc 17 rfl (Sc 18 rfl (Sc 19 rfl (Sc 20 rfl (Sc 21 rfl (Sc 22 rfl (Sc 23 rfl (Sc 24 rfl (Sub.nil _)))))))))))))))) (fun m ρ' B' H' => ∃ (j : Nat) (s : List UInt8 × Nat × Int) (A : Option Addr) (c : Nat), (j ≤ loose.length ∧ s = (loose.take j).foldl (lostStep now mask) (sure, bit, torn) ∧ s.1.length ≤ now.length ∧ s.2.1 = bit + j) ∧ m = loose.length - j ∧ ρ' = [(9, .slice A s.1.length c), (25, i64 ((j : Nat) : Int))] ∧ B = B' ∧ row fb 109 (fcs ⟨⟨fn, now, sure, loose⟩, fb, An, cn, As, cs, Al, cl⟩) * (sbuf 5 1 An now.length cn (u8s now) * (sbuf 5 1 As sure.length cs (u8s sure) * (sbuf 3 1 Al loose.length cl (nv loose) * (row bb 3 [i64 ((s.2.1 : Nat) : Int)] * (row tb 3 [i64 s.2.2] * (sbuf 5 1 A s.1.length c (u8s s.1) * R)))))) = H') ⟨0, (sure, bit, torn), _, _, ⟨Nat.zero_le _, rfl, hsl, rfl⟩, rfl, rfl, rfl, by ac_rfl⟩ (Sc 9 rfl (Sc 25 rfl (Sc 0 rfl (Sc 1 rfl (Sc 2 rfl (Sc 3 rfl (Sc 8 rfl (Sc 15 rfl (Sc 16 rfl (Sc 17 rfl (Sc 18 rfl (Sc 19 rfl (Sc 20 rfl (Sc 21 rfl (Sc 22 rfl (Sc 23 rfl (Sc 24 rfl (Sub.nil _)))))))))))))))))) ?_
 rintro m ρ' B' H' ⟨j, s, A, c, ⟨hj, hs, hsn, hsb⟩, rfl, rfl, rfl, rfl⟩
 refine Cq (fun K5 k5 => ?_)
 refine Cr <| Lx.y (lss rfl rfl) rfl <| Lx.nil <| ?_
 refine Xx.tn (k5 _ _ _ _ ?_)
 refine Cq (fun K6 k6 => ?_)
 refine Cx.condD rfl (fun h7 => ?_) (fun h7 => ?_)
 ·
  have hjl : (j : Int) < (loose.length : Int) := h7
  have hjl : j < loose.length := by omega
  refine Xx.addrT Al (by omega) (fun ba hAl hbl hbc => ?_)
  subst hAl
  have hlj := hlim _ (List.getElem_mem hjl)
  obtain ⟨ix, hix⟩ : ∃ x, x = loose[j] := ⟨_, rfl⟩
  rw [← hix] at hlj
  have htl := toF_le (mask := mask) (bit := s.2.1) (torn := s.2.2) hlj
  unfold sec at hlj
  refine Xx.addrT An (by omega) (fun bn hAn hnl hnc => ?_)
  subst hAn
  rw [Nat.mul_one] at hnl
  refine Cx.skip ?_
  refine Xx.tn (k6 _ _ _ _ ?_)
  refine Cq (fun K8 k8 => ?_)
  refine Cx.block ?_
  refine Cq (fun K9 k9 => ?_)
  refine Cr <| Lx.y (ia U26 sz3 rfl rfl (by first | exact Int.toNat_natCast _ | rfl) (by omega) (by omega)) rfl <| Lx.y (ldC U3 rfl rfl (Cells.buf (b := ba) (m := 1) (show _ = [i64 ((ix : Nat) : Int)] by rw [hix]; exact nv_at hjl) (by rw [nv_len]; omega))) rfl <| Lx.y (asg rfl) rfl <| Lx.nil <| ?_
  refine Xx.tn (k9 _ _ _ _ ?_)
  refine Cq (fun K10 k10 => ?_)
  refine Cr <| Lx.y (mv rfl) rfl <| Lx.y (Yx.val (mul rfl rfl (by first | exact wrap64 (by omega) (by omega) | rfl)) (show _ = i64 (((ix * 64) : Nat) : Int) from rfl)) rfl <| Lx.y (asg rfl) rfl <| Lx.nil <| ?_
  refine Xx.tn (k10 _ _ _ _ ?_)
  refine Cq (fun K11 k11 => ?_)
  refine Cr <| Lx.y (mv rfl) rfl <| Lx.y (Yx.val (add rfl rfl (by first | exact wrap64 (by omega) (by omega) | rfl)) (show _ = i64 (((ix * 64) + 64 : Nat) : Int) from rfl)) rfl <| Lx.y (mv rfl) rfl <| Lx.y (nilc rfl) rfl <| Lx.y (fa' fo109_0 rfl) rfl <| Lx.y (Yx.val (ld U107 rfl rfl rfl) (show _ = Value.slice (some ⟨bn, 0, none⟩) now.length cn from rfl)) rfl <| Lx.y (lenV (ty' := 0) U107 rfl) rfl <| Lx.y (minN rfl rfl) rfl <| Lx.y (asg rfl) rfl <| Lx.nil <| ?_
  refine Xx.tn (k11 _ _ _ _ ?_)
  refine Cq (fun K12 k12 => ?_)
  refine Cr <| Lx.y (mv rfl) rfl <| Lx.y (mv rfl) rfl <| Lx.y (nilc rfl) rfl <| Lx.y (ld U3 rfl rfl rfl) rfl <| Lx.y (minN (n := 63) rfl rfl) rfl <| Lx.y (shrW64 (c := min s.2.1 63) rfl rfl (by rw [Nat.ble_eq]; omega)) rfl <| Lx.y (andW64 (b := 1#64) rfl rfl) rfl <| Lx.y (eqW64 (b := 1#64) rfl rfl) rfl <| Lx.y (asg rfl) rfl <| Lx.nil <| ?_
  refine Xx.tn (k12 _ _ _ _ ?_)
  refine Cq (fun K13 k13 => ?_)
  refine Cr <| Lx.y (mv rfl) rfl <| Lx.y (nilc rfl) rfl <| Lx.y (ld U3 rfl rfl rfl) rfl <| Lx.y (Yx.val (add rfl rfl (by first | exact wrap64 (by omega) (by omega) | rfl)) (show _ = i64 ((s.2.1 + 1 : Nat) : Int) from rfl)) rfl <| Lx.y (nilc rfl) rfl <| ?_
  refine Lx.st (stO U3 sz3 rfl rfl rfl (by simp) rfl) ?_
  refine Lx.nil ?_
  refine Xx.tn (k13 _ _ _ _ ?_)
  refine Cx.cutK (ds' := []) (Sc 0 rfl (Sc 1 rfl (Sc 2 rfl (Sc 3 rfl (Sc 8 rfl (Sc 9 rfl (Sc 11 rfl (Sc 12 rfl (Sc 14 rfl (Sc 15 rfl (Sc 16 rfl (Sc 17 rfl (Sc 18 rfl (Sc 19 rfl (Sc 20 rfl (Sc 21 rfl (Sc 22 rfl (Sc 23 rfl (Sc 24 rfl (Sc 25 rfl (Sc 26 rfl (Sc 27 rfl (Sc 28 rfl (Sc 29 rfl (Sc 30 rfl (Sc 31 rfl (Sc 32 rfl (Sc 33 rfl (Sc 34 rfl (Sc 35 rfl (Sc 36 rfl (Sc 37 rfl (Sc 38 rfl (Sc 39 rfl (Sc 40 rfl (Sc 41 rfl (Sc 42 rfl (Sc 43 rfl (Sc 44 rfl (Sc 45 rfl (Sc 46 rfl (Sc 47 rfl (Sc 48 rfl (Sc 49 rfl (Sc 50 rfl (Sc 51 rfl (Sub.nil _))))))))))))))))))))))))))))))))))))))))))))))) (fun ρ' B' H' => ∃ (tr : Int), ρ' = [(13, i64 (((toF now mask s.2.1 s.2.2 ix) : Nat) : Int))] ∧ B = B' ∧ row fb 109 (fcs ⟨⟨fn, now, sure, loose⟩, fb, (some ⟨bn, 0, none⟩), cn, As, cs, (some ⟨ba, 0, none⟩), cl⟩) * (sbuf 5 1 (some ⟨bn, 0, none⟩) now.length cn (u8s now) * (sbuf 5 1 As sure.length cs (u8s sure) * (sbuf 3 1 (some ⟨ba, 0, none⟩) loose.length cl (nv loose) * (row bb 3 [i64 ((s.2.1 + 1 : Nat) : Int)] * (row tb 3 [i64 tr] * (sbuf 5 1 A s.1.length c (u8s s.1) * R)))))) = H' ∧ (lostStep now mask s ix).2.2 = tr) ?_ ?_
  ·
   refine Cq (fun K14 k14 => ?_)
   refine Cr <| Lx.y (mv rfl) rfl <| Lx.y (not' rfl) rfl <| Lx.nil <| ?_
   refine Xx.tn (k14 _ _ _ _ ?_)
   refine Cx.condN rfl (fun h15 => ?_) (fun h15 => ?_)
   ·
    have hkp := h15
    have hkp : kept mask s.2.1 = false := decide_eq_false hkp
    refine Cq (fun K16 k16 => ?_)
    refine Cr <| Lx.y (mv rfl) rfl <| Lx.y (mv rfl) rfl <| Lx.y (nilc rfl) rfl <| Lx.y (ld U3 rfl rfl rfl) rfl <| Lx.y (Yx.val (maxI (n := 0) rfl rfl) (show _ = i64 ((s.2.2.toNat : Nat) : Int) by congr 1; split <;> omega)) rfl <| Lx.y (mv rfl) rfl <| Lx.y (mv rfl) rfl <| Lx.y (Yx.val (sub rfl rfl (by first | exact wrap64 (by omega) (by omega) | rfl)) (show _ = i64 ((min ((ix * 64) + 64) now.length - (ix * 64) : Nat) : Int) by congr 1; omega)) rfl <| Lx.y (minN rfl rfl) rfl <| Lx.y (Yx.val (add rfl rfl (by first | exact wrap64 (by omega) (by omega) | rfl)) (show _ = i64 (((ix * 64) + min s.2.2.toNat (min ((ix * 64) + 64) now.length - (ix * 64)) : Nat) : Int) from rfl)) rfl <| Lx.y (asg rfl) rfl <| ?_
    refine Lx.nil ?_
    refine Xx.tn (k16 _ _ _ _ ?_)
    refine Cr <| Lx.y (mv rfl) rfl <| Lx.y (nilc rfl) rfl <| ?_
    refine Lx.st (stO U3 sz3 rfl rfl rfl (by simp) rfl) ?_
    refine Lx.nil ?_
    exact Xx.mkK (⟨0, rfl, rfl, by ac_rfl, by unfold lostStep; rw [hkp]; rfl⟩) (Sub.consE (s := 13) rfl (by unfold toF; rw [hkp]; rfl) (Sc 0 rfl (Sc 1 rfl (Sc 2 rfl (Sc 3 rfl (Sc 8 rfl (Sc 9 rfl (Sc 11 rfl (Sc 12 rfl (Sc 14 rfl (Sc 15 rfl (Sc 16 rfl (Sc 17 rfl (Sc 18 rfl (Sc 19 rfl (Sc 20 rfl (Sc 21 rfl (Sc 22 rfl (Sc 23 rfl (Sc 24 rfl (Sc 25 rfl (Sc 26 rfl (Sc 27 rfl (Sc 28 rfl (Sc 29 rfl (Sc 30 rfl (Sc 31 rfl (Sc 32 rfl (Sc 33 rfl (Sc 34 rfl (Sc 35 rfl (Sc 36 rfl (Sc 37 rfl (Sc 38 rfl (Sc 39 rfl (Sc 40 rfl (Sc 41 rfl (Sc 42 rfl (Sc 43 rfl (Sc 44 rfl (Sc 45 rfl (Sc 46 rfl (Sc 47 rfl (Sc 48 rfl (Sc 49 rfl (Sc 50 rfl (Sc 51 rfl (Sub.nil _))))))))))))))))))))))))))))))))))))))))))))))))
   ·
    have hkp := h15
    have hkp : kept mask s.2.1 = true := decide_eq_true hkp
    refine Cx.skip ?_
    exact Xx.mkK (⟨s.2.2, rfl, rfl, by ac_rfl, by unfold lostStep; rw [hkp]; rfl⟩) (Sub.consE (s := 13) rfl (by unfold toF; rw [hkp]; rfl) (Sc 0 rfl (Sc 1 rfl (Sc 2 rfl (Sc 3 rfl (Sc 8 rfl (Sc 9 rfl (Sc 11 rfl (Sc 12 rfl (Sc 14 rfl (Sc 15 rfl (Sc 16 rfl (Sc 17 rfl (Sc 18 rfl (Sc 19 rfl (Sc 20 rfl (Sc 21 rfl (Sc 22 rfl (Sc 23 rfl (Sc 24 rfl (Sc 25 rfl (Sc 26 rfl (Sc 27 rfl (Sc 28 rfl (Sc 29 rfl (Sc 30 rfl (Sc 31 rfl (Sc 32 rfl (Sc 33 rfl (Sc 34 rfl (Sc 35 rfl (Sc 36 rfl (Sc 37 rfl (Sc 38 rfl (Sc 39 rfl (Sc 40 rfl (Sc 41 rfl (Sc 42 rfl (Sc 43 rfl (Sc 44 rfl (Sc 45 rfl (Sc 46 rfl (Sc 47 rfl (Sc 48 rfl (Sc 49 rfl (Sc 50 rfl (Sc 51 rfl (Sub.nil _))))))))))))))))))))))))))))))))))))))))))))))))
  ·rintro ρ' B' H' ⟨tr, rfl, rfl, rfl, htr⟩
   refine Cx.cutK (ds' := []) (Sc 0 rfl (Sc 1 rfl (Sc 2 rfl (Sc 3 rfl (Sc 8 rfl (Sc 11 rfl (Sc 12 rfl (Sc 13 rfl (Sc 14 rfl (Sc 15 rfl (Sc 16 rfl (Sc 17 rfl (Sc 18 rfl (Sc 19 rfl (Sc 20 rfl (Sc 21 rfl (Sc 22 rfl (Sc 23 rfl (Sc 24 rfl (Sc 25 rfl (Sc 26 rfl (Sc 27 rfl (Sc 28 rfl (Sc 29 rfl (Sc 30 rfl (Sc 31 rfl (Sc 32 rfl (Sc 33 rfl (Sc 34 rfl (Sc 35 rfl (Sc 36 rfl (Sc 37 rfl (Sc 38 rfl (Sc 39 rfl (Sc 40 rfl (Sc 41 rfl (Sc 42 rfl (Sc 43 rfl (Sc 44 rfl (Sc 45 rfl (Sc 46 rfl (Sc 47 rfl (Sc 48 rfl (Sc 49 rfl (Sc 50 rfl (Sc 51 rfl (Sub.nil _))))))))))))))))))))))))))))))))))))))))))))))) (fun ρ' B' H' => ∃ (A2 : Option Addr) (c2 : Nat), ρ' = [(9, .slice A2 (if (ix * 64) < (toF now mask s.2.1 s.2.2 ix) then pad s.1 (toF now mask s.2.1 s.2.2 ix) else s.1).length c2)] ∧ B = B' ∧ row fb 109 (fcs ⟨⟨fn, now, sure, loose⟩, fb, (some ⟨bn, 0, none⟩), cn, As, cs, (some ⟨ba, 0, none⟩), cl⟩) * (sbuf 5 1 (some ⟨bn, 0, none⟩) now.length cn (u8s now) * (sbuf 5 1 As sure.length cs (u8s sure) * (sbuf 3 1 (some ⟨ba, 0, none⟩) loose.length cl (nv loose) * (row bb 3 [i64 ((s.2.1 + 1 : Nat) : Int)] * (row tb 3 [i64 tr] * (sbuf 5 1 A2 (if (ix * 64) < (toF now mask s.2.1 s.2.2 ix) then pad s.1 (toF now mask s.2.1 s.2.2 ix) else s.1).length c2 (u8s (if (ix * 64) < (toF now mask s.2.1 s.2.2 ix) then pad s.1 (toF now mask s.2.1 s.2.2 ix) else s.1)) * R)))))) = H') ?_ ?_
   ·
    refine Cq (fun K17 k17 => ?_)
    refine Cr <| Lx.y (mv rfl) rfl <| Lx.y (mv rfl) rfl <| Lx.y (lenV (ty' := 0) U107 rfl) rfl <| Lx.y (gtr rfl rfl) rfl <| Lx.y (mv rfl) rfl <| ?_
    refine Xx.ifD (t := 70) rfl (fun h18 => ?_) (fun h18 => ?_)
    ·
     have g1 := h18
     refine Lx.gT rfl rfl rfl <| Lx.y (mv rfl) rfl <| Lx.gT rfl rfl rfl <| Lx.y (mv rfl) rfl <| Lx.gT rfl rfl rfl <| Lx.y (gtr rfl rfl) rfl <| Lx.y (pickT rfl rfl) rfl <| Lx.nil <| ?_
     refine Xx.tn (k17 _ _ _ _ ?_)
     refine Cx.condD rfl (fun h19 => ?_) (fun h19 => ?_)
     ·
      have g2 := h19
      refine Cr <| Lx.y (mv rfl) rfl <| Lx.y (mv rfl) rfl <| Lx.y (mv rfl) rfl <| Lx.y (lenV (ty' := 0) U107 rfl) rfl <| Lx.y (Yx.val (sub rfl rfl (by first | exact wrap64 (by omega) (by omega) | rfl)) (show _ = i64 (((toF now mask s.2.1 s.2.2 ix) - s.1.length : Nat) : Int) by congr 1; omega)) rfl <| ?_
      refine Lx.o (amS (A := A) U107 U3 ti5 rfl rfl (by omega) rfl (by omega) (by omega)) rfl (fun v B' H' hΦ hB => ?_)
      obtain ⟨A2, c2, rfl, hc2, hBB, rfl⟩ := hΦ
      have hBB2 := hBB.symm
      subst hBB2
      clear hB
      refine Lx.y (asg rfl) rfl <| Lx.nil <| ?_
      have hfl : (ix * 64) < (toF now mask s.2.1 s.2.2 ix) := by omega
      have hpl : (pad s.1 (toF now mask s.2.1 s.2.2 ix)).length = s.1.length + ((toF now mask s.2.1 s.2.2 ix) - s.1.length) := by rw [pad_len]; omega
      exact Xx.mkK (⟨A2, c2, rfl, rfl, by rw [if_pos hfl, hpl, show u8s (pad s.1 (toF now mask s.2.1 s.2.2 ix)) = u8s s.1 ++ List.replicate ((toF now mask s.2.1 s.2.2 ix) - s.1.length) (.int .u8 0) from by unfold pad; rw [u8s_app, u8s_zero]]; simp only [star_left (sbuf 5 1 A2 _ _ _)]⟩) (Sub.consE (s := 9) rfl (by rw [if_pos hfl, hpl]) (Sc 0 rfl (Sc 1 rfl (Sc 2 rfl (Sc 3 rfl (Sc 8 rfl (Sc 11 rfl (Sc 12 rfl (Sc 13 rfl (Sc 14 rfl (Sc 15 rfl (Sc 16 rfl (Sc 17 rfl (Sc 18 rfl (Sc 19 rfl (Sc 20 rfl (Sc 21 rfl (Sc 22 rfl (Sc 23 rfl (Sc 24 rfl (Sc 25 rfl (Sc 26 rfl (Sc 27 rfl (Sc 28 rfl (Sc 29 rfl (Sc 30 rfl (Sc 31 rfl (Sc 32 rfl (Sc 33 rfl (Sc 34 rfl (Sc 35 rfl (Sc 36 rfl (Sc 37 rfl (Sc 38 rfl (Sc 39 rfl (Sc 40 rfl (Sc 41 rfl (Sc 42 rfl (Sc 43 rfl (Sc 44 rfl (Sc 45 rfl (Sc 46 rfl (Sc 47 rfl (Sc 48 rfl (Sc 49 rfl (Sc 50 rfl (Sc 51 rfl (Sub.nil _))))))))))))))))))))))))))))))))))))))))))))))))
     ·
      have g2 := h19
      refine Cx.skip ?_
      have ho2 : (if (ix * 64) < (toF now mask s.2.1 s.2.2 ix) then pad s.1 (toF now mask s.2.1 s.2.2 ix) else s.1) = s.1 := by rw [if_neg (by omega)]
      exact Xx.mkK (⟨A, c, rfl, rfl, by rw [ho2]⟩) (Sub.consE (s := 9) rfl (by rw [ho2]) (Sc 0 rfl (Sc 1 rfl (Sc 2 rfl (Sc 3 rfl (Sc 8 rfl (Sc 11 rfl (Sc 12 rfl (Sc 13 rfl (Sc 14 rfl (Sc 15 rfl (Sc 16 rfl (Sc 17 rfl (Sc 18 rfl (Sc 19 rfl (Sc 20 rfl (Sc 21 rfl (Sc 22 rfl (Sc 23 rfl (Sc 24 rfl (Sc 25 rfl (Sc 26 rfl (Sc 27 rfl (Sc 28 rfl (Sc 29 rfl (Sc 30 rfl (Sc 31 rfl (Sc 32 rfl (Sc 33 rfl (Sc 34 rfl (Sc 35 rfl (Sc 36 rfl (Sc 37 rfl (Sc 38 rfl (Sc 39 rfl (Sc 40 rfl (Sc 41 rfl (Sc 42 rfl (Sc 43 rfl (Sc 44 rfl (Sc 45 rfl (Sc 46 rfl (Sc 47 rfl (Sc 48 rfl (Sc 49 rfl (Sc 50 rfl (Sc 51 rfl (Sub.nil _))))))))))))))))))))))))))))))))))))))))))))))))
    ·
     have g1 := h18
     refine Lx.gF rfl rfl rfl rfl <| Lx.gF rfl rfl rfl rfl <| Lx.gF rfl rfl rfl rfl <| Lx.y (pickF rfl rfl) rfl <| Lx.nil <| ?_
     refine Xx.tn (k17 _ _ _ _ ?_)
     refine Cx.condF rfl <| Cx.skip <| ?_
     have ho2 : (if (ix * 64) < (toF now mask s.2.1 s.2.2 ix) then pad s.1 (toF now mask s.2.1 s.2.2 ix) else s.1) = s.1 := by
      split
      ·exact pad_le (by omega)
      ·rfl
     exact Xx.mkK (⟨A, c, rfl, rfl, by rw [ho2]⟩) (Sub.consE (s := 9) rfl (by rw [ho2]) (Sc 0 rfl (Sc 1 rfl (Sc 2 rfl (Sc 3 rfl (Sc 8 rfl (Sc 11 rfl (Sc 12 rfl (Sc 13 rfl (Sc 14 rfl (Sc 15 rfl (Sc 16 rfl (Sc 17 rfl (Sc 18 rfl (Sc 19 rfl (Sc 20 rfl (Sc 21 rfl (Sc 22 rfl (Sc 23 rfl (Sc 24 rfl (Sc 25 rfl (Sc 26 rfl (Sc 27 rfl (Sc 28 rfl (Sc 29 rfl (Sc 30 rfl (Sc 31 rfl (Sc 32 rfl (Sc 33 rfl (Sc 34 rfl (Sc 35 rfl (Sc 36 rfl (Sc 37 rfl (Sc 38 rfl (Sc 39 rfl (Sc 40 rfl (Sc 41 rfl (Sc 42 rfl (Sc 43 rfl (Sc 44 rfl (Sc 45 rfl (Sc 46 rfl (Sc 47 rfl (Sc 48 rfl (Sc 49 rfl (Sc 50 rfl (Sc 51 rfl (Sub.nil _))))))))))))))))))))))))))))))))))))))))))))))))
   ·rintro ρ' B' H' ⟨A2, c2, rfl, rfl, rfl⟩
    obtain ⟨o2, ho2⟩ : ∃ o, o = (if (ix * 64) < (toF now mask s.2.1 s.2.2 ix) then pad s.1 (toF now mask s.2.1 s.2.2 ix) else s.1) := ⟨_, rfl⟩
    have ho2l : o2.length ≤ now.length ∧ ((ix * 64) < (toF now mask s.2.1 s.2.2 ix) → (toF now mask s.2.1 s.2.2 ix) ≤ o2.length) := by
     rw [ho2]
     have := pad_len s.1 (toF now mask s.2.1 s.2.2 ix)
     split
     ·exact ⟨by omega, fun _ => by omega⟩
     ·exact ⟨hsn, fun h => absurd h (by assumption)⟩
    rw [← ho2]
    refine Xx.factT A2 (fun ho2x ho2c => ?_)
    refine Cx.drawn (by kernel_rfl) ?_
    refine Dx.p (i := 0) rfl (by kernel_rfl) (mv rfl) rfl ?_
    refine Dx.p (i := 1) rfl (by kernel_rfl) (mv rfl) rfl ?_
    refine Dx.p (i := 2) rfl (by kernel_rfl) (mv rfl) rfl ?_
    refine Dx.p (i := 3) rfl (by kernel_rfl) (lenV (ty' := 0) U107 rfl) rfl ?_
    refine Dx.p (i := 4) rfl (by kernel_rfl) (minN rfl rfl) rfl ?_
    refine Dx.p (i := 5) rfl (by kernel_rfl) (sl1V (j := min (ix * 64) o2.length) U107 sz5 rfl rfl (Int.toNat_natCast _) (by omega) (by omega)) rfl ?_
    refine Dx.p (i := 6) rfl (by kernel_rfl) (mv rfl) rfl ?_
    refine Dx.p (i := 7) rfl (by kernel_rfl) (nilc rfl) rfl ?_
    refine Dx.p (i := 8) rfl (by kernel_rfl) (fa' fo109_0 rfl) rfl ?_
    refine Dx.r (i := 9) rfl (by kernel_rfl) (Yx.val (ld U107 rfl rfl rfl) (show _ = Value.slice (some ⟨bn, 0, none⟩) now.length cn from rfl)) rfl ?_
    refine Dx.p (i := 10) rfl (by kernel_rfl) (mv rfl) rfl ?_
    refine Dx.p (i := 11) rfl (by kernel_rfl) (mv rfl) rfl ?_
    refine Dx.p (i := 12) rfl (by kernel_rfl) (sl3V (i := (ix * 64)) (j := (toF now mask s.2.1 s.2.2 ix)) U107 sz5 rfl rfl rfl (Int.toNat_natCast _) (Int.toNat_natCast _) (by omega) (by omega) (by omega)) rfl ?_
    refine Dx.one (i := 13) (by kernel_rfl) ?_
    refine Dstep.o (i := 13) rfl (cpS (A := A2) (n := o2.length) (k := min (ix * 64) o2.length) ((toF now mask s.2.1 s.2.2 ix) - (ix * 64)) (u8s (outF now s.1 (ix * 64) (toF now mask s.2.1 s.2.2 ix))) U107 sz5 rfl rfl (by omega) (by have := ho2l.2; show min _ _ = _; omega) (by rw [List.length_take, List.length_drop, u8s_len]; omega) (SrcH.buf (b := bn) (f := (ix * 64)) (m := (toF now mask s.2.1 s.2.2 ix) - (ix * 64)) (by rw [u8s_len]) (by omega) hnc) (by rw [List.all_eq_true]; intro v hv; exact List.all_eq_true.1 (u8_all now) v (List.mem_of_mem_drop (List.mem_of_mem_take hv))) (by rw [ho2]; exact copy_out hsn htl.1 htl.2 rfl)) rfl (fun v B' H' hΦ hB => ?_)
    obtain ⟨rfl, hBB, rfl⟩ := hΦ
    have hBB2 := hBB.symm
    subst hBB2
    clear hB
    refine ⟨Jy (Jt) (Yx.val (ld U107 rfl rfl rfl) (show _ = Value.slice (some ⟨bn, 0, none⟩) now.length cn from rfl)), ?_⟩
    refine Dx.done (by kernel_rfl) ?_
    refine Xx.bn ?_
    refine Xx.tn (k8 _ _ _ _ ?_)
    have hol : (outF now s.1 (ix * 64) (toF now mask s.2.1 s.2.2 ix)).length = o2.length := by
     have := congrArg List.length (copy_out (now := now) (out := s.1) hsn htl.1 htl.2 rfl)
     rw [← ho2, u8s_len] at this
     rw [← this]
     have h9 := ho2l.2
     simp only [List.length_append, List.length_take, List.length_drop, u8s_len]
     omega
    refine Cr <| Lx.y (Yx.val (add rfl rfl (by first | exact wrap64 (by omega) (by omega) | rfl)) (show _ = i64 ((j + 1 : Nat) : Int) from rfl)) rfl <| Lx.y (mv rfl) rfl <| Lx.nil <| ?_
    have e1 : (lostStep now mask s ix).1 = outF now s.1 (ix * 64) (toF now mask s.2.1 s.2.2 ix) := rfl
    have e2 : (lostStep now mask s ix).2.1 = s.2.1 + 1 := rfl
    exact Xx.againK ⟨j + 1, lostStep now mask s ix, A2, c2, ⟨by omega, by rw [foldl_step _ _ _ _ hjl, ← hs, hix], outF_len hsn htl.1, by show s.2.1 + 1 = _; omega⟩, rfl, rfl, rfl, (by rw [e1, e2, htr, hol]; simp only [star_left (sbuf 5 1 A2 _ _ _)])⟩ (by omega) (Sub.consE (s := 9) rfl (by rw [e1, hol]) (Sc 25 rfl (Sc 0 rfl (Sc 1 rfl (Sc 2 rfl (Sc 3 rfl (Sc 8 rfl (Sc 15 rfl (Sc 16 rfl (Sc 17 rfl (Sc 18 rfl (Sc 19 rfl (Sc 20 rfl (Sc 21 rfl (Sc 22 rfl (Sc 23 rfl (Sc 24 rfl (Sub.nil _))))))))))))))))))
 ·
  obtain rfl : j = loose.length := by have h9 : ¬ (j : Int) < (loose.length : Int) := h7; omega
  rw [List.take_length] at hs
  refine Cx.exit <| Xx.te <| Xx.te <| Xx.bh <| ?_
  refine Xx.tn (k3 _ _ _ _ ?_)
  refine Cq (fun K20 k20 => ?_)
  refine Cr <| Lx.y (mv rfl) rfl <| Lx.y (asg rfl) rfl <| Lx.nil <| ?_
  refine Xx.tn (k20 _ _ _ _ ?_)
  refine Cx.ret ?_
  have hs9 : s = lostF now sure loose mask bit torn := hs
  subst hs9
  exact Xx.ret1 rfl rfl ⟨rfl, A, c, rfl, rfl⟩ (Fl _) (by ac_rfl)
end DkD
end Go.Proofs.YthlfffbcligocaaGreat
namespace Go.Proofs.YthlfffbcligocaaGreat
open Go.SL Go.RowKit
set_option maxRecDepth 100000
open DkA DkB DkC DkD
namespace DkE
theorem sz3 : (Tryz.prog.info? 3).map (·.size) = some 1 := by kernel_rfl
theorem sz4 : (Tryz.prog.info? 4).map (·.size) = some 1 := by kernel_rfl
theorem sz5 : (Tryz.prog.info? 5).map (·.size) = some 1 := by kernel_rfl
theorem sz26 : (Tryz.prog.info? 26).map (·.size) = some 1 := by kernel_rfl
theorem sz59 : (Tryz.prog.info? 59).map (·.size) = some 3 := by kernel_rfl
theorem sz107 : (Tryz.prog.info? 107).map (·.size) = some 1 := by kernel_rfl
theorem ti3 : TI Tryz.prog 3 [.int .i64 0] 1 8 := TI.of (by kernel_rfl) rfl rfl
theorem ti5 : TI Tryz.prog 5 [.int .u8 0] 1 1 := TI.of (by kernel_rfl) rfl rfl
theorem fo90_0 : FO Tryz.prog 90 0 0 1 false := FO.of U90 rfl rfl (by kernel_rfl) U88 rfl rfl
theorem fo90_2 : FO Tryz.prog 90 2 2 1 false := FO.of U90 rfl rfl (by kernel_rfl) U4 rfl rfl
theorem fo109_0 : FO Tryz.prog 109 0 0 1 false := FO.of U109 rfl rfl (by kernel_rfl) U107 rfl rfl
theorem fo109_1 : FO Tryz.prog 109 1 1 1 false := FO.of U109 rfl rfl (by kernel_rfl) U107 rfl rfl
theorem fo109_2 : FO Tryz.prog 109 2 2 1 false := FO.of U109 rfl rfl (by kernel_rfl) U26 rfl rfl
def crashStep (mask : BitVec 64) (s : List Fm × Nat × Int) (k : Int) : List Fm × Nat × Int := match findM k s.1 with
  | none => s
  | some f => (setM ⟨f.n, (lostF f.now f.sure f.loose mask s.2.1 s.2.2).1, (lostF f.now f.sure f.loose mask s.2.1 s.2.2).1, []⟩ s.1, (lostF f.now f.sure f.loose mask s.2.1 s.2.2).2)
def crashFs (mask : BitVec 64) (torn : Int) (fs : List Fm) : List Fm := ((sortI (fs.map (·.n))).foldl (crashStep mask) (fs, 0, torn)).1
def crashD (D : Dm) (mask : BitVec 64) (torn : Int) : Dm := if D.dead = true then D else { D with fs := crashFs mask torn D.fs, dead := true }
theorem findF_some {k : Int} {fs : List Fi} (h : k ∈ fs.map (·.m.n)) : ∃ f, findF k fs = some f := by
  induction fs with
  | nil => cases h
  | cons g fs ih =>
    simp only [findF]
    split
    · exact ⟨g, rfl⟩
    · rename_i e
      rw [List.map_cons] at h
      rcases List.mem_cons.1 h with h | h
      · exact absurd h e
      · exact ih h
theorem setM_ok {fs : List Fm} {f' : Fm} (h : ∀ f ∈ fs, f.Ok) (h' : f'.Ok) : ∀ f ∈ setM f' fs, f.Ok := by
  induction fs with
  | nil => intro f hf; rw [List.mem_singleton.1 hf]; exact h'
  | cons g fs ih =>
    intro f hf
    simp only [setM] at hf
    split at hf
    · rcases List.mem_cons.1 hf with rfl | hf
      · exact h'
      · exact h f (by simp [hf])
    · rcases List.mem_cons.1 hf with rfl | hf
      · exact h f (by simp)
      · exact ih (fun f hf => h f (by simp [hf])) f hf
theorem ints_at {l : List Int} {j : Nat} (h : j < l.length) : ((ints l).drop (0 + j * 1)).take 1 = [i64 l[j]] := by
  rw [show 0 + j * 1 = j by omega, List.drop_eq_getElem_cons (by rw [intsN]; exact h)]
  simp [ints]
theorem keys_kv {fs gs : List Fi} (h : fs.map fkv = gs.map fkv) : fs.map (·.m.n) = gs.map (·.m.n) := by
  have := congrArg (List.map Prod.fst) h
  rw [List.map_map, List.map_map] at this
  exact this
set_option maxHeartbeats 4000000 in
theorem Crash_ct (d : Dk) (db : Nat) (mask : BitVec 64) (torn : Int) (B : Frag) (hF : d.abs.Fit) : Ct Tryz.prog 29 [.pointer (some ⟨db, 0, none⟩), u64 mask, i64 torn] B (dkH db d) (fun v B' H' => v = .tuple #[] ∧ ∃ d' : Dk, d'.abs = crashD d.abs mask torn ∧ H' = dkH db d') := by
 have hfl : d.fs.length ≤ 1000000 := by have := hF.len; unfold Dk.abs at this; simpa using this
 have hok0 : ∀ f ∈ d.fs, f.m.Ok := fun f hf => hF.ok (List.mem_map.2 ⟨f, hf, rfl⟩)
 refine Ct.of_body Tryz.func29 rfl (nt := 52) rfl (by kernel_rfl) rfl ?_
 intro N0 w0 R
 unfold dkH
 simp only [star_assoc]
 refine Cq (fun K1 k1 => ?_)
 refine Cr ?_
 refine Lx.new (boxO rfl rfl) rfl (fun tb => ?_)
 refine Lx.nil ?_
 refine Xx.tn (k1 _ _ _ _ ?_)
 refine Cq (fun K2 k2 => ?_)
 refine Cq (fun K3 k3 => ?_)
 refine Cr <| Lx.y (mv rfl) rfl <| Lx.y (Yx.ff (eqNilP U27 rfl rfl) rfl) rfl <| Lx.y (mv rfl) rfl <| Lx.gT rfl rfl rfl <| Lx.y (mv rfl) rfl <| Lx.gT rfl rfl rfl <| Lx.y (nilc rfl) rfl <| Lx.gT rfl rfl rfl <| Lx.y (fa' fo90_2 rfl) rfl <| Lx.gT rfl rfl rfl <| Lx.y (ld U4 rfl rfl rfl) rfl <| ?_
 refine Lx.y (pickF rfl rfl) rfl <| Lx.nil <| ?_
 refine Xx.tn (k3 _ _ _ _ ?_)
 refine Cx.condB rfl (fun h4 => ?_) (fun h4 => ?_)
 ·
  have hd := h4
  refine Cx.ret <| Xx.tr <| ?_
  refine Xx.dropB tb ?_
  exact Xx.ret0 rfl ⟨rfl, d, by unfold crashD; rw [if_pos (show d.abs.dead = true from hd)], rfl⟩ (Fl _) (by ac_rfl)
 ·
  have hd := h4
  refine Cx.skip ?_
  refine Xx.tn (k2 _ _ _ _ ?_)
  refine Cq (fun K5 k5 => ?_)
  refine Cr ?_
  refine Lx.new (allocO ti3) rfl (fun bb => ?_)
  refine Lx.st (stO U3 sz3 rfl rfl rfl (by simp) rfl) ?_
  refine Lx.nil ?_
  refine Xx.tn (k5 _ _ _ _ ?_)
  refine Cq (fun K6 k6 => ?_)
  refine Cq (fun K7 k7 => ?_)
  refine Cr <| Lx.y (mv rfl) rfl <| ?_
  refine Lx.c rfl rfl rfl (Files_ct d db _ hfl) ((show _ = dkH db d * (row bb 3 [i64 0] * (row tb 3 [i64 torn] * R)) by unfold dkH; ac_rfl)) rfl ?_
  rintro v1 B1 H1 ⟨Ak, ck, rfl, rfl⟩ hB1
  unfold dkH
  simp only [star_assoc]
  refine Lx.y (lenV (ty' := 0) U26 rfl) rfl <| Lx.y (mv rfl) rfl <| Lx.nil <| ?_
  refine Xx.tn (k7 _ _ _ _ ?_)
  refine Cx.block ?_
  refine Cx.loopK (Sc 0 rfl (Sc 1 rfl (Sc 2 rfl (Sc 5 rfl (Sc 6 rfl (Sc 10 rfl (Sc 11 rfl (Sc 12 rfl (Sc 13 rfl (Sc 14 rfl (Sc 15 rfl (Sc 16 rfl (Sc 17 rfl (Sc 18 rfl (Sc 19 rfl (Sc 20 rfl (Sub.nil _))))))))))))))))) (fun m ρ' B' H' => ∃ (j : Nat) (s : List Fm × Nat × Int) (fs : List Fi), (j ≤ d.fs.length ∧ s = ((sortI (d.fs.map (·.m.n))).take j).foldl (crashStep mask) (d.abs.fs, 0, torn) ∧ fs.map (·.m) = s.1 ∧ fs.map fkv = d.fs.map fkv ∧ (∀ f ∈ s.1, f.Ok) ∧ s.2.1 ≤ j * 1073741825) ∧ m = d.fs.length - j ∧ ρ' = [(21, i64 ((j : Nat) : Int))] ∧ B1 = B' ∧ row tb 3 [i64 s.2.2] * (row bb 3 [i64 ((s.2.1 : Nat) : Int)] * (sbuf 3 1 Ak d.fs.length ck (ints (sortI (d.fs.map (·.m.n)))) * (row db 90 (dcs d) * (imap d.mb (d.fs.map fkv) * (sbuf 59 3 d.Ap d.plan.length d.cp (d.plan.flatMap scs) * (fisH fs * R)))))) = H') ⟨0, (d.abs.fs, 0, torn), d.fs, ⟨Nat.zero_le _, rfl, rfl, rfl, fun f hf => by obtain ⟨g, hg, rfl⟩ := List.mem_map.1 hf; exact hok0 g hg, Nat.zero_le _⟩, rfl, rfl, rfl, by ac_rfl⟩ (Sc 21 rfl (Sc 0 rfl (Sc 1 rfl (Sc 2 rfl (Sc 5 rfl (Sc 6 rfl (Sc 10 rfl (Sc 11 rfl (Sc 12 rfl (Sc 13 rfl (Sc 14 rfl (Sc 15 rfl (Sc 16 rfl (Sc 17 rfl (Sc 18 rfl (Sc 19 rfl (Sc 20 rfl (Sub.nil _)))))))))))))))))) ?_
  rintro m ρ' B' H' ⟨j, s, fs, ⟨hj, hs, hfs, hkv, hok, hsb⟩, rfl, rfl, rfl, rfl⟩
  refine Cq (fun K8 k8 => ?_)
  refine Cr <| Lx.y (lss rfl rfl) rfl <| Lx.nil <| ?_
  refine Xx.tn (k8 _ _ _ _ ?_)
  refine Cq (fun K9 k9 => ?_)
  refine Cx.condD rfl (fun h10 => ?_) (fun h10 => ?_)
  ·
   have hjl : (j : Int) < (d.fs.length : Int) := h10
   have hjl : j < d.fs.length := by omega
   have hjk : j < (sortI (d.fs.map (·.m.n))).length := by rw [sortI_len, List.length_map]; exact hjl
   refine Xx.addrT Ak (by omega) (fun ba hAk hkl hkc => ?_)
   subst hAk
   obtain ⟨f, hff⟩ : ∃ f, findF (sortI (d.fs.map (·.m.n)))[j] fs = some f := findF_some (by rw [keys_kv hkv]; exact (List.mergeSort_perm _ _).mem_iff.1 (List.getElem_mem hjk))
   obtain ⟨Rf, hRf, hsets, _⟩ := fisH_find hff
   obtain ⟨hfm, hfn⟩ := findF_mem hff
   have hfo : f.m.Ok := hok _ (by rw [← hfs]; exact List.mem_map.2 ⟨f, hfm, rfl⟩)
   rw [hRf]
   obtain ⟨⟨fn, now, sure, loose⟩, fb, An, cn, As, cs, Al, cl⟩ := f
   obtain ⟨kk, hkk⟩ : ∃ k, k = (sortI (d.fs.map (·.m.n)))[j] := ⟨_, rfl⟩
   refine Cx.skip ?_
   refine Xx.tn (k9 _ _ _ _ ?_)
   refine Cq (fun K11 k11 => ?_)
   refine Cx.block ?_
   refine Cq (fun K12 k12 => ?_)
   refine Cr <| Lx.y (ia U26 sz3 rfl rfl (by first | exact Int.toNat_natCast _ | rfl) (by omega) (by omega)) rfl <| Lx.y (ldC U3 rfl rfl (Cells.buf (b := ba) (m := 1) (show _ = [i64 kk] by rw [hkk]; exact ints_at hjk) (by rw [intsN]; omega))) rfl <| Lx.y (asg rfl) rfl <| Lx.nil <| ?_
   refine Xx.tn (k12 _ _ _ _ ?_)
   refine Cq (fun K13 k13 => ?_)
   refine Cr <| Lx.y (mv rfl) rfl <| Lx.y (nilc rfl) rfl <| Lx.y (fa' fo90_0 rfl) rfl <| Lx.y (ld U88 rfl rfl rfl) rfl <| Lx.y (mv rfl) rfl <| Lx.y (lkM U88 U3 Tryz.zeroValue106 rfl rfl (v := .pointer (some ⟨fb, 0, none⟩)) (by rw [← hkv, mget_find, hkk, hff]; rfl)) rfl <| Lx.y (asg rfl) rfl <| Lx.nil <| ?_
   refine Xx.tn (k13 _ _ _ _ ?_)
   refine Cq (fun K14 k14 => ?_)
   refine Cr <| Lx.y (mv rfl) rfl <| Lx.y (mv rfl) rfl <| Lx.y (mv rfl) rfl <| ?_
   refine Lx.c rfl rfl rfl (lost_ct ⟨⟨fn, now, sure, loose⟩, fb, An, cn, As, cs, Al, cl⟩ bb tb mask s.2.1 s.2.2 _ hfo.2.1 hfo.2.2.1 hfo.2.2.2 (by have := hfo.loose; simp only at this ⊢; omega)) ((show _ = (fiH ⟨⟨fn, now, sure, loose⟩, fb, An, cn, As, cs, Al, cl⟩ * (row bb 3 [i64 ((s.2.1 : Nat) : Int)] * row tb 3 [i64 s.2.2])) * (sbuf 3 1 (some ⟨ba, 0, none⟩) d.fs.length ck (ints (sortI (d.fs.map (·.m.n)))) * (row db 90 (dcs d) * (imap d.mb (d.fs.map fkv) * (sbuf 59 3 d.Ap d.plan.length d.cp (d.plan.flatMap scs) * (Rf * R))))) by ac_rfl)) rfl ?_
   rintro v2 B2 H2 ⟨hBB, A, c, rfl, rfl⟩ hB2
   subst hBB
   rename Frag => B2
   clear hB2
   unfold fiH
   simp only [star_assoc]
   refine Lx.y (nilc rfl) rfl <| Lx.y (fa' fo109_0 rfl) rfl <| ?_
   refine Lx.st (stO U107 sz107 rfl rfl rfl (by show 0 < 3; omega) rfl) ?_
   refine Lx.nil ?_
   refine Xx.tn (k14 _ _ _ _ ?_)
   refine Cr <| Lx.y (mv rfl) rfl <| Lx.y (mv rfl) rfl <| Lx.y (mv rfl) rfl <| Lx.y (nilc rfl) rfl <| Lx.y (fa' fo109_0 rfl) rfl <| Lx.y (ld U107 rfl rfl rfl) rfl <| ?_
   refine Lx.c rfl rfl rfl (ClB_ct A (lostF now sure loose mask s.2.1 s.2.2).1.length c (u8s (lostF now sure loose mask s.2.1 s.2.2).1) _ (u8_all _) (by have h9 := (lostF_len now mask loose (sure, s.2.1, s.2.2) hfo.2.2.2 hfo.2.1).1; have h8 := hfo.2.2.1; simp only at h8 h9 ⊢; unfold lostF; omega) (by have h9 := (lostF_len now mask loose (sure, s.2.1, s.2.2) hfo.2.2.2 hfo.2.1).1; have h8 := hfo.2.2.1; simp only at h8 h9 ⊢; unfold lostF; omega)) (pickS _) rfl ?_
   rintro v3 B3 H3 ⟨hBB, A9, c9, rfl, rfl⟩ hB3
   subst hBB
   rename Frag => B3
   clear hB3
   simp only [star_assoc]
   refine Lx.y (nilc rfl) rfl <| Lx.y (fa' fo109_1 rfl) rfl <| ?_
   refine Lx.st (stO U107 sz107 rfl rfl rfl (by show 1 < 3; omega) rfl) ?_
   refine Lx.y (nilc rfl) rfl <| Lx.y (fa' fo109_2 rfl) rfl <| ?_
   refine Lx.st (stO U26 sz26 rfl rfl rfl (by show 2 < 3; omega) rfl) ?_
   refine Lx.nil <| Xx.bn <| ?_
   refine Xx.tn (k11 _ _ _ _ ?_)
   refine Cr <| Lx.y (Yx.val (add rfl rfl (by first | exact wrap64 (by omega) (by omega) | rfl)) (show _ = i64 ((j + 1 : Nat) : Int) from rfl)) rfl <| Lx.y (mv rfl) rfl <| Lx.nil <| ?_
   have hst : crashStep mask s (sortI (d.fs.map (·.m.n)))[j] = (setM ⟨fn, (lostF now sure loose mask s.2.1 s.2.2).1, (lostF now sure loose mask s.2.1 s.2.2).1, []⟩ s.1, (lostF now sure loose mask s.2.1 s.2.2).2) := by
    unfold crashStep
    have hfm := findF_m (sortI (d.fs.map (·.m.n)))[j] fs
    rw [hff, hfs] at hfm
    rw [← hfm]; rfl
   have hll := lostF_len now mask loose (sure, s.2.1, s.2.2) hfo.2.2.2 hfo.2.1
   have hbl : (lostF now sure loose mask s.2.1 s.2.2).2.1 = s.2.1 + loose.length := hll.2
   have hol : (lostF now sure loose mask s.2.1 s.2.2).1.length ≤ now.length := hll.1
   have hset := hsets ⟨⟨fn, (lostF now sure loose mask s.2.1 s.2.2).1, (lostF now sure loose mask s.2.1 s.2.2).1, []⟩, fb, A, c, A9, c9, none, 0⟩ hfn
   refine Xx.perm (Xx.drop (p := (sbuf 5 1 An now.length cn (u8s now) * (sbuf 5 1 As sure.length cs (u8s sure) * sbuf 3 1 Al loose.length cl (nv loose)))) (H := row tb 3 [i64 (lostF now sure loose mask s.2.1 s.2.2).2.2] * (row bb 3 [i64 (((lostF now sure loose mask s.2.1 s.2.2).2.1 : Nat) : Int)] * (sbuf 3 1 (some ⟨ba, 0, none⟩) d.fs.length ck (ints (sortI (d.fs.map (·.m.n)))) * (row db 90 (dcs d) * (imap d.mb (d.fs.map fkv) * (sbuf 59 3 d.Ap d.plan.length d.cp (d.plan.flatMap scs) * (fisH (setF ⟨⟨fn, (lostF now sure loose mask s.2.1 s.2.2).1, (lostF now sure loose mask s.2.1 s.2.2).1, []⟩, fb, A, c, A9, c9, none, 0⟩ fs) * R))))))) ?_) (by rw [hset]; unfold fiH; rw [show (nv [] : List Value) = [] from rfl, List.length_nil, sbuf_nil, star_one]; ac_rfl)
   exact Xx.againK ⟨j + 1, crashStep mask s (sortI (d.fs.map (·.m.n)))[j], setF ⟨⟨fn, (lostF now sure loose mask s.2.1 s.2.2).1, (lostF now sure loose mask s.2.1 s.2.2).1, []⟩, fb, A, c, A9, c9, none, 0⟩ fs, ⟨by omega, by rw [foldl_step _ _ _ _ hjk, ← hs], by rw [setF_m, hfs, hst], by rw [setF_same (f' := ⟨⟨fn, (lostF now sure loose mask s.2.1 s.2.2).1, (lostF now sure loose mask s.2.1 s.2.2).1, []⟩, fb, A, c, A9, c9, none, 0⟩) hff hfn rfl, hkv], by rw [hst]; exact setM_ok hok ⟨List.Pairwise.nil, fun i hi => (by cases hi), (by show (lostF now sure loose mask s.2.1 s.2.2).1.length ≤ _; have := hfo.2.2.1; simp only at this; omega), Nat.le_refl _⟩, by rw [hst]; show (lostF now sure loose mask s.2.1 s.2.2).2.1 ≤ _; have := hfo.loose; rw [hbl]; simp only at this; omega⟩, rfl, rfl, rfl, (by rw [hst])⟩ (by omega) (Sc 21 rfl (Sc 0 rfl (Sc 1 rfl (Sc 2 rfl (Sc 5 rfl (Sc 6 rfl (Sc 10 rfl (Sc 11 rfl (Sc 12 rfl (Sc 13 rfl (Sc 14 rfl (Sc 15 rfl (Sc 16 rfl (Sc 17 rfl (Sc 18 rfl (Sc 19 rfl (Sc 20 rfl (Sub.nil _))))))))))))))))))
  ·
   obtain rfl : j = d.fs.length := by have h9 : ¬ (j : Int) < (d.fs.length : Int) := h10; omega
   rw [List.take_of_length_le (by rw [sortI_len, List.length_map]; exact Nat.le_refl _)] at hs
   refine Cx.exit <| Xx.te <| Xx.te <| Xx.bh <| ?_
   refine Xx.tn (k6 _ _ _ _ ?_)
   refine Cr <| Lx.y (mv rfl) rfl <| Lx.y (nilc rfl) rfl <| Lx.y (fa' fo90_2 rfl) rfl <| ?_
   refine Lx.st (stO U4 sz4 rfl rfl rfl (by show 2 < 5; omega) rfl) ?_
   refine Lx.nil ?_
   refine Xx.perm (Xx.drop (p := row tb 3 [i64 s.2.2] * (row bb 3 [i64 ((s.2.1 : Nat) : Int)] * sbuf 3 1 Ak d.fs.length ck (ints (sortI (d.fs.map (·.m.n)))))) (H := dkH db {d with fs := fs, dead := true} * R) ?_) (by unfold dkH dcs; simp only [hkv]; ac_rfl)
   have hab : (Dk.abs {d with fs := fs, dead := true}) = crashD d.abs mask torn := by
    unfold crashD
    rw [if_neg (fun h => by rw [show d.abs.dead = d.dead from rfl, hd] at h; cases h)]
    show Dm.mk (fs.map (·.m)) d.room true d.plan d.ch = Dm.mk (crashFs mask torn d.abs.fs) d.room true d.plan d.ch
    congr 1
    rw [hfs, hs]
    unfold crashFs
    rw [show d.abs.fs.map (fun f : Fm => f.n) = d.fs.map (fun f : Fi => f.m.n) from by unfold Dk.abs; rw [List.map_map]; rfl]
   exact Xx.end0 rfl ⟨rfl, {d with fs := fs, dead := true}, hab, rfl⟩ hB1 rfl
end DkE
end Go.Proofs.YthlfffbcligocaaGreat
namespace Go.Proofs.YthlfffbcligocaaGreat
open Go.SL Go.RowKit
set_option maxRecDepth 100000
open DkA DkB DkC DkD DkE
namespace DkF
theorem sz3 : (Tryz.prog.info? 3).map (·.size) = some 1 := by kernel_rfl
theorem sz5 : (Tryz.prog.info? 5).map (·.size) = some 1 := by kernel_rfl
theorem sz59 : (Tryz.prog.info? 59).map (·.size) = some 3 := by kernel_rfl
theorem sz85 : (Tryz.prog.info? 85).map (·.size) = some 1 := by kernel_rfl
theorem ti3 : TI Tryz.prog 3 [.int .i64 0] 1 8 := TI.of (by kernel_rfl) rfl rfl
theorem ti5 : TI Tryz.prog 5 [.int .u8 0] 1 1 := TI.of (by kernel_rfl) rfl rfl
theorem ti59 : TI Tryz.prog 59 [.int .i64 0, .int .u64 0, .int .i64 0] 3 24 := TI.of (by kernel_rfl) rfl rfl
theorem fo59_0 : FO Tryz.prog 59 0 0 1 false := FO.of U59 rfl rfl (by kernel_rfl) U3 rfl rfl
theorem fo59_1 : FO Tryz.prog 59 1 1 1 false := FO.of U59 rfl rfl (by kernel_rfl) U22 rfl rfl
theorem fo59_2 : FO Tryz.prog 59 2 2 1 false := FO.of U59 rfl rfl (by kernel_rfl) U3 rfl rfl
theorem fo90_2 : FO Tryz.prog 90 2 2 1 false := FO.of U90 rfl rfl (by kernel_rfl) U4 rfl rfl
theorem fo90_3 : FO Tryz.prog 90 3 3 1 false := FO.of U90 rfl rfl (by kernel_rfl) U85 rfl rfl
theorem fo90_4 : FO Tryz.prog 90 4 4 1 false := FO.of U90 rfl rfl (by kernel_rfl) U3 rfl rfl
theorem flatG_at {α : Type} {enc : α → List Value} {size : Nat} (he : ∀ x, (enc x).length = size) : ∀ (k : Nat) (l : List α) (h : k < l.length), ((l.flatMap enc).drop (k * size)).take size = enc l[k] := by
  intro k
  induction k with
  | zero =>
    intro l h
    cases l with
    | nil => simp at h
    | cons x l =>
      rw [Nat.zero_mul, List.drop_zero, List.flatMap_cons, List.take_append_of_le_length (by rw [he]; exact Nat.le_refl _), List.take_of_length_le (by rw [he]; exact Nat.le_refl _)]; rfl
  | succ k ih =>
    intro l h
    cases l with
    | nil => simp at h
    | cons x l =>
      have h' : k < l.length := by simpa using h
      rw [List.flatMap_cons, List.drop_append, he, List.drop_of_length_le (by rw [he, Nat.succ_mul]; omega), List.nil_append, show (k + 1) * size - size = k * size by rw [Nat.succ_mul]; omega]
      exact ih l h'
theorem flatG_len {α : Type} {enc : α → List Value} {size : Nat} (he : ∀ x, (enc x).length = size) (l : List α) : (l.flatMap enc).length = l.length * size := by
  induction l with
  | nil => simp
  | cons x l ih => rw [List.flatMap_cons, List.length_append, ih, he, List.length_cons, Nat.succ_mul]; omega
theorem flat_at {α : Type} {enc : α → List Value} {size : Nat} {B : Frag} {A : Option Addr} {l : List α} {k : Nat} (he : ∀ x, (enc x).length = size) (h : RoS B size A l.length (l.flatMap enc)) (hk : k < l.length) :
    ∃ b o cs et fz, A = some ⟨b, o, none⟩ ∧ B b = some (.cells (List.toArray cs) et fz) ∧ (cs.drop (o + k * size)).take size = enc l[k] := by
  obtain ⟨b, o, cs, et, fz, h1, h2, h3⟩ := h.at (k := k) hk
  exact ⟨b, o, cs, et, fz, h1, h2, by rw [h3, flatG_at he]⟩
def ixF {α : Type} (p : α → Bool) (l : List α) : Int := if l.any p = true then ((l.findIdx p : Nat) : Int) else -1
theorem ixF_at {α : Type} {p : α → Bool} {l : List α} {i : Nat} (h : i < l.length) (hp : p l[i] = true) (hall : ∀ k (hk : k < i), p (l[k]'(by omega)) = false) : ixF p l = i := by
  unfold ixF
  rw [if_pos (List.any_eq_true.2 ⟨l[i], List.getElem_mem h, hp⟩)]
  congr 1
  exact (List.findIdx_eq h).2 ⟨hp, hall⟩
theorem ixF_no {α : Type} {p : α → Bool} {l : List α} (hall : ∀ k (hk : k < l.length), p l[k] = false) : ixF p l = -1 := by
  unfold ixF
  rw [if_neg]
  intro h
  obtain ⟨x, hx, hp⟩ := List.any_eq_true.1 h
  obtain ⟨k, hk, rfl⟩ := List.getElem_of_mem hx
  rw [hall k hk] at hp; cases hp
set_option maxHeartbeats 1000000 in
theorem IFs_ct (l : List Sk) (p : Sk → Bool) (A : Option Addr) (c : Nat) (fi : FuncId) (caps : List Value) (own : HP) (B : Frag) (hR : RoS B 3 A l.length (l.flatMap scs)) (hn : l.length ≤ 1000000) (hf : ∀ x ∈ l, CtC Tryz.prog fi (.agg (scs x).toArray :: caps) B own (.bool (p x)) own) : CtC Tryz.prog 98 [.slice A l.length c, .func (.func fi) #[] caps.toArray] B own (i64 (ixF p l)) own := by
 refine Ct.of_body Tryz.func98 rfl (nt := 19) rfl (by kernel_rfl) rfl ?_
 intro N0 w0 R
 refine Cq (fun K1 k1 => ?_)
 refine Cr <| Lx.y (asg rfl) rfl <| Lx.nil <| ?_
 refine Xx.tn (k1 _ _ _ _ ?_)
 refine Cq (fun K2 k2 => ?_)
 refine Cq (fun K3 k3 => ?_)
 refine Cr <| Lx.y (mv rfl) rfl <| Lx.y (lenV (ty' := 0) U85 rfl) rfl <| Lx.y (mv rfl) rfl <| Lx.nil <| ?_
 refine Xx.tn (k3 _ _ _ _ ?_)
 refine Cx.block ?_
 refine Cx.loopK (Sc 0 rfl (Sc 1 rfl (Sc 6 rfl (Sc 7 rfl (Sub.nil _))))) (fun m ρ' B' H' => ∃ (i : Nat), (i ≤ l.length ∧ ∀ k (hk : k < l.length), k < i → p l[k] = false) ∧ m = l.length - i ∧ ρ' = [(8, i64 i)] ∧ B = B' ∧ own * R = H') ⟨0, ⟨Nat.zero_le _, fun k _ h => absurd h (by omega)⟩, rfl, rfl, rfl, rfl⟩ (Sc 8 rfl (Sc 0 rfl (Sc 1 rfl (Sc 6 rfl (Sc 7 rfl (Sub.nil _)))))) ?_
 rintro m ρ' B' H' ⟨i, ⟨hi, hall⟩, rfl, rfl, rfl, rfl⟩
 refine Cq (fun K4 k4 => ?_)
 refine Cr <| Lx.y (lss rfl rfl) rfl <| Lx.nil <| ?_
 refine Xx.tn (k4 _ _ _ _ ?_)
 refine Cq (fun K5 k5 => ?_)
 refine Cx.condD rfl (fun h6 => ?_) (fun h6 => ?_)
 ·
  have hlt := h6
  have hlt : i < l.length := by omega
  obtain ⟨b0, o0, cs0, et0, fz0, rfl, hB0, hc0⟩ := flat_at (fun x => (show (scs x).length = 3 from rfl)) hR hlt
  refine Cx.skip ?_
  refine Xx.tn (k5 _ _ _ _ ?_)
  refine Cq (fun K7 k7 => ?_)
  refine Cx.block ?_
  refine Cq (fun K8 k8 => ?_)
  refine Cr <| Lx.y (mv rfl) rfl <| Lx.y (asg rfl) rfl <| Lx.nil <| ?_
  refine Xx.tn (k8 _ _ _ _ ?_)
  refine Cq (fun K9 k9 => ?_)
  refine Cr <| Lx.y (mv rfl) rfl <| Lx.y (mv rfl) rfl <| Lx.y (mv rfl) rfl <| Lx.y (ia U85 sz59 rfl rfl (by first | exact Int.toNat_natCast _ | rfl) (by omega) (by omega)) rfl <| Lx.y (ldA U59 rfl sz59 rfl (Cells.base (n := 3) hB0 hc0) rfl) rfl <| ?_
  refine Lx.co rfl rfl rfl (hf _ (List.getElem_mem hlt)) (rfl) rfl ?_
  refine Lx.nil ?_
  refine Xx.tn (k9 _ _ _ _ ?_)
  refine Cx.condB rfl (fun h10 => ?_) (fun h10 => ?_)
  ·
   have hp := h10
   refine Cq (fun K11 k11 => ?_)
   refine Cr <| Lx.y (mv rfl) rfl <| Lx.y (asg rfl) rfl <| Lx.nil <| ?_
   refine Xx.tn (k11 _ _ _ _ ?_)
   refine Cx.ret ?_
   refine Xx.br ?_
   refine Xx.tr <| Xx.tr <| ?_
   refine Xx.br ?_
   refine Xx.tr ?_
   exact Xx.ret1 rfl rfl ⟨by rw [ixF_at hlt hp (fun k hk => hall k (by omega) hk)], rfl, rfl⟩ (Fl _) rfl
  ·
   have hp := h10
   refine Cx.skip <| Xx.bn <| ?_
   refine Xx.tn (k7 _ _ _ _ ?_)
   refine Cr <| Lx.y (Yx.val (add rfl rfl (by first | exact wrap64 (by omega) (by omega) | rfl)) (show _ = i64 ((i + 1 : Nat) : Int) from rfl)) rfl <| Lx.y (mv rfl) rfl <| Lx.nil <| ?_
   exact Xx.againK ⟨i + 1, ⟨by omega, fun k hk hki => by
 by_cases e : k = i
 ·subst e; exact hp
 ·exact hall k hk (by omega)⟩, rfl, rfl, rfl, rfl⟩ (by omega) (Sc 8 rfl (Sc 0 rfl (Sc 1 rfl (Sc 6 rfl (Sc 7 rfl (Sub.nil _))))))
 ·
  have hge := h6
  refine Cx.exit <| Xx.te <| Xx.te <| Xx.bh <| ?_
  refine Xx.tn (k2 _ _ _ _ ?_)
  refine Cq (fun K12 k12 => ?_)
  refine Cr <| Lx.y (asg rfl) rfl <| Lx.nil <| ?_
  refine Xx.tn (k12 _ _ _ _ ?_)
  refine Cx.ret ?_
  exact Xx.ret1 rfl rfl ⟨by rw [ixF_no (fun k hk => hall k hk (by omega))], rfl, rfl⟩ (Fl _) rfl
theorem IFs_own (l : List Sk) (p : Sk → Bool) (A : Option Addr) (c : Nat) (fi : FuncId) (caps : List Value) (own : HP) (B : Frag) (hn : l.length ≤ 1000000) (hf : ∀ (B : Frag) x, x ∈ l → CtC Tryz.prog fi (.agg (scs x).toArray :: caps) B own (.bool (p x)) own) : CtC Tryz.prog 98 [.slice A l.length c, .func (.func fi) #[] caps.toArray] B (sbuf 59 3 A l.length c (l.flatMap scs) * own) (i64 (ixF p l)) (sbuf 59 3 A l.length c (l.flatMap scs) * own) := by
  have h := Ct.lend (p := sbuf 59 3 A l.length c (l.flatMap scs)) (q := own) (B := B) (args := [.slice A l.length c, .func (.func fi) #[] caps.toArray]) (Φ := fun v H0 => v = i64 (ixF p l) ∧ H0 = own) (Go.SL.enters_of Tryz.func98 rfl (by kernel_rfl)) (fun k hk ha => Ct.mono (IFs_ct l p A c fi caps own _ (sbuf_ro hk ha).1 hn (fun x hx => hf _ x hx)) fun v B' H' ⟨e1, e2, e3⟩ => ⟨e2, e1, e3⟩)
  refine Ct.mono h ?_
  rintro v B' H' ⟨e1, H0, ⟨e2, e3⟩, e4⟩
  exact ⟨e2, e1, by rw [e4, e3]⟩
set_option maxHeartbeats 1000000 in
theorem strk_ct (x : Sk) (b1 db : Nat) (cs : List Value) (ch : Nat) (B : Frag) (hc : cs[4]? = some (i64 ((ch : Nat) : Int))) : CtC Tryz.prog 99 [.agg (scs x).toArray, .pointer (some ⟨b1, 0, none⟩)] B (row b1 27 [.pointer (some ⟨db, 0, none⟩)] * row db 90 cs) (.bool (decide (x.at_ = (ch : Int)))) (row b1 27 [.pointer (some ⟨db, 0, none⟩)] * row db 90 cs) := by
 refine Ct.of_body Tryz.func99 rfl (nt := 11) rfl (by kernel_rfl) rfl ?_
 intro N0 w0 R
 simp only [star_assoc]
 refine Cq (fun K1 k1 => ?_)
 refine Cr ?_
 refine Lx.new (boxA rfl) rfl (fun b2 => ?_)
 refine Lx.y (asg rfl) rfl <| Lx.nil <| ?_
 refine Xx.tn (k1 _ _ _ _ ?_)
 refine Cq (fun K2 k2 => ?_)
 refine Cx.drawn (by kernel_rfl) ?_
 refine Dx.p (i := 0) rfl (by kernel_rfl) (fa' fo59_0 rfl) rfl ?_
 refine Dx.r (i := 1) rfl (by kernel_rfl) (ld U3 rfl rfl rfl) rfl ?_
 refine Dx.r (i := 2) rfl (by kernel_rfl) (ld U27 rfl rfl rfl) rfl ?_
 refine Dx.p (i := 3) rfl (by kernel_rfl) (nilc rfl) rfl ?_
 refine Dx.p (i := 4) rfl (by kernel_rfl) (fa' fo90_4 rfl) rfl ?_
 refine Dx.r (i := 5) rfl (by kernel_rfl) (ld U3 rfl rfl hc) rfl ?_
 refine Dx.p (i := 6) rfl (by kernel_rfl) (eqI rfl rfl) rfl ?_
 refine Dx.p (i := 7) rfl (by kernel_rfl) (asg rfl) rfl ?_
 refine Dx.done (by kernel_rfl) ?_
 refine Xx.tn (k2 _ _ _ _ ?_)
 refine Cx.ret ?_
 exact Xx.dropB b2 (Xx.ret1 rfl rfl ⟨rfl, rfl, rfl⟩ (Fl _) (by ac_rfl))
def pAt (ch : Nat) (x : Sk) : Bool := decide (x.at_ = (ch : Int))
def strikesD (D : Dm) : Dm × Bool := if D.dead = true then (D, true) else match D.plan[D.plan.findIdx (pAt D.ch)]? with
  | none => ({ D with ch := D.ch + 1 }, false)
  | some x => (crashD { D with plan := D.plan.eraseIdx (D.plan.findIdx (pAt D.ch)) } x.mask x.torn, true)
theorem ix_neg {α : Type} {p : α → Bool} {l : List α} (h : ixF p l < 0) : l[l.findIdx p]? = none := by
  unfold ixF at h
  by_cases ha : l.any p = true
  · rw [if_pos ha] at h; omega
  · rw [List.findIdx_eq_length.2 (fun x hx => by
      cases hp : p x with
      | false => rfl
      | true => exact absurd (List.any_eq_true.2 ⟨x, hx, hp⟩) ha)]
    simp
theorem ix_some {α : Type} {p : α → Bool} {l : List α} (h : ¬ ixF p l < 0) : ∃ i, ∃ h : i < l.length, ixF p l = (i : Nat) ∧ l.findIdx p = i := by
  unfold ixF at h ⊢
  by_cases ha : l.any p = true
  · rw [if_pos ha]
    obtain ⟨x, hx, hp⟩ := List.any_eq_true.1 ha
    exact ⟨_, List.findIdx_lt_length_of_exists ⟨x, hx, hp⟩, rfl, rfl⟩
  · rw [if_neg ha] at h; exact absurd h (by decide)
theorem flat_take {α : Type} {enc : α → List Value} {size : Nat} (he : ∀ x, (enc x).length = size) : ∀ (l : List α) (i : Nat), (l.take i).flatMap enc = (l.flatMap enc).take (i * size) := by
  intro l
  induction l with
  | nil => intro i; simp
  | cons x l ih =>
    intro i
    cases i with
    | zero => simp
    | succ i =>
      have h1 : (enc x).take ((i + 1) * size) = enc x := List.take_of_length_le (by rw [he, Nat.succ_mul]; omega)
      rw [List.take_succ_cons, List.flatMap_cons, List.flatMap_cons, ih, List.take_append, h1, he, show (i + 1) * size - size = i * size by rw [Nat.succ_mul]; omega]
theorem flat_drop {α : Type} {enc : α → List Value} {size : Nat} (he : ∀ x, (enc x).length = size) : ∀ (l : List α) (i : Nat), (l.drop i).flatMap enc = (l.flatMap enc).drop (i * size) := by
  intro l
  induction l with
  | nil => intro i; simp
  | cons x l ih =>
    intro i
    cases i with
    | zero => simp
    | succ i =>
      have h1 : (enc x).drop ((i + 1) * size) = [] := List.drop_of_length_le (by rw [he, Nat.succ_mul]; omega)
      rw [List.drop_succ_cons, List.flatMap_cons, ih, List.drop_append, h1, he, List.nil_append, show (i + 1) * size - size = i * size by rw [Nat.succ_mul]; omega]
theorem scs_len (x : Sk) : (scs x).length = 3 := rfl
theorem plan_del (l : List Sk) (i : Nat) : (l.flatMap scs).take (i * 3) ++ (l.flatMap scs).drop ((i + 1) * 3) = (l.eraseIdx i).flatMap scs := by
  rw [List.eraseIdx_eq_take_drop_succ, List.flatMap_append, flat_take scs_len, flat_drop scs_len]
theorem plan_all (l : List Sk) : (l.flatMap scs).all (·.oneCell') = true := by
  rw [List.all_eq_true]; intro v hv
  obtain ⟨x, _, hx⟩ := List.mem_flatMap.1 hv
  exact List.all_eq_true.1 (show (scs x).all (·.oneCell') = true from rfl) v hx
theorem fit_plan {D : Dm} (h : D.Fit) {l : List Sk} (hl : l.length ≤ D.plan.length) : Dm.Fit { D with plan := l } := ⟨h.nd, h.rise, h.lim, h.len, h.now, h.sure, h.room, h.ch, Nat.le_trans hl h.plan⟩
set_option maxHeartbeats 4000000 in
theorem strikes_ct (d : Dk) (db : Nat) (B : Frag) (hF : d.abs.Fit) : Ct Tryz.prog 58 [.pointer (some ⟨db, 0, none⟩)] B (dkH db d) (fun v B' H' => (v = .bool false ∧ strikesD d.abs = ({ d.abs with ch := d.ch + 1 }, false) ∧ H' = dkH db { d with ch := d.ch + 1 }) ∨ (v = .bool true ∧ (strikesD d.abs).2 = true ∧ ∃ d' : Dk, d'.abs = (strikesD d.abs).1 ∧ H' = dkH db d')) := by
 have hpl : d.plan.length ≤ 1000000 := hF.plan
 have hch : d.ch ≤ 1152921504606846976 := hF.ch
 refine Ct.of_body Tryz.func58 rfl (nt := 52) rfl (by kernel_rfl) rfl ?_
 intro N0 w0 R
 unfold dkH
 simp only [star_assoc]
 refine Cq (fun K1 k1 => ?_)
 refine Cr ?_
 refine Lx.new (boxO rfl rfl) rfl (fun b1 => ?_)
 refine Lx.y (asg rfl) rfl <| Lx.nil <| ?_
 refine Xx.tn (k1 _ _ _ _ ?_)
 refine Cq (fun K2 k2 => ?_)
 refine Cq (fun K3 k3 => ?_)
 refine Cr <| Lx.y (ld U27 rfl rfl rfl) rfl <| Lx.y (Yx.ff (eqNilP U27 rfl rfl) rfl) rfl <| Lx.y (mv rfl) rfl <| Lx.gT rfl rfl rfl <| Lx.y (ld U27 rfl rfl rfl) rfl <| Lx.gT rfl rfl rfl <| Lx.y (nilc rfl) rfl <| Lx.gT rfl rfl rfl <| Lx.y (fa' fo90_2 rfl) rfl <| Lx.gT rfl rfl rfl <| Lx.y (ld U4 rfl rfl rfl) rfl <| ?_
 refine Lx.y (pickF rfl rfl) rfl <| Lx.nil <| ?_
 refine Xx.tn (k3 _ _ _ _ ?_)
 refine Cx.condB rfl (fun h4 => ?_) (fun h4 => ?_)
 ·
  have hd := h4
  refine Cq (fun K5 k5 => ?_)
  refine Cr <| Lx.y (asg rfl) rfl <| Lx.nil <| ?_
  refine Xx.tn (k5 _ _ _ _ ?_)
  refine Cx.ret <| Xx.tr <| ?_
  refine Xx.dropB b1 ?_
  exact Xx.ret1 rfl rfl (.inr ⟨rfl, by unfold strikesD; rw [if_pos (show d.abs.dead = true from hd)], d, by unfold strikesD; rw [if_pos (show d.abs.dead = true from hd)], rfl⟩) (Fl _) (by ac_rfl)
 ·
  have hd := h4
  have hdd : ¬ d.abs.dead = true := fun h => by rw [show d.abs.dead = d.dead from rfl, hd] at h; cases h
  refine Cx.skip ?_
  refine Xx.tn (k2 _ _ _ _ ?_)
  refine Cq (fun K6 k6 => ?_)
  refine Cr <| Lx.y (ld U27 rfl rfl rfl) rfl <| Lx.y (nilc rfl) rfl <| Lx.y (fa' fo90_3 rfl) rfl <| Lx.y (ld U85 rfl rfl rfl) rfl <| Lx.y (mkf rfl rfl) rfl <| ?_
  have hix := IFs_own d.plan (pAt d.ch) d.Ap d.cp 99 [.pointer (some ⟨b1, 0, none⟩)] (row b1 27 [.pointer (some ⟨db, 0, none⟩)] * row db 90 (dcs d)) B hpl (fun B x _ => strk_ct x b1 db (dcs d) d.ch B rfl)
  refine Lx.co rfl rfl rfl (hix) ((show _ = (sbuf 59 3 d.Ap d.plan.length d.cp (d.plan.flatMap scs) * (row b1 27 [.pointer (some ⟨db, 0, none⟩)] * row db 90 (dcs d))) * (imap d.mb (d.fs.map fkv) * (fisH d.fs * R)) by ac_rfl)) rfl ?_
  simp only [star_assoc]
  refine Lx.y (asg rfl) rfl <| Lx.nil <| ?_
  refine Xx.tn (k6 _ _ _ _ ?_)
  refine Cq (fun K7 k7 => ?_)
  refine Cq (fun K8 k8 => ?_)
  refine Cr <| Lx.y (mv rfl) rfl <| Lx.y (lss rfl rfl) rfl <| Lx.nil <| ?_
  refine Xx.tn (k8 _ _ _ _ ?_)
  refine Cx.condD rfl (fun h9 => ?_) (fun h9 => ?_)
  ·
   have hno := ix_neg h9
   refine Cq (fun K10 k10 => ?_)
   refine Cr <| Lx.y (ld U27 rfl rfl rfl) rfl <| Lx.y (nilc rfl) rfl <| Lx.y (fa' fo90_4 rfl) rfl <| Lx.y (ld U3 rfl rfl rfl) rfl <| Lx.y (Yx.val (add rfl rfl (by first | exact wrap64 (by omega) (by omega) | rfl)) (show _ = i64 ((d.ch + 1 : Nat) : Int) from rfl)) rfl <| Lx.y (nilc rfl) rfl <| Lx.y (fa' fo90_4 rfl) rfl <| ?_
   refine Lx.st (stO U3 sz3 rfl rfl rfl (by show 4 < 5; omega) rfl) ?_
   refine Lx.nil ?_
   refine Xx.tn (k10 _ _ _ _ ?_)
   refine Cq (fun K11 k11 => ?_)
   refine Cr <| Lx.y (asg rfl) rfl <| Lx.nil <| ?_
   refine Xx.tn (k11 _ _ _ _ ?_)
   refine Cx.ret <| Xx.tr <| ?_
   refine Xx.dropB b1 ?_
   exact Xx.ret1 rfl rfl (.inl ⟨rfl, by unfold strikesD; rw [if_neg hdd, show d.abs.plan[d.abs.plan.findIdx (pAt d.abs.ch)]? = none from hno]; rfl, rfl⟩) (Fl _) (by unfold dcs; ac_rfl)
  ·
   obtain ⟨i, hi, hie, hfi⟩ := ix_some h9
   refine Xx.addrT d.Ap (by omega) (fun bp hAp hpx hpc => ?_)
   refine Cx.skip ?_
   refine Xx.tn (k7 _ _ _ _ ?_)
   refine Cq (fun K12 k12 => ?_)
   refine Cr <| Lx.y (ld U27 rfl rfl rfl) rfl <| Lx.y (nilc rfl) rfl <| Lx.y (fa' fo90_3 rfl) rfl <| Lx.y (Yx.val (ld U85 rfl rfl rfl) (show _ = Value.slice (some ⟨bp, 0, none⟩) d.plan.length d.cp from by rw [← hAp])) rfl <| Lx.y (Yx.val (mv rfl) (show _ = i64 ((i : Nat) : Int) from by rw [hie])) rfl <| Lx.y (ia U85 sz59 rfl rfl (by first | exact Int.toNat_natCast _ | rfl) (by omega) (by omega)) rfl <| ?_
   rw [hAp]
   refine Lx.y (ldA U59 rfl sz59 rfl (Cells.buf (b := bp) (m := 3) (show _ = scs d.plan[i] from by rw [Nat.zero_add]; exact flatG_at scs_len i d.plan hi) (by rw [flatG_len scs_len]; omega)) rfl) rfl ?_
   refine Lx.new (allocO ti59) rfl (fun bx => ?_)
   refine Lx.st (stA (d := .bool) sz59 rfl rfl rfl rfl (by show 0 + 3 ≤ 3; omega) rfl) ?_
   refine Lx.nil ?_
   refine Xx.tn (k12 _ _ _ _ ?_)
   refine Cq (fun K13 k13 => ?_)
   rw [← hAp]
   refine Cx.drawn (by kernel_rfl) ?_
   refine Dx.r (i := 0) rfl (by kernel_rfl) (ld U27 rfl rfl rfl) rfl ?_
   refine Dx.r (i := 1) rfl (by kernel_rfl) (ld U27 rfl rfl rfl) rfl ?_
   refine Dx.p (i := 2) rfl (by kernel_rfl) (nilc rfl) rfl ?_
   refine Dx.p (i := 3) rfl (by kernel_rfl) (fa' fo90_3 rfl) rfl ?_
   refine Dx.r (i := 4) rfl (by kernel_rfl) (ld U85 rfl rfl rfl) rfl ?_
   refine Dx.p (i := 5) rfl (by kernel_rfl) (Yx.val (mv rfl) (show _ = i64 ((i : Nat) : Int) from by rw [hie])) rfl ?_
   refine Dx.p (i := 6) rfl (by kernel_rfl) (Yx.val (mv rfl) (show _ = i64 ((i : Nat) : Int) from by rw [hie])) rfl ?_
   refine Dx.p (i := 7) rfl (by kernel_rfl) (Yx.val (add rfl rfl (by first | exact wrap64 (by omega) (by omega) | rfl)) (show _ = i64 ((i + 1 : Nat) : Int) from rfl)) rfl ?_
   refine Dx.one (i := 8) (by kernel_rfl) ?_
   refine Dstep.o (i := 8) rfl (Ox.call rfl rfl rfl (DelS_ct d.Ap i d.plan.length d.cp (d.plan.flatMap scs) _ hi (flatG_len scs_len _) (plan_all _) (by omega)) (pickS _)) rfl (fun v B' H' hΦ hB => ?_)
   obtain ⟨_, rfl, hΦ⟩ := hΦ
   obtain ⟨rfl, hBB, rfl⟩ := hΦ
   subst hBB
   rename Frag => B
   clear hB
   rw [plan_del]
   refine ⟨Je (Jy (Jy (Jt) (ld U27 rfl rfl rfl)) (ld U27 rfl rfl rfl)) (by kernel_rfl), ?_⟩
   refine Dx.p (i := 9) rfl (by kernel_rfl) (nilc rfl) rfl ?_
   refine Dx.p (i := 10) rfl (by kernel_rfl) (fa' fo90_3 rfl) rfl ?_
   refine Dx.one (i := 11) (by kernel_rfl) ?_
   refine Dstep.o0 (i := 11) rfl (stO U85 sz85 rfl rfl rfl (by show 3 < 5; omega) rfl) (fun v B' H' hΦ hB => ?_)
   obtain ⟨Y, rfl⟩ := hΦ; have E := Y.symm; subst E; clear hB v
   refine ⟨Je (Je (Je (Jt) (by kernel_rfl)) (by kernel_rfl)) (by kernel_rfl), ?_⟩
   refine Dx.done (by kernel_rfl) ?_
   refine Xx.tn (k13 _ _ _ _ ?_)
   refine Cq (fun K14 k14 => ?_)
   refine Cr <| Lx.y (ld U27 rfl rfl rfl) rfl <| Lx.y (fa' fo59_1 rfl) rfl <| Lx.y (ld U22 rfl rfl rfl) rfl <| Lx.y (fa' fo59_2 rfl) rfl <| Lx.y (ld U3 rfl rfl rfl) rfl <| ?_
   refine Lx.c rfl rfl rfl (Crash_ct { d with plan := d.plan.eraseIdx i } db d.plan[i].mask d.plan[i].torn _ (fit_plan hF (List.length_eraseIdx_le _ _))) ((show _ = dkH db { d with plan := d.plan.eraseIdx i } * (row bx 59 (scs d.plan[i]) * (row b1 27 [.pointer (some ⟨db, 0, none⟩)] * R)) by unfold dkH dcs; simp only [List.length_eraseIdx_of_lt hi]; ac_rfl)) rfl ?_
   rintro v2 B2 H2 ⟨rfl, d2, hd2, rfl⟩ hB2
   refine Lx.nil ?_
   refine Xx.tn (k14 _ _ _ _ ?_)
   refine Cq (fun K15 k15 => ?_)
   refine Cr <| Lx.y (asg rfl) rfl <| Lx.nil <| ?_
   refine Xx.tn (k15 _ _ _ _ ?_)
   refine Cx.ret ?_
   refine Xx.dropB bx (Xx.dropB b1 ?_)
   have hst : strikesD d.abs = (crashD { d.abs with plan := d.plan.eraseIdx i } d.plan[i].mask d.plan[i].torn, true) := by
    unfold strikesD
    rw [if_neg hdd, show d.abs.plan[d.abs.plan.findIdx (pAt d.abs.ch)]? = some d.plan[i] from by show d.plan[d.plan.findIdx (pAt d.ch)]? = _; rw [hfi]; exact List.getElem?_eq_getElem hi, show d.abs.plan.findIdx (pAt d.abs.ch) = i from hfi]
    rfl
   exact Xx.ret1 rfl rfl (.inr ⟨rfl, by rw [hst], d2, by rw [hst]; exact hd2, rfl⟩) hB2 rfl
end DkF
end Go.Proofs.YthlfffbcligocaaGreat
namespace Go.Proofs.YthlfffbcligocaaGreat
open Go.SL Go.RowKit
set_option maxRecDepth 100000
open DkA DkB DkC DkD DkE DkF
namespace DkG
theorem sz3 : (Tryz.prog.info? 3).map (·.size) = some 1 := by kernel_rfl
theorem sz5 : (Tryz.prog.info? 5).map (·.size) = some 1 := by kernel_rfl
theorem sz26 : (Tryz.prog.info? 26).map (·.size) = some 1 := by kernel_rfl
theorem sz59 : (Tryz.prog.info? 59).map (·.size) = some 3 := by kernel_rfl
theorem ti3 : TI Tryz.prog 3 [.int .i64 0] 1 8 := TI.of (by kernel_rfl) rfl rfl
theorem ti5 : TI Tryz.prog 5 [.int .u8 0] 1 1 := TI.of (by kernel_rfl) rfl rfl
theorem fo109_2 : FO Tryz.prog 109 2 2 1 false := FO.of U109 rfl rfl (by kernel_rfl) U26 rfl rfl
def insN (l : List Nat) (i : Nat) : List Nat := if i ∈ l then l else l.take (lbN l i) ++ [i] ++ l.drop (lbN l i)
def touchL (l : List Nat) (fr tu : Nat) : List Nat := if fr < tu then (List.range' (fr / 64) (sec tu - fr / 64)).foldl insN l else l
theorem lbN_take : ∀ (l : List Nat) (t : Nat), ∀ x ∈ l.take (lbN l t), x < t := by
  intro l t
  induction l with
  | nil => intro x hx; simp [lbN] at hx
  | cons k l ih =>
    intro x hx
    unfold lbN at hx
    split at hx
    · rename_i h
      rw [List.take_succ_cons] at hx
      rcases List.mem_cons.1 hx with rfl | hx
      · exact h
      · exact ih x hx
    · simp at hx
theorem lbN_drop : ∀ (l : List Nat) (t : Nat), Rise l → ∀ x ∈ l.drop (lbN l t), t ≤ x := by
  intro l t
  induction l with
  | nil => intro _ x hx; simp at hx
  | cons k l ih =>
    intro hr x hx
    unfold lbN at hx
    split at hx
    · rw [List.drop_succ_cons] at hx
      exact ih (List.pairwise_cons.1 hr).2 x hx
    · rename_i h
      rw [List.drop_zero] at hx
      rcases List.mem_cons.1 hx with rfl | hx
      · omega
      · have := (List.pairwise_cons.1 hr).1 x hx; omega
theorem lbN_le (l : List Nat) (t : Nat) : lbN l t ≤ l.length := by
  induction l with
  | nil => exact Nat.le_refl _
  | cons k l ih => unfold lbN; split <;> simp <;> omega
theorem insN_mem (l : List Nat) (i x : Nat) : x ∈ insN l i ↔ x ∈ l ∨ x = i := by
  unfold insN
  split
  · rename_i h
    constructor
    · exact .inl
    · rintro (h1 | rfl)
      · exact h1
      · exact h
  · conv => rhs; rw [← List.take_append_drop (lbN l i) l]
    simp only [List.mem_append, List.mem_singleton]
    constructor
    · rintro ((h | h) | h)
      · exact .inl (.inl h)
      · exact .inr h
      · exact .inl (.inr h)
    · rintro ((h | h) | h)
      · exact .inl (.inl h)
      · exact .inr h
      · exact .inl (.inr h)
theorem insN_rise {l : List Nat} (h : Rise l) (i : Nat) : Rise (insN l i) := by
  unfold insN
  split
  · exact h
  · rename_i hi
    have ht := lbN_take l i
    have hd := lbN_drop l i h
    have hd2 : ∀ x ∈ l.drop (lbN l i), i < x := fun x hx => by
      have h1 := hd x hx
      have : x ≠ i := fun e => hi (e ▸ List.mem_of_mem_drop hx)
      omega
    refine List.pairwise_append.2 ⟨List.pairwise_append.2 ⟨h.sublist (List.take_sublist _ _), List.pairwise_singleton _ _, fun a ha b hb => ?_⟩, h.sublist (List.drop_sublist _ _), fun a ha b hb => ?_⟩
    · rw [List.mem_singleton.1 hb]; exact ht a ha
    · rcases List.mem_append.1 ha with ha | ha
      · exact Nat.lt_trans (ht a ha) (hd2 b hb)
      · rw [List.mem_singleton.1 ha]; exact hd2 b hb
theorem insN_len (l : List Nat) (i : Nat) : (insN l i).length ≤ l.length + 1 := by
  unfold insN
  split
  · omega
  · simp only [List.length_append, List.length_take, List.length_drop, List.length_singleton]; omega
theorem nv_app (a b : List Nat) : nv (a ++ b) = nv a ++ nv b := by simp [nv]
theorem nv_ins {l : List Nat} {i : Nat} (h : ¬ i ∈ l) : (nv l).take (lbN l i * 1) ++ [i64 ((i : Nat) : Int)] ++ (nv l).drop (lbN l i * 1) = nv (insN l i) := by
  unfold insN
  rw [if_neg h, nv_app, nv_app, Nat.mul_one]
  simp [nv, List.map_take, List.map_drop]
theorem insN_new {l : List Nat} {i : Nat} (h : ¬ i ∈ l) : (insN l i).length = l.length + 1 := by
  have := lbN_le l i
  unfold insN
  rw [if_neg h]
  simp only [List.length_append, List.length_take, List.length_drop, List.length_singleton]; omega
theorem range_step (a n : Nat) (f : List Nat → Nat → List Nat) (l : List Nat) : (List.range' a (n + 1)).foldl f l = f ((List.range' a n).foldl f l) (a + n) := by
  rw [List.range'_concat, List.foldl_append]; simp
set_option maxHeartbeats 4000000 in
theorem touch_ct (f : Fi) (fr tu : Nat) (B : Frag) (hr : Rise f.m.loose) (hl : f.m.loose.length ≤ 1099511627776) (hfr : fr ≤ 1099511627776) (hto : tu ≤ 1099511627776) : Ct Tryz.prog 59 [.pointer (some ⟨f.b, 0, none⟩), i64 ((fr : Nat) : Int), i64 ((tu : Nat) : Int)] B (fiH f) (fun v B' H' => B' = B ∧ v = .tuple #[] ∧ ∃ Al cl, H' = fiH { f with m := { f.m with loose := touchL f.m.loose fr tu }, Al := Al, cl := cl }) := by
 obtain ⟨⟨fn, now, sure, loose⟩, fb, An, cn, As, cs, Al0, cl0⟩ := f
 simp only at hr hl ⊢
 refine Ct.of_body Tryz.func59 rfl (nt := 44) rfl (by kernel_rfl) rfl ?_
 intro N0 w0 R
 unfold fiH fcs
 simp only [star_assoc]
 refine Cq (fun K1 k1 => ?_)
 refine Cr <| Lx.y (mv rfl) rfl <| Lx.y (Yx.val (quoN rfl rfl (by omega) (by decide) (by exact wrap64 (by omega) (by omega))) (show _ = i64 ((fr / 64 : Nat) : Int) from rfl)) rfl <| Lx.y (asg rfl) rfl <| Lx.nil <| ?_
 refine Xx.tn (k1 _ _ _ _ ?_)
 refine Cx.block ?_
 refine Cx.loopK (Sc 0 rfl (Sc 1 rfl (Sc 2 rfl (Sc 9 rfl (Sc 10 rfl (Sub.nil _)))))) (fun m ρ' B' H' => ∃ (i : Nat) (l : List Nat) (Al : Option Addr) (cl : Nat), (fr / 64 ≤ i ∧ l = (List.range' (fr / 64) (i - fr / 64)).foldl insN loose ∧ Rise l ∧ l.length ≤ loose.length + (i - fr / 64) ∧ (i ≤ sec tu ∨ i = fr / 64) ∧ (fr < tu ∨ l = loose)) ∧ m = sec tu - i ∧ ρ' = [(6, i64 ((i : Nat) : Int))] ∧ B = B' ∧ row fb 109 [.slice An now.length cn, .slice As sure.length cs, .slice Al l.length cl] * (sbuf 5 1 An now.length cn (u8s now) * (sbuf 5 1 As sure.length cs (u8s sure) * (sbuf 3 1 Al l.length cl (nv l) * R))) = H') ⟨fr / 64, loose, _, _, ⟨Nat.le_refl _, by rw [Nat.sub_self]; rfl, hr, by omega, .inr rfl, .inr rfl⟩, rfl, rfl, rfl, rfl⟩ (Sc 6 rfl (Sc 0 rfl (Sc 1 rfl (Sc 2 rfl (Sc 9 rfl (Sc 10 rfl (Sub.nil _))))))) ?_
 rintro m ρ' B' H' ⟨i, l, Al, cl, ⟨hi, hls, hri, hll, hit, hft⟩, rfl, rfl, rfl, rfl⟩
 refine Cq (fun K2 k2 => ?_)
 refine Cq (fun K3 k3 => ?_)
 refine Cr <| Lx.y (mv rfl) rfl <| Lx.y (mv rfl) rfl <| Lx.y (lss rfl rfl) rfl <| Lx.y (mv rfl) rfl <| ?_
 refine Xx.ifD (t := 14) rfl (fun h4 => ?_) (fun h4 => ?_)
 ·
  have g1 := h4
  refine Lx.gT rfl rfl rfl <| Lx.y (mv rfl) rfl <| Lx.gT rfl rfl rfl <| Lx.y (mv rfl) rfl <| Lx.gT rfl rfl rfl <| ?_
  refine Lx.cp rfl rfl rfl (sectors_ct tu _ (by omega)) rfl ?_
  refine Lx.gT rfl rfl rfl <| Lx.y (lss rfl rfl) rfl <| Lx.y (pickT rfl rfl) rfl <| Lx.nil <| ?_
  refine Xx.tn (k3 _ _ _ _ ?_)
  refine Cx.condD rfl (fun h5 => ?_) (fun h5 => ?_)
  ·
   have g2 := h5
   have hst : sec tu ≤ 17179869185 := by unfold sec; omega
   refine Cx.skip ?_
   refine Xx.tn (k2 _ _ _ _ ?_)
   refine Cq (fun K6 k6 => ?_)
   refine Cx.block ?_
   refine Cq (fun K7 k7 => ?_)
   refine Cr <| Lx.y (mv rfl) rfl <| Lx.y (nilc rfl) rfl <| Lx.y (fa' fo109_2 rfl) rfl <| Lx.y (ld U26 rfl rfl rfl) rfl <| Lx.y (mv rfl) rfl <| ?_
   refine Lx.co rfl rfl rfl (BSn_ct l i Al cl _ hri (by omega)) (pickS _) rfl ?_
   refine Lx.y (mv rfl) rfl <| Lx.y (ext rfl rfl) rfl <| Lx.y (ext rfl rfl) rfl <| Lx.y (asg rfl) rfl <| Lx.y (asg rfl) rfl <| Lx.nil <| ?_
   refine Xx.tn (k7 _ _ _ _ ?_)
   refine Cq (fun K8 k8 => ?_)
   refine Cr <| Lx.y (mv rfl) rfl <| Lx.y (not' rfl) rfl <| Lx.nil <| ?_
   refine Xx.tn (k8 _ _ _ _ ?_)
   refine Cx.condN rfl (fun h9 => ?_) (fun h9 => ?_)
   ·
    have hni := h9
    refine Cr <| Lx.y (mv rfl) rfl <| Lx.y (mv rfl) rfl <| Lx.y (nilc rfl) rfl <| Lx.y (fa' fo109_2 rfl) rfl <| Lx.y (ld U26 rfl rfl rfl) rfl <| Lx.y (mv rfl) rfl <| Lx.y (mv rfl) rfl <| ?_
    refine Lx.bsl (bsl1 U26 ti3 rfl rfl rfl (by decide)) rfl (fun bv => ?_)
    refine Lx.c rfl rfl rfl (InsI_ct Al (lbN l i) l.length cl (nv l) bv 3 [i64 ((i : Nat) : Int)] _ (lbN_le l i) (by rw [nv_len, Nat.mul_one]) (nv_all l) rfl rfl (by omega)) (pickSB _ _) rfl ?_
    rintro v1 B1 H1 ⟨A9, c9, rfl, hBB, rfl, _, hc9⟩ hB1
    subst hBB
    rename Frag => B1
    clear hB1
    refine Lx.y (nilc rfl) rfl <| Lx.y (fa' fo109_2 rfl) rfl <| ?_
    refine Lx.st (stO U26 sz26 rfl rfl rfl (by show 2 < 3; omega) rfl) ?_
    refine Lx.nil <| Xx.bn <| ?_
    refine Xx.tn (k6 _ _ _ _ ?_)
    refine Cr <| Lx.y (mv rfl) rfl <| Lx.y (Yx.val (add rfl rfl (by first | exact wrap64 (by omega) (by omega) | rfl)) (show _ = i64 ((i + 1 : Nat) : Int) from rfl)) rfl <| Lx.y (asg rfl) rfl <| Lx.nil <| ?_
    exact Xx.againK ⟨i + 1, insN l i, A9, c9, ⟨by omega, by rw [show i + 1 - fr / 64 = (i - fr / 64) + 1 by omega, range_step, ← hls, show fr / 64 + (i - fr / 64) = i by omega], insN_rise hri i, by have := insN_len l i; omega, .inl (by omega), .inl (by omega)⟩, rfl, rfl, rfl, (by rw [← nv_ins hni, insN_new hni]; ac_rfl)⟩ (by omega) (Sc 6 rfl (Sc 0 rfl (Sc 1 rfl (Sc 2 rfl (Sc 9 rfl (Sc 10 rfl (Sub.nil _)))))))
   ·
    have hni := h9
    refine Cx.skip <| Xx.bn <| ?_
    refine Xx.tn (k6 _ _ _ _ ?_)
    refine Cr <| Lx.y (mv rfl) rfl <| Lx.y (Yx.val (add rfl rfl (by first | exact wrap64 (by omega) (by omega) | rfl)) (show _ = i64 ((i + 1 : Nat) : Int) from rfl)) rfl <| Lx.y (asg rfl) rfl <| Lx.nil <| ?_
    have hin : insN l i = l := by unfold insN; rw [if_pos hni]
    exact Xx.againK ⟨i + 1, insN l i, Al, cl, ⟨by omega, by rw [show i + 1 - fr / 64 = (i - fr / 64) + 1 by omega, range_step, ← hls, show fr / 64 + (i - fr / 64) = i by omega], insN_rise hri i, by have := insN_len l i; omega, .inl (by omega), .inl (by omega)⟩, rfl, rfl, rfl, (by rw [hin]; ac_rfl)⟩ (by omega) (Sc 6 rfl (Sc 0 rfl (Sc 1 rfl (Sc 2 rfl (Sc 9 rfl (Sc 10 rfl (Sub.nil _)))))))
  ·
   have g2 := h5
   refine Cx.exit <| Xx.te <| Xx.te <| Xx.bh <| ?_
   have htl : touchL loose fr tu = l := by
    unfold touchL
    rw [if_pos (by omega), hls, show sec tu - fr / 64 = i - fr / 64 by omega]
   exact Xx.end0 rfl ⟨rfl, rfl, Al, cl, rfl⟩ (Fl _) (by rw [htl]; ac_rfl)
 ·
  have g1 := h4
  refine Lx.gF rfl rfl rfl rfl <| Lx.gF rfl rfl rfl rfl <| Lx.gF rfl rfl rfl rfl <| Lx.gF rfl rfl rfl rfl <| Lx.y (pickF rfl rfl) rfl <| Lx.nil <| ?_
  refine Xx.tn (k3 _ _ _ _ ?_)
  refine Cx.condF rfl <| Cx.exit <| Xx.te <| Xx.te <| Xx.bh <| ?_
  have htl : touchL loose fr tu = l := by
   unfold touchL
   rw [if_neg (by omega)]
   rcases hft with h | h
   ·omega
   ·exact h.symm
  exact Xx.end0 rfl ⟨rfl, rfl, Al, cl, rfl⟩ (Fl _) (by rw [htl]; ac_rfl)
end DkG
end Go.Proofs.YthlfffbcligocaaGreat
namespace Go.Proofs.YthlfffbcligocaaGreat
open Go.SL Go.RowKit
set_option maxRecDepth 100000
open DkA DkB DkC DkD DkE DkF DkG
namespace DkH
theorem sz3 : (Tryz.prog.info? 3).map (·.size) = some 1 := by kernel_rfl
theorem sz5 : (Tryz.prog.info? 5).map (·.size) = some 1 := by kernel_rfl
theorem sz59 : (Tryz.prog.info? 59).map (·.size) = some 3 := by kernel_rfl
theorem sz107 : (Tryz.prog.info? 107).map (·.size) = some 1 := by kernel_rfl
theorem ti3 : TI Tryz.prog 3 [.int .i64 0] 1 8 := TI.of (by kernel_rfl) rfl rfl
theorem ti5 : TI Tryz.prog 5 [.int .u8 0] 1 1 := TI.of (by kernel_rfl) rfl rfl
theorem ti109 : TI Tryz.prog 109 [.slice none 0 0, .slice none 0 0, .slice none 0 0] 3 72 := TI.of (by kernel_rfl) rfl rfl
theorem fo90_0 : FO Tryz.prog 90 0 0 1 false := FO.of U90 rfl rfl (by kernel_rfl) U88 rfl rfl
theorem fo90_1 : FO Tryz.prog 90 1 1 1 false := FO.of U90 rfl rfl (by kernel_rfl) U3 rfl rfl
theorem fo90_2 : FO Tryz.prog 90 2 2 1 false := FO.of U90 rfl rfl (by kernel_rfl) U4 rfl rfl
theorem fo109_0 : FO Tryz.prog 109 0 0 1 false := FO.of U109 rfl rfl (by kernel_rfl) U107 rfl rfl
theorem pl109 : PL Tryz.prog 109 [(0, 1), (1, 1), (2, 1)] := PL.of U109 (by kernel_rfl)
def fileM (n : Int) (fs : List Fm) : Fm := (findM n fs).getD ⟨n, [], [], []⟩
def appendD (D : Dm) (n : Int) (s : List UInt8) : Dm × Int × Int :=
  if D.dead = true then (D, 0, 7) else if n < 0 then (D, 0, 1)
  else if s ≠ [] ∧ ((sec ((fileM n D.fs).now.length + s.length) : Nat) : Int) - (sec (fileM n D.fs).now.length : Nat) > D.room - (usedM D.fs : Nat) then (D, 0, 50)
  else if (strikesD D).2 = true then ((strikesD D).1, 0, 7)
  else ({ (strikesD D).1 with fs := setM ⟨n, (fileM n D.fs).now ++ s, (fileM n D.fs).sure, touchL (fileM n D.fs).loose (fileM n D.fs).now.length ((fileM n D.fs).now.length + s.length)⟩ (strikesD D).1.fs }, (((fileM n D.fs).now.length : Nat) : Int), 0)
theorem file_ex {n : Int} {fs : List Fi} {f : Fi} {ex : HP} (h : (findF n fs = some f ∧ ex = 1) ∨ (findF n fs = none ∧ f.m = ⟨n, [], [], []⟩ ∧ ex = fiH f)) :
    ∃ Rf, ex * fisH fs = fiH f * Rf ∧ (∀ f', f'.m.n = n → fisH (setF f' fs) = fiH f' * Rf) ∧ f.m = fileM n (fs.map (·.m)) ∧ f.m.n = n := by
  rcases h with ⟨h1, h2⟩ | ⟨h1, h2, h3⟩
  · subst h2
    obtain ⟨Rf, e1, e2, _⟩ := fisH_find h1
    refine ⟨Rf, by rw [one_star]; exact e1, e2, ?_, (findF_mem h1).2⟩
    have := findF_m n fs
    rw [h1] at this
    unfold fileM
    rw [← this]; rfl
  · subst h3
    refine ⟨fisH fs, rfl, fun f' hf => fisH_new (by rw [hf]; exact h1), ?_, by rw [h2]⟩
    have := findF_m n fs
    rw [h1] at this
    unfold fileM
    rw [← this, h2]; rfl
theorem fileM_ok {n : Int} {fs : List Fm} (h : ∀ f ∈ fs, f.Ok) : (fileM n fs).Ok := by
  induction fs with
  | nil => exact ⟨List.Pairwise.nil, fun i hi => absurd hi List.not_mem_nil, by show 0 ≤ _; omega, Nat.le_refl _⟩
  | cons g fs ih =>
    unfold fileM
    simp only [findM]
    split
    · exact h g (by simp)
    · exact ih fun f hf => h f (by simp [hf])
theorem used_le {D : Dm} (h : D.Fit) : usedM D.fs ≤ 1073741825000000 := by
  have h1 := sum_le (fun m : Fm => sec m.now.length) 1073741825 D.fs (fun m hm => by
    have := h.now m hm
    show sec _ ≤ _
    unfold sec; omega)
  have := h.len
  have h2 : D.fs.length * 1073741825 ≤ 1000000 * 1073741825 := Nat.mul_le_mul_right _ this
  unfold usedM
  omega
theorem strikes_ct2 (d : Dk) (db : Nat) (B : Frag) (hF : d.abs.Fit) : Ct Tryz.prog 58 [.pointer (some ⟨db, 0, none⟩)] B (dkH db d) (fun v B' H' => v = .bool (strikesD d.abs).2 ∧ ((strikesD d.abs).2 = false → (strikesD d.abs).1 = { d.abs with ch := d.ch + 1 } ∧ H' = dkH db { d with ch := d.ch + 1 }) ∧ ((strikesD d.abs).2 = true → ∃ d' : Dk, d'.abs = (strikesD d.abs).1 ∧ H' = dkH db d')) := by
  refine Ct.mono (strikes_ct d db B hF) ?_
  rintro v B' H' (⟨rfl, h1, rfl⟩ | ⟨rfl, h1, d', h2, rfl⟩)
  · rw [h1]; exact ⟨rfl, fun _ => ⟨rfl, rfl⟩, fun h => (by cases h)⟩
  · rw [h1]; exact ⟨rfl, fun h => (by cases h), fun _ => ⟨d', h2, rfl⟩⟩
set_option maxHeartbeats 4000000 in
theorem Append_ct (d : Dk) (db : Nat) (n : Int) (s : List UInt8) (B : Frag) (hF : d.abs.Fit) (hs : s.length ≤ 68719476736) : Ct Tryz.prog 19 [.pointer (some ⟨db, 0, none⟩), i64 n, str s] B (dkH db d) (fun v B' H' => v = .tuple #[i64 (appendD d.abs n s).2.1, i64 (appendD d.abs n s).2.2] ∧ ∃ d' : Dk, d'.abs = (appendD d.abs n s).1 ∧ H' = dkH db d') := by
 have hroom := hF.room
 have hused := used_le hF
 have hroom1 : 0 ≤ d.room := hroom.1
 have hroom2 : d.room ≤ 9223372036854775807 := hroom.2
 refine Ct.of_body Tryz.func19 rfl (nt := 82) rfl (by kernel_rfl) rfl ?_
 intro N0 w0 R
 unfold dkH
 simp only [star_assoc]
 refine Cq (fun K1 k1 => ?_)
 refine Cr <| Lx.y (asg rfl) rfl <| Lx.y (asg rfl) rfl <| Lx.nil <| ?_
 refine Xx.tn (k1 _ _ _ _ ?_)
 refine Cq (fun K2 k2 => ?_)
 refine Cx.block ?_
 refine Cq (fun K3 k3 => ?_)
 refine Cr <| Lx.y (mv rfl) rfl <| Lx.y (Yx.ff (eqNilP U27 rfl rfl) rfl) rfl <| Lx.y (mv rfl) rfl <| Lx.gT rfl rfl rfl <| Lx.y (mv rfl) rfl <| Lx.gT rfl rfl rfl <| Lx.y (nilc rfl) rfl <| Lx.gT rfl rfl rfl <| Lx.y (fa' fo90_2 rfl) rfl <| Lx.gT rfl rfl rfl <| Lx.y (ld U4 rfl rfl rfl) rfl <| ?_
 refine Lx.y (pickF rfl rfl) rfl <| Lx.y (asg rfl) rfl <| Lx.nil <| ?_
 refine Xx.tn (k3 _ _ _ _ ?_)
 refine Cx.condB rfl (fun h4 => ?_) (fun h4 => ?_)
 ·
  have hd := h4
  refine Cq (fun K5 k5 => ?_)
  refine Cr <| Lx.y (asg rfl) rfl <| Lx.y (asg rfl) rfl <| Lx.nil <| ?_
  refine Xx.tn (k5 _ _ _ _ ?_)
  refine Cx.ret ?_
  refine Xx.br ?_
  refine Xx.tr ?_
  exact Xx.ret2 rfl rfl rfl ⟨by unfold appendD; rw [if_pos (show d.abs.dead = true from hd)], d, by unfold appendD; rw [if_pos (show d.abs.dead = true from hd)], rfl⟩ (Fl _) (by ac_rfl)
 ·
  have hd := h4
  have hdd : ¬ d.abs.dead = true := fun h => by rw [show d.abs.dead = d.dead from rfl, hd] at h; cases h
  refine Cq (fun K6 k6 => ?_)
  refine Cr <| Lx.y (mv rfl) rfl <| Lx.y (lss rfl rfl) rfl <| Lx.y (asg rfl) rfl <| Lx.nil <| ?_
  refine Xx.tn (k6 _ _ _ _ ?_)
  refine Cx.condD rfl (fun h7 => ?_) (fun h7 => ?_)
  ·
   have hn := h7
   refine Cq (fun K8 k8 => ?_)
   refine Cr <| Lx.y (asg rfl) rfl <| Lx.y (asg rfl) rfl <| Lx.nil <| ?_
   refine Xx.tn (k8 _ _ _ _ ?_)
   refine Cx.ret ?_
   refine Xx.br ?_
   refine Xx.tr ?_
   exact Xx.ret2 rfl rfl rfl ⟨by unfold appendD; rw [if_neg hdd, if_pos hn], d, by unfold appendD; rw [if_neg hdd, if_pos hn], rfl⟩ (Fl _) (by ac_rfl)
  ·
   have hn := h7
   refine Cx.skip <| Xx.bn <| ?_
   refine Xx.tn (k2 _ _ _ _ ?_)
   refine Cq (fun K9 k9 => ?_)
   refine Cr <| Lx.y (mv rfl) rfl <| Lx.y (nilc rfl) rfl <| Lx.y (fa' fo90_0 rfl) rfl <| Lx.y (ld U88 rfl rfl rfl) rfl <| Lx.y (mv rfl) rfl <| ?_
   refine Lx.y (lkM U88 U3 Tryz.zeroValue106 rfl rfl (v := .pointer ((findF n d.fs).map fun f => ⟨f.b, 0, none⟩)) (by rw [mget_find]; cases findF n d.fs <;> rfl)) rfl ?_
   refine Lx.y (asg rfl) rfl <| Lx.nil <| ?_
   refine Xx.tn (k9 _ _ _ _ ?_)
   refine Cx.cutK (ds' := []) (Sc 0 rfl (Sc 1 rfl (Sc 2 rfl (Sc 6 rfl (Sc 7 rfl (Sc 10 rfl (Sc 11 rfl (Sc 12 rfl (Sc 13 rfl (Sc 14 rfl (Sc 15 rfl (Sc 16 rfl (Sc 17 rfl (Sc 18 rfl (Sc 19 rfl (Sc 20 rfl (Sc 21 rfl (Sc 22 rfl (Sc 23 rfl (Sc 24 rfl (Sc 25 rfl (Sc 26 rfl (Sc 27 rfl (Sub.nil _)))))))))))))))))))))))) (fun ρ' B' H' => ∃ (f : Fi) (ex Rf : HP), ρ' = [(8, .pointer (some ⟨f.b, 0, none⟩))] ∧ B = B' ∧ row db 90 (dcs d) * (imap d.mb (d.fs.map fkv) * (sbuf 59 3 d.Ap d.plan.length d.cp (d.plan.flatMap scs) * (fiH f * (Rf * R)))) = H' ∧ ex * fisH d.fs = fiH f * Rf ∧ (∀ f' : Fi, f'.m.n = n → fisH (setF f' d.fs) = fiH f' * Rf) ∧ f.m = fileM n d.abs.fs ∧ f.m.n = n) ?_ ?_
   ·
    refine Cq (fun K10 k10 => ?_)
    refine Cr <| Lx.y (mv rfl) rfl <| Lx.y (eqNilP U106 rfl rfl) rfl <| Lx.nil <| ?_
    refine Xx.tn (k10 _ _ _ _ ?_)
    refine Cx.condB rfl (fun h11 => ?_) (fun h11 => ?_)
    ·
     have hq : findF n d.fs = none := by
      cases hq : findF n d.fs with
      | none => rfl
      | some f => have h9 := h11; rw [hq] at h9; cases h9
     refine Cr <| Lx.y (bld ti109 pl109 rfl rfl) rfl <| ?_
     refine Lx.new (boxA rfl) rfl (fun fb => ?_)
     refine Lx.y (asg rfl) rfl <| Lx.nil <| ?_
     obtain ⟨Rf, e1, e2, e3, e4⟩ := file_ex (n := n) (fs := d.fs) (f := ⟨⟨n, [], [], []⟩, fb, none, 0, none, 0, none, 0⟩) (ex := fiH ⟨⟨n, [], [], []⟩, fb, none, 0, none, 0, none, 0⟩) (.inr ⟨hq, rfl, rfl⟩)
     have hfi : fiH ⟨⟨n, [], [], []⟩, fb, none, 0, none, 0, none, 0⟩ = row fb 109 [.slice none 0 0, .slice none 0 0, .slice none 0 0] := by
      unfold fiH fcs
      rw [show u8s [] = [] from rfl, show nv [] = [] from rfl]
      simp only [List.length_nil, sbuf_nil, star_one]
     exact Xx.mkK (⟨⟨⟨n, [], [], []⟩, fb, none, 0, none, 0, none, 0⟩, _, Rf, rfl, rfl, by rw [← star_assoc (fiH _) Rf R, ← e1, hfi]; ac_rfl, e1, e2, e3, e4⟩) (Sc 8 rfl (Sc 0 rfl (Sc 1 rfl (Sc 2 rfl (Sc 6 rfl (Sc 7 rfl (Sc 10 rfl (Sc 11 rfl (Sc 12 rfl (Sc 13 rfl (Sc 14 rfl (Sc 15 rfl (Sc 16 rfl (Sc 17 rfl (Sc 18 rfl (Sc 19 rfl (Sc 20 rfl (Sc 21 rfl (Sc 22 rfl (Sc 23 rfl (Sc 24 rfl (Sc 25 rfl (Sc 26 rfl (Sc 27 rfl (Sub.nil _)))))))))))))))))))))))))
    ·
     obtain ⟨f, hff⟩ : ∃ f, findF n d.fs = some f := by
      cases hq : findF n d.fs with
      | none => have h9 := h11; rw [hq] at h9; cases h9
      | some f => exact ⟨f, rfl⟩
     refine Cx.skip ?_
     obtain ⟨Rf, e1, e2, e3, e4⟩ := file_ex (n := n) (fs := d.fs) (f := f) (ex := 1) (.inl ⟨hff, rfl⟩)
     exact Xx.mkK (⟨f, 1, Rf, rfl, rfl, by rw [← star_assoc (fiH f) Rf R, ← e1, one_star], e1, e2, e3, e4⟩) (Sub.consE (s := 8) rfl (by rw [hff]; rfl) (Sc 0 rfl (Sc 1 rfl (Sc 2 rfl (Sc 6 rfl (Sc 7 rfl (Sc 10 rfl (Sc 11 rfl (Sc 12 rfl (Sc 13 rfl (Sc 14 rfl (Sc 15 rfl (Sc 16 rfl (Sc 17 rfl (Sc 18 rfl (Sc 19 rfl (Sc 20 rfl (Sc 21 rfl (Sc 22 rfl (Sc 23 rfl (Sc 24 rfl (Sc 25 rfl (Sc 26 rfl (Sc 27 rfl (Sub.nil _)))))))))))))))))))))))))
   ·rintro ρ' B' H' ⟨f, ex, Rf, rfl, rfl, rfl, hex, hset, hfm, hfn⟩
    have hfo : f.m.Ok := by rw [hfm]; exact fileM_ok fun g hg => hF.ok hg
    have hfo3 := hfo.2.2.1
    have hback : ∀ X : HP, X * (imap d.mb (d.fs.map fkv) * (sbuf 59 3 d.Ap d.plan.length d.cp (d.plan.flatMap scs) * (fiH f * (Rf * R)))) = (X * (imap d.mb (d.fs.map fkv) * (sbuf 59 3 d.Ap d.plan.length d.cp (d.plan.flatMap scs) * fisH d.fs))) * (ex * R) := fun X => by rw [← star_assoc (fiH f) Rf R, ← hex]; ac_rfl
    have hun : fiH f * (Rf * R) = row f.b 109 (fcs f) * (sbuf 5 1 f.An f.m.now.length f.cn (u8s f.m.now) * (sbuf 5 1 f.As f.m.sure.length f.cs (u8s f.m.sure) * (sbuf 3 1 f.Al f.m.loose.length f.cl (nv f.m.loose) * (Rf * R)))) := by unfold fiH; ac_rfl
    rw [hun] at hback ⊢
    refine Cq (fun K12 k12 => ?_)
    refine Cr <| Lx.y (mv rfl) rfl <| Lx.y (nilc rfl) rfl <| Lx.y (fa' fo109_0 rfl) rfl <| Lx.y (Yx.val (ld U107 rfl rfl rfl) (show _ = Value.slice f.An f.m.now.length f.cn from rfl)) rfl <| Lx.y (lenV (ty' := 0) U107 rfl) rfl <| Lx.y (asg rfl) rfl <| Lx.nil <| ?_
    refine Xx.tn (k12 _ _ _ _ ?_)
    refine Cq (fun K13 k13 => ?_)
    refine Cq (fun K14 k14 => ?_)
    refine Cx.drawn (by kernel_rfl) ?_
    refine Dx.p (i := 0) rfl (by kernel_rfl) (mv rfl) rfl ?_
    refine Dx.p (i := 1) rfl (by kernel_rfl) (neS rfl rfl) rfl ?_
    refine Dx.p (i := 2) rfl (by kernel_rfl) (mv rfl) rfl ?_
    refine Xx.ifN (t := 39) rfl (fun h15 => ?_) (fun h15 => ?_)
    ·
     have g1 := h15
     refine Dx.pT (i := 3) rfl rfl rfl rfl (by kernel_rfl) (mv rfl) rfl ?_
     refine Dx.pT (i := 4) rfl rfl rfl rfl (by kernel_rfl) (mv rfl) rfl ?_
     refine Dx.pT (i := 5) rfl rfl rfl rfl (by kernel_rfl) (lenS U9 rfl) rfl ?_
     refine Dx.pT (i := 6) rfl rfl rfl rfl (by kernel_rfl) (Yx.val (add rfl rfl (by first | exact wrap64 (by omega) (by omega) | rfl)) (show _ = i64 ((f.m.now.length + s.length : Nat) : Int) from rfl)) rfl ?_
     refine Dx.pT (i := 8) rfl rfl rfl rfl (by kernel_rfl) (mv rfl) rfl ?_
     refine Dx.pT (i := 11) rfl rfl rfl rfl (by kernel_rfl) (mv rfl) rfl ?_
     refine Dx.pT (i := 12) rfl rfl rfl rfl (by kernel_rfl) (nilc rfl) rfl ?_
     refine Dx.pT (i := 13) rfl rfl rfl rfl (by kernel_rfl) (fa' fo90_1 rfl) rfl ?_
     refine Dx.rT (i := 14) rfl rfl rfl rfl (by kernel_rfl) (Yx.val (ld U3 rfl rfl rfl) (show _ = i64 d.room from rfl)) rfl ?_
     refine Dx.pT (i := 15) rfl rfl rfl rfl (by kernel_rfl) (mv rfl) rfl ?_
     refine Dx.one (i := 7) (by kernel_rfl) ?_
     refine Dstep.oT (i := 7) rfl rfl rfl rfl (Ox.cb rfl rfl rfl (sectors_ct (f.m.now.length + s.length) _ (by omega))) rfl (fun v B' H' hΦ hB => ?_)
     obtain ⟨rfl, rfl, Y⟩ := hΦ; have E := Y.symm; subst E; clear hB
     refine ⟨Jy (Jt) (Yx.val (ld U3 rfl rfl rfl) (show _ = i64 d.room from rfl)), ?_⟩
     refine Dx.one (i := 9) (by kernel_rfl) ?_
     refine Dstep.oT (i := 9) rfl rfl rfl rfl (Ox.cb rfl rfl rfl (sectors_ct f.m.now.length _ (by omega))) rfl (fun v B' H' hΦ hB => ?_)
     obtain ⟨rfl, rfl, Y⟩ := hΦ; have E := Y.symm; subst E; clear hB
     refine ⟨Jy (Jt) (Yx.val (ld U3 rfl rfl rfl) (show _ = i64 d.room from rfl)), ?_⟩
     refine Dx.pT (i := 10) rfl rfl rfl rfl (by kernel_rfl) (sub rfl rfl (by exact wrap64 (by unfold sec; omega) (by unfold sec; omega))) rfl ?_
     refine Dx.one (i := 16) (by kernel_rfl) ?_
     refine Dstep.oT (i := 16) rfl rfl rfl rfl (Ox.co rfl rfl rfl (Used_ct d db _ hF) (hback _)) rfl (fun v B' H' hΦ hB => ?_)
     obtain ⟨rfl, Y, rfl⟩ := hΦ; have E := Y.symm; subst E; clear hB
     rw [show dkH db d * (ex * R) = row db 90 (dcs d) * (imap d.mb (d.fs.map fkv) * (sbuf 59 3 d.Ap d.plan.length d.cp (d.plan.flatMap scs) * (row f.b 109 (fcs f) * (sbuf 5 1 f.An f.m.now.length f.cn (u8s f.m.now) * (sbuf 5 1 f.As f.m.sure.length f.cs (u8s f.m.sure) * (sbuf 3 1 f.Al f.m.loose.length f.cl (nv f.m.loose) * (Rf * R))))))) from (hback _).symm]
     refine ⟨Jy (Jt) (Yx.val (ld U3 rfl rfl rfl) (show _ = i64 d.room from rfl)), ?_⟩
     refine Dx.pT (i := 17) rfl rfl rfl rfl (by kernel_rfl) (sub rfl rfl (by exact wrap64 (by omega) (by omega))) rfl ?_
     refine Dx.pT (i := 18) rfl rfl rfl rfl (by kernel_rfl) (gtr rfl rfl) rfl ?_
     refine Dx.p (i := 19) rfl (by kernel_rfl) (pickT rfl rfl) rfl ?_
     refine Dx.done (by kernel_rfl) ?_
     refine Xx.tn (k14 _ _ _ _ ?_)
     refine Cx.condD rfl (fun h16 => ?_) (fun h16 => ?_)
     ·
      have g2 := h16
      refine Cq (fun K17 k17 => ?_)
      refine Cr <| Lx.y (asg rfl) rfl <| Lx.y (asg rfl) rfl <| Lx.nil <| ?_
      refine Xx.tn (k17 _ _ _ _ ?_)
      refine Cx.ret <| Xx.tr <| ?_
      have hg : s ≠ [] ∧ ((sec ((fileM n d.abs.fs).now.length + s.length) : Nat) : Int) - (sec (fileM n d.abs.fs).now.length : Nat) > d.abs.room - (usedM d.abs.fs : Nat) := by rw [← hfm]; exact ⟨g1, g2⟩
      have hap : appendD d.abs n s = (d.abs, 0, 50) := by unfold appendD; rw [if_neg hdd, if_neg hn, if_pos hg]
      refine Xx.perm (Xx.perm (Xx.drop (p := ex) (H := dkH db d * R) ?_) (star_left _ _ _)) (hback _)
      exact Xx.ret2 rfl rfl rfl ⟨by rw [hap], d, by rw [hap], rfl⟩ (Fl _) rfl
     ·
      have g2 := h16
      refine Cx.skip ?_
      refine Xx.tn (k13 _ _ _ _ ?_)
      refine Cq (fun K18 k18 => ?_)
      refine Cq (fun K19 k19 => ?_)
      refine Cr <| Lx.y (mv rfl) rfl <| ?_
      refine Lx.c rfl rfl rfl (strikes_ct2 d db _ hF) (hback _) rfl ?_
      rintro v1 B1 H1 ⟨rfl, hFf, hTt⟩ hB1
      refine Lx.nil ?_
      refine Xx.tn (k19 _ _ _ _ ?_)
      refine Cx.condB rfl (fun h20 => ?_) (fun h20 => ?_)
      ·
       have g3 := h20
       obtain ⟨d2, hd2, rfl⟩ := hTt g3
       refine Cq (fun K21 k21 => ?_)
       refine Cr <| Lx.y (asg rfl) rfl <| Lx.y (asg rfl) rfl <| Lx.nil <| ?_
       refine Xx.tn (k21 _ _ _ _ ?_)
       refine Cx.ret <| Xx.tr <| ?_
       have hg : ¬ (s ≠ [] ∧ ((sec ((fileM n d.abs.fs).now.length + s.length) : Nat) : Int) - (sec (fileM n d.abs.fs).now.length : Nat) > d.abs.room - (usedM d.abs.fs : Nat)) := fun h => by rw [← hfm] at h; exact g2 h.2
       have hap : appendD d.abs n s = ((strikesD d.abs).1, 0, 7) := by unfold appendD; rw [if_neg hdd, if_neg hn, if_neg hg, if_pos g3]
       refine Xx.perm (Xx.drop (p := ex) (H := dkH db d2 * R) ?_) (star_left _ _ _)
       exact Xx.ret2 rfl rfl rfl ⟨by rw [hap], d2, by rw [hap]; exact hd2, rfl⟩ hB1 rfl
      ·
       have g3 := h20
       obtain ⟨hs1, rfl⟩ := hFf g3
       rw [show dkH db { d with ch := d.ch + 1 } * (ex * R) = row db 90 (dcs { d with ch := d.ch + 1 }) * (imap d.mb (d.fs.map fkv) * (sbuf 59 3 d.Ap d.plan.length d.cp (d.plan.flatMap scs) * (row f.b 109 (fcs f) * (sbuf 5 1 f.An f.m.now.length f.cn (u8s f.m.now) * (sbuf 5 1 f.As f.m.sure.length f.cs (u8s f.m.sure) * (sbuf 3 1 f.Al f.m.loose.length f.cl (nv f.m.loose) * (Rf * R))))))) from (hback _).symm]
       refine Cx.skip ?_
       refine Xx.tn (k18 _ _ _ _ ?_)
       refine Cq (fun K22 k22 => ?_)
       refine Cr <| Lx.y (mv rfl) rfl <| Lx.y (nilc rfl) rfl <| Lx.y (fa' fo90_0 rfl) rfl <| Lx.y (ld U88 rfl rfl rfl) rfl <| Lx.y (mv rfl) rfl <| Lx.y (mv rfl) rfl <| ?_
       refine Lx.o0 (stM U88 U3 rfl rfl rfl) (fun v B' H' hΦ hB => ?_)
       obtain ⟨hBB, rfl⟩ := hΦ
       have hBB2 := hBB.symm
       subst hBB2
       clear hB
       refine Lx.nil ?_
       refine Xx.tn (k22 _ _ _ _ ?_)
       refine Cq (fun K23 k23 => ?_)
       refine Cr <| Lx.y (mv rfl) rfl <| Lx.y (mv rfl) rfl <| Lx.y (nilc rfl) rfl <| Lx.y (fa' fo109_0 rfl) rfl <| Lx.y (Yx.val (ld U107 rfl rfl rfl) (show _ = Value.slice f.An f.m.now.length f.cn from rfl)) rfl <| Lx.y (mv rfl) rfl <| ?_
       refine Lx.o (appT (et := 5) (A := f.An) (f.m.now.length + s.length) (u8s (f.m.now ++ s)) U107 U9 ti5 rfl rfl (by omega) (by omega) rfl (by rw [u8s_app])) rfl (fun v B' H' hΦ hB => ?_)
       obtain ⟨A2, c2, rfl, hA2, hc2, hBB, rfl⟩ := hΦ
       have hBB2 := hBB.symm
       subst hBB2
       clear hB
       refine Lx.y (nilc rfl) rfl <| Lx.y (fa' fo109_0 rfl) rfl <| ?_
       refine Lx.st (stO U107 sz107 rfl rfl rfl (by show 0 < 3; omega) rfl) ?_
       refine Lx.nil ?_
       refine Xx.tn (k23 _ _ _ _ ?_)
       refine Cq (fun K24 k24 => ?_)
       refine Cr <| Lx.y (mv rfl) rfl <| Lx.y (mv rfl) rfl <| Lx.y (mv rfl) rfl <| Lx.y (mv rfl) rfl <| Lx.y (lenS U9 rfl) rfl <| Lx.y (Yx.val (add rfl rfl (by first | exact wrap64 (by omega) (by omega) | rfl)) (show _ = i64 ((f.m.now.length + s.length : Nat) : Int) from rfl)) rfl <| ?_
       refine Lx.c rfl rfl rfl (touch_ct ⟨⟨n, f.m.now ++ s, f.m.sure, f.m.loose⟩, f.b, A2, c2, f.As, f.cs, f.Al, f.cl⟩ f.m.now.length (f.m.now.length + s.length) _ hfo.1 (by have := hfo.loose; show f.m.loose.length ≤ _; omega) (by omega) (by omega)) ((show _ = fiH ⟨⟨n, f.m.now ++ s, f.m.sure, f.m.loose⟩, f.b, A2, c2, f.As, f.cs, f.Al, f.cl⟩ * (row db 90 (dcs { d with ch := d.ch + 1 }) * (imap d.mb (mset n (.pointer (some ⟨f.b, 0, none⟩)) (d.fs.map fkv)) * (sbuf 59 3 d.Ap d.plan.length d.cp (d.plan.flatMap scs) * (Rf * R)))) by unfold fiH fcs; simp only [List.length_append]; generalize f.m.now.length + s.length = q; ac_rfl)) rfl ?_
       rintro v2 B2 H2 ⟨hBB, rfl, Al9, cl9, rfl⟩ hB2
       refine Lx.nil ?_
       refine Xx.tn (k24 _ _ _ _ ?_)
       refine Cq (fun K25 k25 => ?_)
       refine Cr <| Lx.y (mv rfl) rfl <| Lx.y (asg rfl) rfl <| Lx.y (asg rfl) rfl <| Lx.nil <| ?_
       refine Xx.tn (k25 _ _ _ _ ?_)
       refine Cx.ret ?_
       have hg : ¬ (s ≠ [] ∧ ((sec ((fileM n d.abs.fs).now.length + s.length) : Nat) : Int) - (sec (fileM n d.abs.fs).now.length : Nat) > d.abs.room - (usedM d.abs.fs : Nat)) := fun h => by rw [← hfm] at h; exact g2 h.2
       have hap : appendD d.abs n s = ({ d.abs with ch := d.ch + 1, fs := setM ⟨n, f.m.now ++ s, f.m.sure, touchL f.m.loose f.m.now.length (f.m.now.length + s.length)⟩ d.abs.fs }, ((f.m.now.length : Nat) : Int), 0) := by
        unfold appendD
        rw [if_neg hdd, if_neg hn, if_neg hg, if_neg (by rw [g3]; decide), hs1, ← hfm]
       have e1 := hset ⟨⟨n, f.m.now ++ s, f.m.sure, touchL f.m.loose f.m.now.length (f.m.now.length + s.length)⟩, f.b, A2, c2, f.As, f.cs, Al9, cl9⟩ rfl
       have e2 := mset_set ⟨⟨n, f.m.now ++ s, f.m.sure, touchL f.m.loose f.m.now.length (f.m.now.length + s.length)⟩, f.b, A2, c2, f.As, f.cs, Al9, cl9⟩ d.fs
       exact Xx.ret2 rfl rfl rfl ⟨by rw [hap], { d with ch := d.ch + 1, fs := setF ⟨⟨n, f.m.now ++ s, f.m.sure, touchL f.m.loose f.m.now.length (f.m.now.length + s.length)⟩, f.b, A2, c2, f.As, f.cs, Al9, cl9⟩ d.fs }, by rw [hap]; unfold Dk.abs; simp only [setF_m], rfl⟩ (by first | exact hB1 | exact Fz hB1 hB2) (by show _ = (row db 90 (dcs { d with ch := d.ch + 1 }) * (imap d.mb ((setF ⟨⟨n, f.m.now ++ s, f.m.sure, touchL f.m.loose f.m.now.length (f.m.now.length + s.length)⟩, f.b, A2, c2, f.As, f.cs, Al9, cl9⟩ d.fs).map fkv) * (sbuf 59 3 d.Ap d.plan.length d.cp (d.plan.flatMap scs) * fisH (setF ⟨⟨n, f.m.now ++ s, f.m.sure, touchL f.m.loose f.m.now.length (f.m.now.length + s.length)⟩, f.b, A2, c2, f.As, f.cs, Al9, cl9⟩ d.fs)))) * R; rw [e1, ← e2]; ac_rfl)
    ·
     have g1 := h15
     refine Dx.pF (i := 3) rfl (fun _ h => by cases h) rfl rfl rfl (by kernel_rfl) rfl ?_
     refine Dx.pF (i := 4) rfl (fun _ h => by cases h) rfl rfl rfl (by kernel_rfl) rfl ?_
     refine Dx.pF (i := 5) rfl (fun _ h => by cases h) rfl rfl rfl (by kernel_rfl) rfl ?_
     refine Dx.pF (i := 6) rfl (fun _ h => by cases h) rfl rfl rfl (by kernel_rfl) rfl ?_
     refine Dx.pF (i := 7) rfl (fun _ h => by cases h) rfl rfl rfl (by kernel_rfl) rfl ?_
     refine Dx.pF (i := 8) rfl (fun _ h => by cases h) rfl rfl rfl (by kernel_rfl) rfl ?_
     refine Dx.pF (i := 9) rfl (fun _ h => by cases h) rfl rfl rfl (by kernel_rfl) rfl ?_
     refine Dx.pF (i := 10) rfl (fun _ h => by cases h) rfl rfl rfl (by kernel_rfl) rfl ?_
     refine Dx.pF (i := 11) rfl (fun _ h => by cases h) rfl rfl rfl (by kernel_rfl) rfl ?_
     refine Dx.pF (i := 12) rfl (fun _ h => by cases h) rfl rfl rfl (by kernel_rfl) rfl ?_
     refine Dx.pF (i := 13) rfl (fun _ h => by cases h) rfl rfl rfl (by kernel_rfl) rfl ?_
     refine Dx.pF (i := 14) rfl (fun _ h => by cases h) rfl rfl rfl (by kernel_rfl) rfl ?_
     refine Dx.pF (i := 15) rfl (fun _ h => by cases h) rfl rfl rfl (by kernel_rfl) rfl ?_
     refine Dx.pF (i := 16) rfl (fun _ h => by cases h) rfl rfl rfl (by kernel_rfl) rfl ?_
     refine Dx.pF (i := 17) rfl (fun _ h => by cases h) rfl rfl rfl (by kernel_rfl) rfl ?_
     refine Dx.pF (i := 18) rfl (fun _ h => by cases h) rfl rfl rfl (by kernel_rfl) rfl ?_
     refine Dx.p (i := 19) rfl (by kernel_rfl) (pickF rfl rfl) rfl ?_
     refine Dx.done (by kernel_rfl) ?_
     refine Xx.tn (k14 _ _ _ _ ?_)
     refine Cx.condF rfl <| Cx.skip <| ?_
     refine Xx.tn (k13 _ _ _ _ ?_)
     refine Cq (fun K26 k26 => ?_)
     refine Cq (fun K27 k27 => ?_)
     refine Cr <| Lx.y (mv rfl) rfl <| ?_
     refine Lx.c rfl rfl rfl (strikes_ct2 d db _ hF) (hback _) rfl ?_
     rintro v1 B1 H1 ⟨rfl, hFf, hTt⟩ hB1
     refine Lx.nil ?_
     refine Xx.tn (k27 _ _ _ _ ?_)
     refine Cx.condB rfl (fun h28 => ?_) (fun h28 => ?_)
     ·
      have g3 := h28
      obtain ⟨d2, hd2, rfl⟩ := hTt g3
      refine Cq (fun K29 k29 => ?_)
      refine Cr <| Lx.y (asg rfl) rfl <| Lx.y (asg rfl) rfl <| Lx.nil <| ?_
      refine Xx.tn (k29 _ _ _ _ ?_)
      refine Cx.ret <| Xx.tr <| ?_
      have hg : ¬ (s ≠ [] ∧ ((sec ((fileM n d.abs.fs).now.length + s.length) : Nat) : Int) - (sec (fileM n d.abs.fs).now.length : Nat) > d.abs.room - (usedM d.abs.fs : Nat)) := fun h => h.1 g1
      have hap : appendD d.abs n s = ((strikesD d.abs).1, 0, 7) := by unfold appendD; rw [if_neg hdd, if_neg hn, if_neg hg, if_pos g3]
      refine Xx.perm (Xx.drop (p := ex) (H := dkH db d2 * R) ?_) (star_left _ _ _)
      exact Xx.ret2 rfl rfl rfl ⟨by rw [hap], d2, by rw [hap]; exact hd2, rfl⟩ hB1 rfl
     ·
      have g3 := h28
      obtain ⟨hs1, rfl⟩ := hFf g3
      rw [show dkH db { d with ch := d.ch + 1 } * (ex * R) = row db 90 (dcs { d with ch := d.ch + 1 }) * (imap d.mb (d.fs.map fkv) * (sbuf 59 3 d.Ap d.plan.length d.cp (d.plan.flatMap scs) * (row f.b 109 (fcs f) * (sbuf 5 1 f.An f.m.now.length f.cn (u8s f.m.now) * (sbuf 5 1 f.As f.m.sure.length f.cs (u8s f.m.sure) * (sbuf 3 1 f.Al f.m.loose.length f.cl (nv f.m.loose) * (Rf * R))))))) from (hback _).symm]
      refine Cx.skip ?_
      refine Xx.tn (k26 _ _ _ _ ?_)
      refine Cq (fun K30 k30 => ?_)
      refine Cr <| Lx.y (mv rfl) rfl <| Lx.y (nilc rfl) rfl <| Lx.y (fa' fo90_0 rfl) rfl <| Lx.y (ld U88 rfl rfl rfl) rfl <| Lx.y (mv rfl) rfl <| Lx.y (mv rfl) rfl <| ?_
      refine Lx.o0 (stM U88 U3 rfl rfl rfl) (fun v B' H' hΦ hB => ?_)
      obtain ⟨hBB, rfl⟩ := hΦ
      have hBB2 := hBB.symm
      subst hBB2
      clear hB
      refine Lx.nil ?_
      refine Xx.tn (k30 _ _ _ _ ?_)
      refine Cq (fun K31 k31 => ?_)
      refine Cr <| Lx.y (mv rfl) rfl <| Lx.y (mv rfl) rfl <| Lx.y (nilc rfl) rfl <| Lx.y (fa' fo109_0 rfl) rfl <| Lx.y (Yx.val (ld U107 rfl rfl rfl) (show _ = Value.slice f.An f.m.now.length f.cn from rfl)) rfl <| Lx.y (mv rfl) rfl <| ?_
      refine Lx.o (appT (et := 5) (A := f.An) (f.m.now.length + s.length) (u8s (f.m.now ++ s)) U107 U9 ti5 rfl rfl (by omega) (by omega) rfl (by rw [u8s_app])) rfl (fun v B' H' hΦ hB => ?_)
      obtain ⟨A2, c2, rfl, hA2, hc2, hBB, rfl⟩ := hΦ
      have hBB2 := hBB.symm
      subst hBB2
      clear hB
      refine Lx.y (nilc rfl) rfl <| Lx.y (fa' fo109_0 rfl) rfl <| ?_
      refine Lx.st (stO U107 sz107 rfl rfl rfl (by show 0 < 3; omega) rfl) ?_
      refine Lx.nil ?_
      refine Xx.tn (k31 _ _ _ _ ?_)
      refine Cq (fun K32 k32 => ?_)
      refine Cr <| Lx.y (mv rfl) rfl <| Lx.y (mv rfl) rfl <| Lx.y (mv rfl) rfl <| Lx.y (mv rfl) rfl <| Lx.y (lenS U9 rfl) rfl <| Lx.y (Yx.val (add rfl rfl (by first | exact wrap64 (by omega) (by omega) | rfl)) (show _ = i64 ((f.m.now.length + s.length : Nat) : Int) from rfl)) rfl <| ?_
      refine Lx.c rfl rfl rfl (touch_ct ⟨⟨n, f.m.now ++ s, f.m.sure, f.m.loose⟩, f.b, A2, c2, f.As, f.cs, f.Al, f.cl⟩ f.m.now.length (f.m.now.length + s.length) _ hfo.1 (by have := hfo.loose; show f.m.loose.length ≤ _; omega) (by omega) (by omega)) ((show _ = fiH ⟨⟨n, f.m.now ++ s, f.m.sure, f.m.loose⟩, f.b, A2, c2, f.As, f.cs, f.Al, f.cl⟩ * (row db 90 (dcs { d with ch := d.ch + 1 }) * (imap d.mb (mset n (.pointer (some ⟨f.b, 0, none⟩)) (d.fs.map fkv)) * (sbuf 59 3 d.Ap d.plan.length d.cp (d.plan.flatMap scs) * (Rf * R)))) by unfold fiH fcs; simp only [List.length_append]; generalize f.m.now.length + s.length = q; ac_rfl)) rfl ?_
      rintro v2 B2 H2 ⟨hBB, rfl, Al9, cl9, rfl⟩ hB2
      refine Lx.nil ?_
      refine Xx.tn (k32 _ _ _ _ ?_)
      refine Cq (fun K33 k33 => ?_)
      refine Cr <| Lx.y (mv rfl) rfl <| Lx.y (asg rfl) rfl <| Lx.y (asg rfl) rfl <| Lx.nil <| ?_
      refine Xx.tn (k33 _ _ _ _ ?_)
      refine Cx.ret ?_
      have hg : ¬ (s ≠ [] ∧ ((sec ((fileM n d.abs.fs).now.length + s.length) : Nat) : Int) - (sec (fileM n d.abs.fs).now.length : Nat) > d.abs.room - (usedM d.abs.fs : Nat)) := fun h => h.1 g1
      have hap : appendD d.abs n s = ({ d.abs with ch := d.ch + 1, fs := setM ⟨n, f.m.now ++ s, f.m.sure, touchL f.m.loose f.m.now.length (f.m.now.length + s.length)⟩ d.abs.fs }, ((f.m.now.length : Nat) : Int), 0) := by
       unfold appendD
       rw [if_neg hdd, if_neg hn, if_neg hg, if_neg (by rw [g3]; decide), hs1, ← hfm]
      have e1 := hset ⟨⟨n, f.m.now ++ s, f.m.sure, touchL f.m.loose f.m.now.length (f.m.now.length + s.length)⟩, f.b, A2, c2, f.As, f.cs, Al9, cl9⟩ rfl
      have e2 := mset_set ⟨⟨n, f.m.now ++ s, f.m.sure, touchL f.m.loose f.m.now.length (f.m.now.length + s.length)⟩, f.b, A2, c2, f.As, f.cs, Al9, cl9⟩ d.fs
      exact Xx.ret2 rfl rfl rfl ⟨by rw [hap], { d with ch := d.ch + 1, fs := setF ⟨⟨n, f.m.now ++ s, f.m.sure, touchL f.m.loose f.m.now.length (f.m.now.length + s.length)⟩, f.b, A2, c2, f.As, f.cs, Al9, cl9⟩ d.fs }, by rw [hap]; unfold Dk.abs; simp only [setF_m], rfl⟩ (by first | exact hB1 | exact Fz hB1 hB2) (by show _ = (row db 90 (dcs { d with ch := d.ch + 1 }) * (imap d.mb ((setF ⟨⟨n, f.m.now ++ s, f.m.sure, touchL f.m.loose f.m.now.length (f.m.now.length + s.length)⟩, f.b, A2, c2, f.As, f.cs, Al9, cl9⟩ d.fs).map fkv) * (sbuf 59 3 d.Ap d.plan.length d.cp (d.plan.flatMap scs) * fisH (setF ⟨⟨n, f.m.now ++ s, f.m.sure, touchL f.m.loose f.m.now.length (f.m.now.length + s.length)⟩, f.b, A2, c2, f.As, f.cs, Al9, cl9⟩ d.fs)))) * R; rw [e1, ← e2]; ac_rfl)
end DkH
end Go.Proofs.YthlfffbcligocaaGreat
namespace Go.Proofs.YthlfffbcligocaaGreat
open Go.SL Go.RowKit
set_option maxRecDepth 100000
open DkA DkB DkC DkD DkE DkF DkG DkH
namespace DkI
theorem sz3 : (Tryz.prog.info? 3).map (·.size) = some 1 := by kernel_rfl
theorem sz5 : (Tryz.prog.info? 5).map (·.size) = some 1 := by kernel_rfl
theorem sz59 : (Tryz.prog.info? 59).map (·.size) = some 3 := by kernel_rfl
theorem ti3 : TI Tryz.prog 3 [.int .i64 0] 1 8 := TI.of (by kernel_rfl) rfl rfl
theorem ti5 : TI Tryz.prog 5 [.int .u8 0] 1 1 := TI.of (by kernel_rfl) rfl rfl
theorem ti109 : TI Tryz.prog 109 [.slice none 0 0, .slice none 0 0, .slice none 0 0] 3 72 := TI.of (by kernel_rfl) rfl rfl
theorem fo109_0 : FO Tryz.prog 109 0 0 1 false := FO.of U109 rfl rfl (by kernel_rfl) U107 rfl rfl
theorem b2S {P : Program} {ρ : Sl} {ty src dst et : TypeId} {x : Operand} {l : List UInt8} {A : Option Addr} {n c N0 : Nat} {B : Frag} {H R : HP} (hs : P.underlying src = some (.slice et)) (he' : P.underlying et = some (.int .u8)) (hd : P.underlying dst = some .string) (hx : ev ρ x = some (.slice A n c)) [hp : PickS H A et 1 n c (u8s l) R] : Yx P (.convert src dst x) ty ρ (St N0 B H) (str l) :=
  ⟨fun _ h => (by cases h), fun f w dst' pos after guard he s => (b2s hs he' hd hx (Src'.sbuf (et := et) (c := c) (by
    rcases (s.of_eq hp.eq).cases_sbuf with ⟨e1, e2, _, e4, _⟩ | ⟨b, sp, e1, e2, _⟩
    · exact .inl ⟨e1, e2, e4⟩
    · exact .inr ⟨b, e1, e2⟩)) hp.eq).2 f w dst' pos after guard he s⟩
def errM (D : Dm) (n : Int) : Int := if D.dead = true then 7 else match findM n D.fs with
  | none => 2
  | some _ => 0
def fileP (d : Dk) (n : Int) : Option Addr := if d.dead = true then none else (findF n d.fs).map fun f => ⟨f.b, 0, none⟩
theorem fileV_eq (d : Dk) (n : Int) : fileV d n = .tuple #[.pointer (fileP d n), i64 (errM d.abs n)] := by
  unfold fileV fileP errM
  rw [show d.abs.dead = d.dead from rfl]
  split
  · rfl
  · have := findF_m n d.fs
    rw [show d.abs.fs = d.fs.map (·.m) from rfl, ← this]
    cases findF n d.fs <;> rfl
theorem file_ok {d : Dk} {n : Int} (h : errM d.abs n = 0) : d.dead = false ∧ ∃ f, findF n d.fs = some f ∧ fileP d n = some ⟨f.b, 0, none⟩ ∧ fileM n d.abs.fs = f.m := by
  unfold errM at h
  split at h
  · cases h
  · rename_i hd
    have hd' : d.dead = false := by
      cases hq : d.dead with
      | false => rfl
      | true => exact absurd hq hd
    have hm := findF_m n d.fs
    rw [show d.abs.fs = d.fs.map (·.m) from rfl, ← hm] at h
    cases hq : findF n d.fs with
    | none => rw [hq] at h; cases h
    | some f =>
      rw [hq] at hm
      exact ⟨hd', f, rfl, by unfold fileP; rw [if_neg (by rw [hd']; decide), hq]; rfl, by unfold fileM; rw [show d.abs.fs = d.fs.map (·.m) from rfl, ← hm]; rfl⟩
theorem file_ct2 (d : Dk) (db : Nat) (n : Int) (B : Frag) : CtC Tryz.prog 60 [.pointer (some ⟨db, 0, none⟩), i64 n] B (dkH db d) (.tuple #[.pointer (fileP d n), i64 (errM d.abs n)]) (dkH db d) := by
  rw [← fileV_eq]; exact file_ct d db n B
theorem dkH_at {d : Dk} {db : Nat} {n : Int} {f : Fi} (h : findF n d.fs = some f) : ∃ Rf, dkH db d = row db 90 (dcs d) * (imap d.mb (d.fs.map fkv) * (sbuf 59 3 d.Ap d.plan.length d.cp (d.plan.flatMap scs) * (fiH f * Rf))) ∧ (∀ f' : Fi, f'.m.n = n → fisH (setF f' d.fs) = fiH f' * Rf) ∧ fisH d.fs = fiH f * Rf ∧ fisH (delF n d.fs) = Rf := by
  obtain ⟨Rf, e1, e2, e3⟩ := fisH_find h
  exact ⟨Rf, by unfold dkH; rw [e1], e2, e1, e3⟩
set_option maxHeartbeats 2000000 in
theorem Read_ct (d : Dk) (db : Nat) (n : Int) (B : Frag) (hF : d.abs.Fit) : CtC Tryz.prog 73 [.pointer (some ⟨db, 0, none⟩), i64 n] B (dkH db d) (.tuple #[str (if errM d.abs n = 0 then (fileM n d.abs.fs).now else []), i64 (errM d.abs n)]) (dkH db d) := by
 refine Ct.of_body Tryz.func73 rfl (nt := 22) rfl (by kernel_rfl) rfl ?_
 intro N0 w0 R
 refine Cq (fun K1 k1 => ?_)
 refine Cr <| Lx.y (asg rfl) rfl <| Lx.y (asg rfl) rfl <| Lx.nil <| ?_
 refine Xx.tn (k1 _ _ _ _ ?_)
 refine Cq (fun K2 k2 => ?_)
 refine Cr <| Lx.y (mv rfl) rfl <| Lx.y (mv rfl) rfl <| ?_
 refine Lx.co rfl rfl rfl (file_ct2 d db n _) (rfl) rfl ?_
 refine Lx.y (mv rfl) rfl <| Lx.y (ext rfl rfl) rfl <| Lx.y (ext rfl rfl) rfl <| Lx.y (asg rfl) rfl <| Lx.y (asg rfl) rfl <| Lx.nil <| ?_
 refine Xx.tn (k2 _ _ _ _ ?_)
 refine Cq (fun K3 k3 => ?_)
 refine Cq (fun K4 k4 => ?_)
 refine Cr <| Lx.y (mv rfl) rfl <| Lx.y (neI rfl rfl) rfl <| Lx.nil <| ?_
 refine Xx.tn (k4 _ _ _ _ ?_)
 refine Cx.condN rfl (fun h5 => ?_) (fun h5 => ?_)
 ·
  have he := h5
  refine Cq (fun K6 k6 => ?_)
  refine Cr <| Lx.y (mv rfl) rfl <| Lx.y (asg rfl) rfl <| Lx.y (asg rfl) rfl <| Lx.nil <| ?_
  refine Xx.tn (k6 _ _ _ _ ?_)
  refine Cx.ret <| Xx.tr <| ?_
  exact Xx.ret2 rfl rfl rfl ⟨by rw [if_neg he]; rfl, rfl, rfl⟩ (Fl _) rfl
 ·
  have he := h5
  obtain ⟨hd, f, hff, hfp, hfm⟩ := file_ok he
  obtain ⟨Rf, hH, hset, hfs, hdel⟩ := dkH_at (db := db) hff
  rw [hfp, hH, show fiH f = row f.b 109 (fcs f) * (sbuf 5 1 f.An f.m.now.length f.cn (u8s f.m.now) * (sbuf 5 1 f.As f.m.sure.length f.cs (u8s f.m.sure) * sbuf 3 1 f.Al f.m.loose.length f.cl (nv f.m.loose))) from rfl]
  simp only [star_assoc]
  refine Cx.skip ?_
  refine Xx.tn (k3 _ _ _ _ ?_)
  refine Cq (fun K7 k7 => ?_)
  refine Cr <| Lx.y (mv rfl) rfl <| Lx.y (nilc rfl) rfl <| Lx.y (fa' fo109_0 rfl) rfl <| Lx.y (Yx.val (ld U107 rfl rfl rfl) (show _ = Value.slice f.An f.m.now.length f.cn from rfl)) rfl <| Lx.y (b2S (A := f.An) U107 U5 U9 rfl) rfl <| Lx.y (asg rfl) rfl <| Lx.y (asg rfl) rfl <| Lx.nil <| ?_
  refine Xx.tn (k7 _ _ _ _ ?_)
  refine Cx.ret ?_
  exact Xx.ret2 rfl rfl rfl ⟨by rw [if_pos he, hfm, he], rfl, rfl⟩ (Fl _) (by rw [hH]; unfold fiH; ac_rfl)
end DkI
end Go.Proofs.YthlfffbcligocaaGreat
namespace Go.Proofs.YthlfffbcligocaaGreat
open Go.SL Go.RowKit
set_option maxRecDepth 100000
open DkA DkB DkC DkD DkE DkF DkG DkH DkI
namespace DkJ
theorem sz3 : (Tryz.prog.info? 3).map (·.size) = some 1 := by kernel_rfl
theorem sz5 : (Tryz.prog.info? 5).map (·.size) = some 1 := by kernel_rfl
theorem sz26 : (Tryz.prog.info? 26).map (·.size) = some 1 := by kernel_rfl
theorem sz59 : (Tryz.prog.info? 59).map (·.size) = some 3 := by kernel_rfl
theorem sz107 : (Tryz.prog.info? 107).map (·.size) = some 1 := by kernel_rfl
theorem ti3 : TI Tryz.prog 3 [.int .i64 0] 1 8 := TI.of (by kernel_rfl) rfl rfl
theorem ti5 : TI Tryz.prog 5 [.int .u8 0] 1 1 := TI.of (by kernel_rfl) rfl rfl
theorem ti109 : TI Tryz.prog 109 [.slice none 0 0, .slice none 0 0, .slice none 0 0] 3 72 := TI.of (by kernel_rfl) rfl rfl
theorem fo109_0 : FO Tryz.prog 109 0 0 1 false := FO.of U109 rfl rfl (by kernel_rfl) U107 rfl rfl
theorem fo109_1 : FO Tryz.prog 109 1 1 1 false := FO.of U109 rfl rfl (by kernel_rfl) U107 rfl rfl
theorem fo109_2 : FO Tryz.prog 109 2 2 1 false := FO.of U109 rfl rfl (by kernel_rfl) U26 rfl rfl
def syncD (D : Dm) (n : Int) : Dm × Int := if errM D n ≠ 0 then (D, errM D n) else if (strikesD D).2 = true then ((strikesD D).1, 7)
  else ({ (strikesD D).1 with fs := setM ⟨n, (fileM n D.fs).now, (fileM n D.fs).now, []⟩ (strikesD D).1.fs }, 0)
set_option maxHeartbeats 2000000 in
theorem Sync_ct (d : Dk) (db : Nat) (n : Int) (B : Frag) (hF : d.abs.Fit) : Ct Tryz.prog 20 [.pointer (some ⟨db, 0, none⟩), i64 n] B (dkH db d) (fun v B' H' => v = i64 (syncD d.abs n).2 ∧ ∃ d' : Dk, d'.abs = (syncD d.abs n).1 ∧ H' = dkH db d') := by
 refine Ct.of_body Tryz.func20 rfl (nt := 29) rfl (by kernel_rfl) rfl ?_
 intro N0 w0 R
 refine Cq (fun K1 k1 => ?_)
 refine Cr <| Lx.y (asg rfl) rfl <| Lx.nil <| ?_
 refine Xx.tn (k1 _ _ _ _ ?_)
 refine Cq (fun K2 k2 => ?_)
 refine Cr <| Lx.y (mv rfl) rfl <| Lx.y (mv rfl) rfl <| ?_
 refine Lx.co rfl rfl rfl (file_ct2 d db n _) (rfl) rfl ?_
 refine Lx.y (mv rfl) rfl <| Lx.y (ext rfl rfl) rfl <| Lx.y (ext rfl rfl) rfl <| Lx.y (asg rfl) rfl <| Lx.y (asg rfl) rfl <| Lx.nil <| ?_
 refine Xx.tn (k2 _ _ _ _ ?_)
 refine Cq (fun K3 k3 => ?_)
 refine Cq (fun K4 k4 => ?_)
 refine Cr <| Lx.y (mv rfl) rfl <| Lx.y (neI rfl rfl) rfl <| Lx.nil <| ?_
 refine Xx.tn (k4 _ _ _ _ ?_)
 refine Cx.condN rfl (fun h5 => ?_) (fun h5 => ?_)
 ·
  have he := h5
  have hap : syncD d.abs n = (d.abs, errM d.abs n) := by unfold syncD; rw [if_pos he]
  refine Cq (fun K6 k6 => ?_)
  refine Cr <| Lx.y (mv rfl) rfl <| Lx.y (asg rfl) rfl <| Lx.nil <| ?_
  refine Xx.tn (k6 _ _ _ _ ?_)
  refine Cx.ret <| Xx.tr <| ?_
  exact Xx.ret1 rfl rfl ⟨by rw [hap]; rfl, d, by rw [hap], rfl⟩ (Fl _) rfl
 ·
  have he := h5
  obtain ⟨hd, f, hff, hfp, hfm⟩ := file_ok he
  rw [hfp]
  refine Cx.skip ?_
  refine Xx.tn (k3 _ _ _ _ ?_)
  refine Cq (fun K7 k7 => ?_)
  refine Cq (fun K8 k8 => ?_)
  refine Cr <| Lx.y (mv rfl) rfl <| ?_
  refine Lx.c rfl rfl rfl (strikes_ct2 d db _ hF) (rfl) rfl ?_
  rintro v1 B1 H1 ⟨rfl, hFf, hTt⟩ hB1
  refine Lx.nil ?_
  refine Xx.tn (k8 _ _ _ _ ?_)
  refine Cx.condB rfl (fun h9 => ?_) (fun h9 => ?_)
  ·
   have g3 := h9
   obtain ⟨d2, hd2, rfl⟩ := hTt g3
   have hap : syncD d.abs n = ((strikesD d.abs).1, 7) := by unfold syncD; rw [if_neg (fun h => h he), if_pos g3]
   refine Cq (fun K10 k10 => ?_)
   refine Cr <| Lx.y (asg rfl) rfl <| Lx.nil <| ?_
   refine Xx.tn (k10 _ _ _ _ ?_)
   refine Cx.ret <| Xx.tr <| ?_
   exact Xx.ret1 rfl rfl ⟨by rw [hap], d2, by rw [hap]; exact hd2, rfl⟩ hB1 rfl
  ·
   have g3 := h9
   obtain ⟨hs1, rfl⟩ := hFf g3
   obtain ⟨Rf, hH, hset, hfs, hdel⟩ := dkH_at (d := { d with ch := d.ch + 1 }) (db := db) (n := n) (f := f) hff
   have hfo : f.m.Ok := by rw [← hfm]; exact fileM_ok fun g hg => hF.ok hg
   have hfo3 := hfo.2.2.1
   rw [hH, show fiH f = row f.b 109 (fcs f) * (sbuf 5 1 f.An f.m.now.length f.cn (u8s f.m.now) * (sbuf 5 1 f.As f.m.sure.length f.cs (u8s f.m.sure) * sbuf 3 1 f.Al f.m.loose.length f.cl (nv f.m.loose))) from rfl]
   simp only [star_assoc]
   refine Cx.skip ?_
   refine Xx.tn (k7 _ _ _ _ ?_)
   refine Cq (fun K11 k11 => ?_)
   refine Cr <| Lx.y (mv rfl) rfl <| Lx.y (mv rfl) rfl <| Lx.y (mv rfl) rfl <| Lx.y (nilc rfl) rfl <| Lx.y (fa' fo109_0 rfl) rfl <| Lx.y (Yx.val (ld U107 rfl rfl rfl) (show _ = Value.slice f.An f.m.now.length f.cn from rfl)) rfl <| ?_
   refine Lx.c rfl rfl rfl (ClB_ct f.An f.m.now.length f.cn (u8s f.m.now) _ (u8_all _) (by omega) (by omega)) (pickS _) rfl ?_
   rintro v3 B3 H3 ⟨hBB, A9, c9, rfl, rfl⟩ hB3
   subst hBB
   rename Frag => B3
   clear hB3
   simp only [star_assoc]
   refine Lx.y (nilc rfl) rfl <| Lx.y (fa' fo109_1 rfl) rfl <| ?_
   refine Lx.st (stO U107 sz107 rfl rfl rfl (by show 1 < 3; omega) rfl) ?_
   refine Lx.y (nilc rfl) rfl <| Lx.y (fa' fo109_2 rfl) rfl <| ?_
   refine Lx.st (stO U26 sz26 rfl rfl rfl (by show 2 < 3; omega) rfl) ?_
   refine Lx.nil ?_
   refine Xx.tn (k11 _ _ _ _ ?_)
   refine Cq (fun K12 k12 => ?_)
   refine Cr <| Lx.y (asg rfl) rfl <| Lx.nil <| ?_
   refine Xx.tn (k12 _ _ _ _ ?_)
   refine Cx.ret ?_
   have hap : syncD d.abs n = ({ d.abs with ch := d.ch + 1, fs := setM ⟨n, f.m.now, f.m.now, []⟩ d.abs.fs }, 0) := by
    unfold syncD
    rw [if_neg (fun h => h he), if_neg (by rw [g3]; decide), hs1, hfm]
   have hfn := (findF_mem hff).2
   have e1 := hset ⟨⟨n, f.m.now, f.m.now, []⟩, f.b, f.An, f.cn, A9, c9, none, 0⟩ rfl
   have e2 : (setF ⟨⟨n, f.m.now, f.m.now, []⟩, f.b, f.An, f.cn, A9, c9, none, 0⟩ d.fs).map fkv = d.fs.map fkv := setF_same hff rfl rfl
   have efi : fiH ⟨⟨n, f.m.now, f.m.now, []⟩, f.b, f.An, f.cn, A9, c9, none, 0⟩ = row f.b 109 [.slice f.An f.m.now.length f.cn, .slice A9 f.m.now.length c9, .slice none 0 0] * (sbuf 5 1 f.An f.m.now.length f.cn (u8s f.m.now) * sbuf 5 1 A9 f.m.now.length c9 (u8s f.m.now)) := by
    unfold fiH fcs
    show _ * (_ * (_ * sbuf 3 1 none 0 0 [])) = _
    rw [sbuf_nil, star_one]
    rfl
   refine Xx.perm (Xx.drop (p := sbuf 5 1 f.As f.m.sure.length f.cs (u8s f.m.sure) * sbuf 3 1 f.Al f.m.loose.length f.cl (nv f.m.loose)) (H := dkH db { d with ch := d.ch + 1, fs := setF ⟨⟨n, f.m.now, f.m.now, []⟩, f.b, f.An, f.cn, A9, c9, none, 0⟩ d.fs } * R) ?_) (by show _ = _ * ((row db 90 (dcs { d with ch := d.ch + 1 }) * (imap d.mb ((setF ⟨⟨n, f.m.now, f.m.now, []⟩, f.b, f.An, f.cn, A9, c9, none, 0⟩ d.fs).map fkv) * (sbuf 59 3 d.Ap d.plan.length d.cp (d.plan.flatMap scs) * fisH (setF ⟨⟨n, f.m.now, f.m.now, []⟩, f.b, f.An, f.cn, A9, c9, none, 0⟩ d.fs)))) * R); rw [e1, e2, efi]; ac_rfl)
   exact Xx.ret1 rfl rfl ⟨by rw [hap], { d with ch := d.ch + 1, fs := setF ⟨⟨n, f.m.now, f.m.now, []⟩, f.b, f.An, f.cn, A9, c9, none, 0⟩ d.fs }, by rw [hap]; unfold Dk.abs; simp only [setF_m], rfl⟩ hB1 rfl
end DkJ
end Go.Proofs.YthlfffbcligocaaGreat
namespace Go.Proofs.YthlfffbcligocaaGreat
open Go.SL Go.RowKit
set_option maxRecDepth 100000
open DkA DkB DkC DkD DkE DkF DkG DkH DkI DkJ
namespace DkK
theorem sz3 : (Tryz.prog.info? 3).map (·.size) = some 1 := by kernel_rfl
theorem sz5 : (Tryz.prog.info? 5).map (·.size) = some 1 := by kernel_rfl
theorem sz59 : (Tryz.prog.info? 59).map (·.size) = some 3 := by kernel_rfl
theorem ti3 : TI Tryz.prog 3 [.int .i64 0] 1 8 := TI.of (by kernel_rfl) rfl rfl
theorem ti5 : TI Tryz.prog 5 [.int .u8 0] 1 1 := TI.of (by kernel_rfl) rfl rfl
theorem ti109 : TI Tryz.prog 109 [.slice none 0 0, .slice none 0 0, .slice none 0 0] 3 72 := TI.of (by kernel_rfl) rfl rfl
theorem fo90_0 : FO Tryz.prog 90 0 0 1 false := FO.of U90 rfl rfl (by kernel_rfl) U88 rfl rfl
def removeD (D : Dm) (n : Int) : Dm × Int := if errM D n ≠ 0 then (D, errM D n) else if (strikesD D).2 = true then ((strikesD D).1, 7)
  else ({ (strikesD D).1 with fs := delM n (strikesD D).1.fs }, 0)
def cutD (D : Dm) (n long : Int) : Dm × Int := if errM D n ≠ 0 then (D, errM D n) else if long < 0 ∨ long > ((fileM n D.fs).now.length : Nat) then (D, 1) else if (strikesD D).2 = true then ((strikesD D).1, 7)
  else ({ (strikesD D).1 with fs := setM ⟨n, (fileM n D.fs).now.take long.toNat, (fileM n D.fs).now.take long.toNat, []⟩ (strikesD D).1.fs }, 0)
end DkK
end Go.Proofs.YthlfffbcligocaaGreat
namespace Go.Proofs.YthlfffbcligocaaGreat
open Go.SL Go.RowKit
set_option maxRecDepth 100000
open DkA DkB DkC DkD DkE DkF DkG DkH DkI DkJ DkK
namespace DkL
theorem sz3 : (Tryz.prog.info? 3).map (·.size) = some 1 := by kernel_rfl
theorem sz5 : (Tryz.prog.info? 5).map (·.size) = some 1 := by kernel_rfl
theorem sz26 : (Tryz.prog.info? 26).map (·.size) = some 1 := by kernel_rfl
theorem sz59 : (Tryz.prog.info? 59).map (·.size) = some 3 := by kernel_rfl
theorem sz107 : (Tryz.prog.info? 107).map (·.size) = some 1 := by kernel_rfl
theorem ti3 : TI Tryz.prog 3 [.int .i64 0] 1 8 := TI.of (by kernel_rfl) rfl rfl
theorem ti5 : TI Tryz.prog 5 [.int .u8 0] 1 1 := TI.of (by kernel_rfl) rfl rfl
theorem ti109 : TI Tryz.prog 109 [.slice none 0 0, .slice none 0 0, .slice none 0 0] 3 72 := TI.of (by kernel_rfl) rfl rfl
theorem fo109_0 : FO Tryz.prog 109 0 0 1 false := FO.of U109 rfl rfl (by kernel_rfl) U107 rfl rfl
theorem fo109_1 : FO Tryz.prog 109 1 1 1 false := FO.of U109 rfl rfl (by kernel_rfl) U107 rfl rfl
theorem fo109_2 : FO Tryz.prog 109 2 2 1 false := FO.of U109 rfl rfl (by kernel_rfl) U26 rfl rfl
theorem Xx.leT {e : Env} {ds : List Deferred} {K : Act → World → Prop} {ρ : Sl} {B : Frag} {H R : HP} (A : Option Addr) {et : TypeId} {size n c : Nat} {xs : List Value} [hp : PickS H A et size n c xs R]
    (h : n ≤ c → Xx e ds K ρ B H) : Xx e ds K ρ B H := fun a w f b' s => by
  have s' := s.of_eq hp.eq
  rcases s'.cases_sbuf with ⟨_, h2, h3, _⟩ | ⟨bb, sp, _, _, h3, _⟩
  · exact h (by omega) a w f b' s
  · exact h h3 a w f b' s
def writeD (D : Dm) (n at_ : Int) (s : List UInt8) : Dm × Int := if errM D n ≠ 0 then (D, errM D n)
  else if at_ < 0 ∨ at_ > ((fileM n D.fs).now.length : Nat) ∨ (s.length : Int) > ((fileM n D.fs).now.length : Nat) - at_ then (D, 1) else if (strikesD D).2 = true then ((strikesD D).1, 7)
  else ({ (strikesD D).1 with fs := setM ⟨n, (fileM n D.fs).now.take at_.toNat ++ s ++ (fileM n D.fs).now.drop (at_.toNat + s.length), (fileM n D.fs).sure, touchL (fileM n D.fs).loose at_.toNat (at_.toNat + s.length)⟩ (strikesD D).1.fs }, 0)
end DkL
end Go.Proofs.YthlfffbcligocaaGreat
namespace Go.Proofs.YthlfffbcligocaaGreat
open Go.SL Go.RowKit
set_option maxRecDepth 100000
open DkA DkB DkC DkD DkE DkF DkG DkH DkI DkJ DkK DkL
namespace DkM
theorem sz3 : (Tryz.prog.info? 3).map (·.size) = some 1 := by kernel_rfl
theorem sz5 : (Tryz.prog.info? 5).map (·.size) = some 1 := by kernel_rfl
theorem sz59 : (Tryz.prog.info? 59).map (·.size) = some 3 := by kernel_rfl
theorem ti3 : TI Tryz.prog 3 [.int .i64 0] 1 8 := TI.of (by kernel_rfl) rfl rfl
theorem ti5 : TI Tryz.prog 5 [.int .u8 0] 1 1 := TI.of (by kernel_rfl) rfl rfl
theorem ti109 : TI Tryz.prog 109 [.slice none 0 0, .slice none 0 0, .slice none 0 0] 3 72 := TI.of (by kernel_rfl) rfl rfl
end DkM
end Go.Proofs.YthlfffbcligocaaGreat
namespace Go.Proofs.YthlfffbcligocaaGreat
open Go.SL Go.RowKit
set_option maxRecDepth 100000
open DkA DkB DkC DkD DkE DkF DkG DkH DkI DkJ DkK DkL DkM
namespace DkN
structure Calm (K L C : Nat) (D : Dm) : Prop where
  plan : D.plan = []
  dead : D.dead = false
  nd : (D.fs.map (·.n)).Nodup
  rise : ∀ f ∈ D.fs, Rise f.loose
  lim : ∀ f ∈ D.fs, ∀ i ∈ f.loose, i < sec f.now.length
  len : D.fs.length ≤ K
  now : ∀ f ∈ D.fs, f.now.length ≤ L
  sure : ∀ f ∈ D.fs, f.sure.length ≤ f.now.length
  room : 0 ≤ D.room ∧ D.room ≤ 9223372036854775807
  ch : D.ch ≤ C
theorem Calm.fit {K L C : Nat} {D : Dm} (h : Calm K L C D) (hK : K ≤ 1000000) (hL : L ≤ 68719476736) (hC : C ≤ 1152921504606846976) : D.Fit :=
  ⟨h.nd, h.rise, h.lim, Nat.le_trans h.len hK, fun f hf => Nat.le_trans (h.now f hf) hL, h.sure, h.room, Nat.le_trans h.ch hC, by rw [h.plan]; exact Nat.zero_le _⟩
theorem Calm.mono {K L C K' L' C' : Nat} {D : Dm} (h : Calm K L C D) (hK : K ≤ K') (hL : L ≤ L') (hC : C ≤ C') : Calm K' L' C' D :=
  ⟨h.plan, h.dead, h.nd, h.rise, h.lim, Nat.le_trans h.len hK, fun f hf => Nat.le_trans (h.now f hf) hL, h.sure, h.room, Nat.le_trans h.ch hC⟩
theorem Calm.strikes {K L C : Nat} {D : Dm} (h : Calm K L C D) : strikesD D = ({ D with ch := D.ch + 1 }, false) := by
  unfold strikesD
  rw [if_neg (by rw [h.dead]; decide), h.plan]
  rfl
theorem findM_mem {k : Int} : ∀ {fs : List Fm} {f : Fm}, findM k fs = some f → f ∈ fs ∧ f.n = k := by
  intro fs
  induction fs with
  | nil => intro f h; cases h
  | cons g fs ih =>
    intro f h
    simp only [findM] at h
    split at h
    · rename_i e; cases h; exact ⟨by simp, e.symm⟩
    · obtain ⟨h1, h2⟩ := ih h; exact ⟨by simp [h1], h2⟩
theorem findM_of_mem : ∀ {fs : List Fm} {f : Fm}, (fs.map (·.n)).Nodup → f ∈ fs → findM f.n fs = some f := by
  intro fs
  induction fs with
  | nil => intro f _ h; cases h
  | cons g fs ih =>
    intro f hn h
    simp only [findM]
    rw [List.map_cons, List.nodup_cons] at hn
    rcases List.mem_cons.1 h with rfl | h
    · rw [if_pos rfl]
    · rw [if_neg (fun e => hn.1 (by rw [← e]; exact List.mem_map.2 ⟨f, h, rfl⟩)), ih hn.2 h]
theorem setM_mem {f : Fm} : ∀ {ms : List Fm} {g : Fm}, g ∈ setM f ms → g = f ∨ g ∈ ms := by
  intro ms
  induction ms with
  | nil => intro g h; left; simpa [setM] using h
  | cons m ms ih =>
    intro g h
    simp only [setM] at h
    split at h
    · rcases List.mem_cons.1 h with rfl | h
      · exact .inl rfl
      · exact .inr (by simp [h])
    · rcases List.mem_cons.1 h with rfl | h
      · exact .inr (by simp)
      · rcases ih h with e | e
        · exact .inl e
        · exact .inr (by simp [e])
theorem setM_nums {f : Fm} : ∀ {ms : List Fm}, (setM f ms).map (·.n) = if f.n ∈ ms.map (·.n) then ms.map (·.n) else ms.map (·.n) ++ [f.n] := by
  intro ms
  induction ms with
  | nil => rfl
  | cons m ms ih =>
    simp only [setM]
    split
    · rename_i e
      rw [if_pos (by simp [e])]; simp [e]
    · rename_i e
      rw [List.map_cons, ih, List.map_cons]
      by_cases h : f.n ∈ ms.map (·.n)
      · rw [if_pos h, if_pos (by simp only [List.mem_cons]; exact .inr h)]
      · rw [if_neg h, if_neg (by simp only [List.mem_cons, not_or]; exact ⟨e, h⟩)]; rfl
theorem setM_len (f : Fm) (ms : List Fm) : (setM f ms).length ≤ ms.length + 1 := by
  have := congrArg List.length (setM_nums (f := f) (ms := ms))
  rw [List.length_map] at this
  rw [this]
  split
  · rw [List.length_map]; omega
  · rw [List.length_append, List.length_map]; simp
theorem setM_nodup {f : Fm} {ms : List Fm} (h : (ms.map (·.n)).Nodup) : ((setM f ms).map (·.n)).Nodup := by
  rw [setM_nums]
  split
  · exact h
  · rename_i hn
    rw [List.nodup_append]
    exact ⟨h, by simp, fun a ha b hb e => hn (by rw [List.mem_singleton] at hb; rw [← hb, ← e]; exact ha)⟩
theorem findM_set {f : Fm} (k : Int) : ∀ {ms : List Fm}, findM k (setM f ms) = if k = f.n then some f else findM k ms := by
  intro ms
  induction ms with
  | nil => rfl
  | cons m ms ih =>
    simp only [setM]
    split
    · rename_i e
      simp only [findM]
      by_cases h : k = f.n
      · rw [if_pos h, if_pos h]
      · rw [if_neg h, if_neg h, if_neg (by rw [← e]; exact h)]
    · rename_i e
      simp only [findM]
      rw [ih]
      by_cases h : k = m.n
      · rw [if_pos h, if_pos h, if_neg (by rw [h]; exact fun e2 => e e2.symm)]
      · rw [if_neg h, if_neg h]
theorem fileM_cases (n : Int) (fs : List Fm) : (∃ f ∈ fs, findM n fs = some f ∧ fileM n fs = f ∧ f.n = n) ∨ (findM n fs = none ∧ fileM n fs = ⟨n, [], [], []⟩) := by
  unfold fileM
  cases h : findM n fs with
  | none => exact .inr ⟨rfl, rfl⟩
  | some f => exact .inl ⟨f, (findM_mem h).1, rfl, rfl, (findM_mem h).2⟩
theorem touchL_rise {l : List Nat} (h : Rise l) (a b : Nat) : Rise (touchL l a b) := by
  unfold touchL
  split
  · generalize List.range' (a / 64) (sec b - a / 64) = r
    induction r generalizing l with
    | nil => exact h
    | cons i r ih => exact ih (insN_rise h i)
  · exact h
theorem touchL_mem {l : List Nat} {a b x : Nat} (h : x ∈ touchL l a b) : x ∈ l ∨ (a < b ∧ x < sec b) := by
  unfold touchL at h
  split at h
  · rename_i hab
    have : ∀ (r : List Nat) (l : List Nat), x ∈ r.foldl insN l → x ∈ l ∨ x ∈ r := by
      intro r
      induction r with
      | nil => intro l h; exact .inl h
      | cons i r ih =>
        intro l h
        rcases ih _ h with h | h
        · rcases (insN_mem _ _ _).1 h with h | h
          · exact .inl h
          · exact .inr (by simp [h])
        · exact .inr (by simp [h])
    rcases this _ _ h with h | h
    · exact .inl h
    · right
      rw [List.mem_range'_1] at h
      exact ⟨hab, by omega⟩
  · exact .inl h
theorem sec_mono {a b : Nat} (h : a ≤ b) : sec a ≤ sec b := by unfold sec; omega
theorem Calm.set {K L C : Nat} {D : Dm} (h : Calm K L C D) {f : Fm} {K' L' : Nat} (hK : K + 1 ≤ K') (hL : L ≤ L') (h1 : Rise f.loose) (h2 : ∀ i ∈ f.loose, i < sec f.now.length) (h3 : f.now.length ≤ L') (h4 : f.sure.length ≤ f.now.length) :
    Calm K' L' (C + 1) { D with ch := D.ch + 1, fs := setM f D.fs } := by
  refine ⟨h.plan, h.dead, setM_nodup h.nd, fun g hg => ?_, fun g hg => ?_, ?_, fun g hg => ?_, fun g hg => ?_, h.room, Nat.succ_le_succ h.ch⟩
  · rcases setM_mem hg with rfl | hg
    · exact h1
    · exact h.rise g hg
  · rcases setM_mem hg with rfl | hg
    · exact h2
    · exact h.lim g hg
  · have h5 := h.len
    have h6 := setM_len f D.fs
    show (setM f D.fs).length ≤ K'
    omega
  · rcases setM_mem hg with rfl | hg
    · exact h3
    · exact Nat.le_trans (h.now g hg) hL
  · rcases setM_mem hg with rfl | hg
    · exact h4
    · exact h.sure g hg
theorem Calm.file {K L C : Nat} {D : Dm} (h : Calm K L C D) (n : Int) : Rise (fileM n D.fs).loose ∧ (∀ i ∈ (fileM n D.fs).loose, i < sec (fileM n D.fs).now.length) ∧ (fileM n D.fs).now.length ≤ L ∧ (fileM n D.fs).sure.length ≤ (fileM n D.fs).now.length := by
  rcases fileM_cases n D.fs with ⟨f, hf, _, e, _⟩ | ⟨_, e⟩
  · rw [e]; exact ⟨h.rise f hf, h.lim f hf, h.now f hf, h.sure f hf⟩
  · rw [e]; exact ⟨List.Pairwise.nil, fun i hi => (by cases hi), Nat.zero_le _, Nat.le_refl _⟩
theorem Calm.append {K L C : Nat} {D : Dm} (h : Calm K L C D) (n : Int) (s : List UInt8) : Calm (K + 1) (L + s.length) (C + 1) (appendD D n s).1 := by
  have hf := h.file n
  have hm := h.mono (K' := K + 1) (L' := L + s.length) (C' := C + 1) (by omega) (by omega) (by omega)
  unfold appendD
  rw [h.strikes, if_neg (by rw [h.dead]; decide)]
  split
  · exact hm
  split
  · exact hm
  rw [if_neg Bool.false_ne_true]
  refine h.set (Nat.le_refl _) (by omega) (touchL_rise hf.1 _ _) (fun i hi => ?_) (by show (_ ++ s).length ≤ _; rw [List.length_append]; omega) (by have := hf.2.2.2; show (fileM n D.fs).sure.length ≤ (_ ++ s).length; rw [List.length_append]; omega)
  show i < sec (_ ++ s).length
  rw [List.length_append]
  rcases touchL_mem hi with hi | hi
  · exact Nat.lt_of_lt_of_le (hf.2.1 i hi) (sec_mono (by omega))
  · exact hi.2
theorem Calm.sync {K L C : Nat} {D : Dm} (h : Calm K L C D) (n : Int) : Calm (K + 1) L (C + 1) (syncD D n).1 := by
  have hf := h.file n
  have hm := h.mono (K' := K + 1) (L' := L) (C' := C + 1) (by omega) (by omega) (by omega)
  unfold syncD
  rw [h.strikes]
  split
  · exact hm
  rw [if_neg Bool.false_ne_true]
  exact h.set (Nat.le_refl _) (Nat.le_refl _) List.Pairwise.nil (fun i hi => (by cases hi)) hf.2.2.1 (Nat.le_refl _)
def SureL (fs : List Fm) (n : Int) (t : List UInt8) : Prop := ∃ f, findM n fs = some f ∧ t <+: f.now ∧ t <+: f.sure
structure Left (ks : List Int) (fs0 : List Fm) (fs : List Fm) : Prop where
  nums : fs.map (·.n) = fs0.map (·.n)
  ok : ∀ f ∈ fs, f.Ok
  le : ∀ n f, findM n fs = some f → ∃ g, findM n fs0 = some g ∧ f.now.length ≤ g.now.length
  sure : ∀ n t, SureL fs0 n t → SureL fs n t
  none : ∀ n, n ∈ ks → ∀ f, findM n fs = some f → f.loose = []
end DkN
end Go.Proofs.YthlfffbcligocaaGreat
namespace Go.Proofs.YthlfffbcligocaaGreat
open Go.SL Go.RowKit
set_option maxRecDepth 100000
open DkA DkB DkC DkD DkE DkF DkG DkH DkI DkJ DkK DkL DkM DkN Fr1
namespace Jn1
theorem sz3 : (Tryz.prog.info? 3).map (·.size) = some 1 := by kernel_rfl
theorem sz4 : (Tryz.prog.info? 4).map (·.size) = some 1 := by kernel_rfl
theorem sz9 : (Tryz.prog.info? 9).map (·.size) = some 1 := by kernel_rfl
theorem sz28 : (Tryz.prog.info? 28).map (·.size) = some 1 := by kernel_rfl
theorem sz107 : (Tryz.prog.info? 107).map (·.size) = some 1 := by kernel_rfl
theorem sz149 : (Tryz.prog.info? 149).map (·.size) = some 4 := by kernel_rfl
theorem ti5 : TI Tryz.prog 5 [.int .u8 0] 1 1 := TI.of (by kernel_rfl) rfl rfl
theorem ti28 : TI Tryz.prog 28 [.int .i64 0] 1 8 := TI.of (by kernel_rfl) rfl rfl
theorem ti143 : TI Tryz.prog 143 [.pointer none, .int .i64 0, .int .i64 0, .int .i64 0, .slice none 0 0] 5 56 := TI.of (by kernel_rfl) rfl rfl
theorem ti146 : TI Tryz.prog 146 [.pointer none, .slice none 0 0] 2 32 := TI.of (by kernel_rfl) rfl rfl
theorem ti149 : TI Tryz.prog 149 [.int .i64 0, .int .i64 0, str [], .bool false] 4 40 := TI.of (by kernel_rfl) rfl rfl
theorem fo143_4 : FO Tryz.prog 143 4 4 1 false := FO.of U143 rfl rfl (by kernel_rfl) U141 rfl rfl
theorem fo146_1 : FO Tryz.prog 146 1 1 1 false := FO.of U146 rfl rfl (by kernel_rfl) U107 rfl rfl
theorem pl149 : PL Tryz.prog 149 [(0, 1), (1, 1), (2, 1), (3, 1)] := PL.of U149 (by kernel_rfl)
def bcell (b : Nat) (u : Bool) (A : Option Addr) (n c : Nat) : List Value := [.pointer (if u = true then some ⟨b, 0, none⟩ else none), .slice A n c]
theorem copyCheck_ct (b : Nat) (u : Bool) (A : Option Addr) (n c : Nat) (B : Frag) : CtC Tryz.prog 128 [.pointer (some ⟨b, 0, none⟩)] B (row b 146 (bcell b u A n c)) (.tuple #[]) (row b 146 (bcell b true A n c)) :=
  ⟨Go.SL.enters_of Tryz.func128 rfl (by kernel_rfl), fun N0 w R s => by
    obtain ⟨hg, hB, hN⟩ := s.blk
    cases u with
    | true =>
      refine (Any.Builder_copyCheck_used { Shelf.lays105 with } Shelf.Builder_Extra_105.toX72 b w (cell_of_heap hg rfl)).mono ?_
      rintro e w' ⟨rfl, rfl⟩
      exact ⟨_, B, _, rfl, ⟨rfl, rfl, rfl⟩, Fl _, Below.refl _ _, s⟩
    | false =>
      refine (Any.Builder_copyCheck_fresh { Shelf.lays105 with } Shelf.Builder_Extra_105.toX72 b w (cell_of_heap hg rfl) (by simp [World.shape?, hg, bcell]; rfl) (by simp [World.frozen?, hg])).mono ?_
      rintro e w' ⟨rfl, rfl⟩
      refine ⟨_, B, _, rfl, ⟨rfl, rfl, rfl⟩, Fl _, (Below.refl _ _).setCell (p := ⟨b, 0, none⟩) hN _, s.put ?_ (fun k hk => ?_) (by simp [World.setCell])⟩
      · simp [World.setCell, Array.getElem?_modify, hg, bcell]
      · simp only [World.setCell, Array.getElem?_modify]
        rw [if_neg (fun h => hk h.symm)]⟩
set_option maxHeartbeats 1000000 in
theorem BLen_ct (b : Nat) (u : Bool) (A : Option Addr) (n c : Nat) (B : Frag) : CtC Tryz.prog 88 [.pointer (some ⟨b, 0, none⟩)] B (row b 146 (bcell b u A n c)) (i64 (n : Int)) (row b 146 (bcell b u A n c)) := by
  refine Ct.of_body Tryz.func88 rfl (nt := 8) rfl (by kernel_rfl) rfl ?_
  intro N0 w0 R
  refine Cq (fun K1 k1 => ?_)
  refine Cr <| Lx.y (asg rfl) rfl <| Lx.nil <| ?_
  refine Xx.tn (k1 _ _ _ _ ?_)
  refine Cq (fun K2 k2 => ?_)
  refine Cr <| Lx.y (mv rfl) rfl <| Lx.y (nilc rfl) rfl <| Lx.y (fa' fo146_1 rfl) rfl <| Lx.y (ld U107 rfl rfl rfl) rfl <| Lx.y (lenV (ty' := 0) U107 rfl) rfl <| Lx.y (asg rfl) rfl <| Lx.nil <| ?_
  refine Xx.tn (k2 _ _ _ _ ?_)
  refine Cx.ret ?_
  exact Xx.ret1 rfl rfl ⟨rfl, rfl, rfl⟩ (Fl _) rfl
set_option maxHeartbeats 1000000 in
theorem BWrite_ct (b : Nat) (u : Bool) (A : Option Addr) (l s : List UInt8) (c : Nat) (B : Frag) (hl : l.length + s.length ≤ 140737488355328) : Ct Tryz.prog 89 [.pointer (some ⟨b, 0, none⟩), str s] B (row b 146 (bcell b u A l.length c) * sbuf 5 1 A l.length c (u8s l)) (fun v B' H' => B' = B ∧ v = .tuple #[i64 (s.length : Int), .nilIface] ∧ ∃ A' c', (0 < (l ++ s).length → c' ≠ 0) ∧ H' = row b 146 (bcell b true A' (l ++ s).length c') * sbuf 5 1 A' (l ++ s).length c' (u8s (l ++ s))) := by
 refine Ct.of_body Tryz.func89 rfl (nt := 19) rfl (by kernel_rfl) rfl ?_
 intro N0 w0 R
 simp only [star_assoc]
 refine Cq (fun K1 k1 => ?_)
 refine Cr <| Lx.y (asg rfl) rfl <| Lx.y (asg rfl) rfl <| Lx.nil <| ?_
 refine Xx.tn (k1 _ _ _ _ ?_)
 refine Cq (fun K2 k2 => ?_)
 refine Cr <| Lx.y (mv rfl) rfl <| ?_
 refine Lx.co rfl rfl rfl (copyCheck_ct b u A l.length c _) (rfl) rfl ?_
 refine Lx.nil ?_
 refine Xx.tn (k2 _ _ _ _ ?_)
 refine Cq (fun K3 k3 => ?_)
 refine Cr <| Lx.y (mv rfl) rfl <| Lx.y (mv rfl) rfl <| Lx.y (nilc rfl) rfl <| Lx.y (fa' fo146_1 rfl) rfl <| Lx.y (ld U107 rfl rfl rfl) rfl <| Lx.y (mv rfl) rfl <| ?_
 refine Lx.o (appT (et := 5) (A := A) (l.length + s.length) (u8s (l ++ s)) U107 U9 ti5 rfl rfl (by omega) (by omega) rfl (by rw [u8s_app])) rfl (fun v B' H' hΦ hB => ?_)
 obtain ⟨A2, c2, rfl, hA2, hc2, hBB, rfl⟩ := hΦ
 have hBB2 := hBB.symm
 subst hBB2
 clear hB
 refine Lx.y (nilc rfl) rfl <| Lx.y (fa' fo146_1 rfl) rfl <| ?_
 refine Lx.st (stO U107 sz107 rfl rfl rfl (by show 1 < 2; omega) rfl) ?_
 refine Lx.nil ?_
 refine Xx.tn (k3 _ _ _ _ ?_)
 refine Cq (fun K4 k4 => ?_)
 refine Cr <| Lx.y (mv rfl) rfl <| Lx.y (lenS U9 rfl) rfl <| Lx.y (asg rfl) rfl <| Lx.y (asg rfl) rfl <| Lx.nil <| ?_
 refine Xx.tn (k4 _ _ _ _ ?_)
 refine Cx.ret ?_
 exact Xx.ret2 rfl rfl rfl ⟨rfl, rfl, A2, c2, by rw [List.length_append]; intro h; omega, rfl⟩ (Fl _) (by unfold bcell; rw [List.length_append]; ac_rfl)
set_option maxHeartbeats 1000000 in
theorem BString_ct (b : Nat) (u : Bool) (A : Option Addr) (l : List UInt8) (c : Nat) (B : Frag) (hz : A = none ∨ c ≠ 0) (hl : l.length ≤ 140737488355328) : CtC Tryz.prog 90 [.pointer (some ⟨b, 0, none⟩)] B (row b 146 (bcell b u A l.length c) * sbuf 5 1 A l.length c (u8s l)) (str l) (row b 146 (bcell b u A l.length c)) := by
 refine Ct.of_body Tryz.func90 rfl (nt := 14) rfl (by kernel_rfl) rfl ?_
 intro N0 w0 R
 simp only [star_assoc]
 refine Cq (fun K1 k1 => ?_)
 refine Cr <| Lx.y (asg rfl) rfl <| Lx.nil <| ?_
 refine Xx.tn (k1 _ _ _ _ ?_)
 refine Cq (fun K2 k2 => ?_)
 refine Cx.drawn (by kernel_rfl) ?_
 refine Dx.p (i := 0) rfl (by kernel_rfl) (mv rfl) rfl ?_
 refine Dx.p (i := 1) rfl (by kernel_rfl) (nilc rfl) rfl ?_
 refine Dx.p (i := 2) rfl (by kernel_rfl) (fa' fo146_1 rfl) rfl ?_
 refine Dx.r (i := 3) rfl (by kernel_rfl) (ld U107 rfl rfl rfl) rfl ?_
 refine Dx.p (i := 4) rfl (by kernel_rfl) (usD rfl hz) rfl ?_
 refine Dx.p (i := 5) rfl (by kernel_rfl) (mv rfl) rfl ?_
 refine Dx.p (i := 6) rfl (by kernel_rfl) (nilc rfl) rfl ?_
 refine Dx.p (i := 7) rfl (by kernel_rfl) (fa' fo146_1 rfl) rfl ?_
 refine Dx.r (i := 8) rfl (by kernel_rfl) (ld U107 rfl rfl rfl) rfl ?_
 refine Dx.p (i := 9) rfl (by kernel_rfl) (lenV (ty' := 0) U107 rfl) rfl ?_
 refine Dx.one (i := 10) (by kernel_rfl) ?_
 refine Dstep.o (i := 10) rfl (usS (et := 5) (A := A) (n := l.length) (c := c) U195 (by kernel_rfl) rfl rfl rfl (by omega)) rfl (fun v B' H' hΦ hB => ?_)
 obtain ⟨rfl, hBB, rfl⟩ := hΦ
 have hBB2 := hBB.symm
 subst hBB2
 refine ⟨Jy (Jy (Jt) (ld U107 rfl rfl rfl)) (ld U107 rfl rfl rfl), ?_⟩
 refine Dx.p (i := 11) rfl (by kernel_rfl) (asg rfl) rfl ?_
 refine Dx.done (by kernel_rfl) ?_
 refine Xx.tn (k2 _ _ _ _ ?_)
 refine Cx.ret ?_
 exact Xx.ret1 rfl rfl ⟨rfl, rfl, rfl⟩ (Fl _) rfl
structure Rc where
  file : Nat
  at_ : Nat
  body : List UInt8
  good : Bool
def rcc (r : Rc) : List Value := [i64 (r.file : Int), i64 (r.at_ : Int), str r.body, .bool r.good]
theorem rcc_len (r : Rc) : (rcc r).length = 4 := rfl
theorem rcc_all (l : List Rc) : (l.flatMap rcc).all (·.oneCell') = true := by
  rw [List.all_eq_true]; intro v hv
  obtain ⟨x, _, hx⟩ := List.mem_flatMap.1 hv
  exact List.all_eq_true.1 (show (rcc x).all (·.oneCell') = true from rfl) v hx
structure Jn where
  db : Nat
  most : Int
  last : Nat
  long : Nat
  l : List Rc
  Al : Option Addr
  cl : Nat
def jcs (j : Jn) : List Value := [.pointer (some ⟨j.db, 0, none⟩), i64 j.most, i64 (j.last : Int), i64 (j.long : Int), .slice j.Al j.l.length j.cl]
def jnH (jb : Nat) (j : Jn) : HP := row jb 143 (jcs j) * sbuf 149 4 j.Al j.l.length j.cl (j.l.flatMap rcc)
def atV (l : List Rc) (i : Int) : Value := if h : 0 ≤ i ∧ i < l.length then .tuple #[.agg (rcc (l[i.toNat]'(by omega))).toArray, .bool true] else .tuple #[.agg ([i64 0, i64 0, str [], .bool false] : List Value).toArray, .bool false]
set_option maxHeartbeats 1000000 in
theorem JLen_ct (jb : Nat) (j : Jn) (B : Frag) : CtC Tryz.prog 63 [.pointer (some ⟨jb, 0, none⟩)] B (jnH jb j) (i64 (j.l.length : Int)) (jnH jb j) := by
  refine Ct.of_body Tryz.func63 rfl (nt := 10) rfl (by kernel_rfl) rfl ?_
  intro N0 w0 R
  unfold jnH
  simp only [star_assoc]
  refine Cq (fun K1 k1 => ?_)
  refine Cr <| Lx.y (asg rfl) rfl <| Lx.nil <| ?_
  refine Xx.tn (k1 _ _ _ _ ?_)
  refine Cq (fun K2 k2 => ?_)
  refine Cq (fun K3 k3 => ?_)
  refine Cr <| Lx.y (mv rfl) rfl <| Lx.y (Yx.ff (eqNilP U91 rfl rfl) rfl) rfl <| Lx.nil <| ?_
  refine Xx.tn (k3 _ _ _ _ ?_)
  refine Cx.condF rfl <| Cx.skip <| ?_
  refine Xx.tn (k2 _ _ _ _ ?_)
  refine Cq (fun K4 k4 => ?_)
  refine Cr <| Lx.y (mv rfl) rfl <| Lx.y (nilc rfl) rfl <| Lx.y (fa' fo143_4 rfl) rfl <| Lx.y (ld U141 rfl rfl rfl) rfl <| Lx.y (lenV (ty' := 0) U141 rfl) rfl <| Lx.y (asg rfl) rfl <| Lx.nil <| ?_
  refine Xx.tn (k4 _ _ _ _ ?_)
  refine Cx.ret ?_
  exact Xx.ret1 rfl rfl ⟨rfl, rfl, rfl⟩ (Fl _) (by ac_rfl)
set_option maxHeartbeats 2000000 in
theorem JAt_ct (jb : Nat) (j : Jn) (i : Int) (B : Frag) : CtC Tryz.prog 105 [.pointer (some ⟨jb, 0, none⟩), i64 i] B (jnH jb j) (atV j.l i) (jnH jb j) := by
 refine Ct.of_body Tryz.func105 rfl (nt := 29) rfl (by kernel_rfl) rfl ?_
 intro N0 w0 R
 unfold jnH
 simp only [star_assoc]
 refine Cq (fun K1 k1 => ?_)
 refine Cr ?_
 refine Lx.new (allocO ti149) rfl (fun b4 => ?_)
 refine Lx.y (asg rfl) rfl <| Lx.nil <| ?_
 refine Xx.tn (k1 _ _ _ _ ?_)
 refine Cq (fun K2 k2 => ?_)
 refine Cq (fun K3 k3 => ?_)
 refine Cr <| Lx.y (mv rfl) rfl <| Lx.y (Yx.ff (eqNilP U91 rfl rfl) rfl) rfl <| Lx.y (mv rfl) rfl <| Lx.gT rfl rfl rfl <| Lx.y (mv rfl) rfl <| Lx.gT rfl rfl rfl <| Lx.y (lss rfl rfl) rfl <| Lx.y (pickF rfl rfl) rfl <| Lx.y (mv rfl) rfl <| ?_
 refine Xx.ifD (t := 12) rfl (fun h4 => ?_) (fun h4 => ?_)
 ·
  have g1 : i < 0 := h4
  refine Lx.gF rfl rfl rfl rfl <| Lx.gF rfl rfl rfl rfl <| Lx.gF rfl rfl rfl rfl <| Lx.gF rfl rfl rfl rfl <| Lx.gF rfl rfl rfl rfl <| Lx.gF rfl rfl rfl rfl <| Lx.gF rfl rfl rfl rfl <| Lx.y (pickT rfl rfl) rfl <| Lx.nil <| ?_
  refine Xx.tn (k3 _ _ _ _ ?_)
  refine Cx.condT rfl ?_
  refine Cq (fun K5 k5 => ?_)
  refine Cr <| Lx.y (bld ti149 pl149 rfl rfl) rfl <| ?_
  refine Lx.st (stA (d := .bool) sz149 rfl rfl rfl rfl (by show 0 + 4 ≤ 4; omega) rfl) ?_
  refine Lx.y (asg rfl) rfl <| Lx.nil <| ?_
  refine Xx.tn (k5 _ _ _ _ ?_)
  refine Cx.ret <| Xx.tr <| ?_
  exact Xx.retC rfl U149 rfl sz149 rfl rfl rfl ⟨by unfold atV; rw [dif_neg (by omega)], rfl, rfl⟩ (Fl _) (by ac_rfl)
 ·
  have g1 : ¬ i < 0 := h4
  refine Lx.gT rfl rfl rfl <| Lx.y (mv rfl) rfl <| Lx.gT rfl rfl rfl <| Lx.y (mv rfl) rfl <| Lx.gT rfl rfl rfl <| Lx.y (nilc rfl) rfl <| Lx.gT rfl rfl rfl <| Lx.y (fa' fo143_4 rfl) rfl <| Lx.gT rfl rfl rfl <| Lx.y (ld U141 rfl rfl rfl) rfl <| Lx.gT rfl rfl rfl <| Lx.y (lenV (ty' := 0) U141 rfl) rfl <| ?_
  refine Lx.gT rfl rfl rfl <| Lx.y (geq rfl rfl) rfl <| Lx.y (pickF rfl rfl) rfl <| Lx.nil <| ?_
  refine Xx.tn (k3 _ _ _ _ ?_)
  refine Cx.condD rfl (fun h6 => ?_) (fun h6 => ?_)
  ·
   have g2 := h6
   refine Cq (fun K7 k7 => ?_)
   refine Cr <| Lx.y (bld ti149 pl149 rfl rfl) rfl <| ?_
   refine Lx.st (stA (d := .bool) sz149 rfl rfl rfl rfl (by show 0 + 4 ≤ 4; omega) rfl) ?_
   refine Lx.y (asg rfl) rfl <| Lx.nil <| ?_
   refine Xx.tn (k7 _ _ _ _ ?_)
   refine Cx.ret <| Xx.tr <| ?_
   exact Xx.retC rfl U149 rfl sz149 rfl rfl rfl ⟨by unfold atV; rw [dif_neg (by omega)], rfl, rfl⟩ (Fl _) (by ac_rfl)
  ·
   have g2 := h6
   have g2 : i < (j.l.length : Int) := by have h9 : ¬ (j.l.length : Int) ≤ i := g2; omega
   refine Xx.addrT j.Al (by omega) (fun ba hA hxl hxc => ?_)
   refine Cx.skip ?_
   refine Xx.tn (k2 _ _ _ _ ?_)
   refine Cq (fun K8 k8 => ?_)
   refine Cr <| Lx.y (mv rfl) rfl <| Lx.y (nilc rfl) rfl <| Lx.y (fa' fo143_4 rfl) rfl <| Lx.y (Yx.val (ld U141 rfl rfl rfl) (show _ = Value.slice (some ⟨ba, 0, none⟩) j.l.length j.cl from by rw [← hA])) rfl <| Lx.y (mv rfl) rfl <| ?_
   rw [hA]
   refine Lx.y (ia (j := i.toNat) U141 sz149 rfl rfl rfl (by omega) (by omega)) rfl <| Lx.y (ldA U149 rfl sz149 rfl (Cells.buf (b := ba) (m := 4) (show _ = rcc (j.l[i.toNat]'(by omega)) from by rw [Nat.zero_add]; exact DkF.flatG_at rcc_len i.toNat j.l (by omega)) (by rw [DkF.flatG_len rcc_len]; omega)) rfl) rfl <| ?_
   refine Lx.st (stA (d := .bool) sz149 rfl rfl rfl rfl (by show 0 + 4 ≤ 4; omega) rfl) ?_
   refine Lx.y (asg rfl) rfl <| Lx.nil <| ?_
   refine Xx.tn (k8 _ _ _ _ ?_)
   refine Cx.ret ?_
   exact Xx.retC rfl U149 rfl sz149 rfl rfl rfl ⟨by unfold atV; rw [dif_pos (by omega)]; rfl, rfl, rfl⟩ (Fl _) (by rw [← hA]; ac_rfl)
end Jn1
end Go.Proofs.YthlfffbcligocaaGreat
namespace Go.Proofs.YthlfffbcligocaaGreat
open Go.SL Go.RowKit
set_option maxRecDepth 100000
open DkA DkB DkC DkD DkE DkF DkG DkH DkI DkJ DkK DkL DkM DkN Fr1 Jn1
namespace Jn2
theorem sz3 : (Tryz.prog.info? 3).map (·.size) = some 1 := by kernel_rfl
theorem sz4 : (Tryz.prog.info? 4).map (·.size) = some 1 := by kernel_rfl
theorem sz9 : (Tryz.prog.info? 9).map (·.size) = some 1 := by kernel_rfl
theorem sz141 : (Tryz.prog.info? 141).map (·.size) = some 1 := by kernel_rfl
theorem sz149 : (Tryz.prog.info? 149).map (·.size) = some 4 := by kernel_rfl
theorem sz168 : (Tryz.prog.info? 168).map (·.size) = some 3 := by kernel_rfl
theorem ti5 : TI Tryz.prog 5 [.int .u8 0] 1 1 := TI.of (by kernel_rfl) rfl rfl
theorem ti143 : TI Tryz.prog 143 [.pointer none, .int .i64 0, .int .i64 0, .int .i64 0, .slice none 0 0] 5 56 := TI.of (by kernel_rfl) rfl rfl
theorem ti146 : TI Tryz.prog 146 [.pointer none, .slice none 0 0] 2 32 := TI.of (by kernel_rfl) rfl rfl
theorem ti149 : TI Tryz.prog 149 [.int .i64 0, .int .i64 0, str [], .bool false] 4 40 := TI.of (by kernel_rfl) rfl rfl
theorem ti168 : TI Tryz.prog 168 [.int .i64 0, str [], .bool false] 3 32 := TI.of (by kernel_rfl) rfl rfl
theorem fo143_2 : FO Tryz.prog 143 2 2 1 false := FO.of U143 rfl rfl (by kernel_rfl) U3 rfl rfl
theorem fo143_3 : FO Tryz.prog 143 3 3 1 false := FO.of U143 rfl rfl (by kernel_rfl) U3 rfl rfl
theorem fo143_4 : FO Tryz.prog 143 4 4 1 false := FO.of U143 rfl rfl (by kernel_rfl) U141 rfl rfl
theorem fo168_0 : FO Tryz.prog 168 0 0 1 false := FO.of U168 rfl rfl (by kernel_rfl) U3 rfl rfl
theorem fo168_1 : FO Tryz.prog 168 1 1 1 false := FO.of U168 rfl rfl (by kernel_rfl) U9 rfl rfl
theorem fo168_2 : FO Tryz.prog 168 2 2 1 false := FO.of U168 rfl rfl (by kernel_rfl) U4 rfl rfl
theorem pl143 : PL Tryz.prog 143 [(0, 1), (1, 1), (2, 1), (3, 1), (4, 1)] := PL.of U143 (by kernel_rfl)
theorem pl149 : PL Tryz.prog 149 [(0, 1), (1, 1), (2, 1), (3, 1)] := PL.of U149 (by kernel_rfl)
def recF (file : Nat) (fs : List Fr2.Fm) : List Rc := fs.map fun f => ⟨file, f.pos, f.body, f.good⟩
def openF (fs : List DkB.Fm) : Nat → List Rc × Nat × Nat → List Rc × Nat × Nat
  | 0, s => s
  | n + 1, s => match findM ((s.2.1 + 1 : Nat) : Int) fs with
    | none => s
    | some f => if Fr2.endL (Fr2.scanL f.now) < f.now.length then (s.1 ++ recF (s.2.1 + 1) (Fr2.scanL f.now), s.2.1 + 1, f.now.length)
        else openF fs n (s.1 ++ recF (s.2.1 + 1) (Fr2.scanL f.now), s.2.1 + 1, f.now.length)
theorem recF_snoc (file : Nat) (fs : List Fr2.Fm) (f : Fr2.Fm) : recF file (fs ++ [f]) = recF file fs ++ [⟨file, f.pos, f.body, f.good⟩] := by simp [recF]
theorem recF_len (file : Nat) (fs : List Fr2.Fm) : (recF file fs).length = fs.length := by simp [recF]
def fmc (f : Fr2.Fm) : List Value := [i64 (f.pos : Int), str f.body, .bool f.good]
theorem fmc_len (f : Fr2.Fm) : (fmc f).length = 3 := rfl
theorem run_le {fs : List DkB.Fm} {n : Nat} (h : ∀ k, k < n → ((k + 1 : Nat) : Int) ∈ fs.map (·.n)) : n ≤ fs.length := by
  have h1 : ((List.range n).map fun k => ((k + 1 : Nat) : Int)).Nodup := by
    rw [List.Nodup, List.pairwise_map]
    exact List.nodup_range.imp fun h e => h (by omega)
  have h2 := nodup_len _ (fs.map (·.n)) h1 (fun x hx => by
    obtain ⟨k, hk, rfl⟩ := List.mem_map.1 hx
    exact h k (List.mem_range.1 hk))
  simpa using h2
set_option maxHeartbeats 8000000 in
theorem JOpen_ct (d : Dk) (db : Nat) (most : Int) (B : Frag) (hF : d.abs.Fit) (hdd : d.dead = false) (hm : 1 ≤ most) (hsz : ∀ f ∈ d.abs.fs, f.now.length ≤ 1048576) : Ct Tryz.prog 62 [.pointer (some ⟨db, 0, none⟩), i64 most] B (dkH db d) (fun v B' H' => ∃ (jb : Nat) (Al : Option Addr) (cl : Nat), v = .tuple #[.pointer (some ⟨jb, 0, none⟩), i64 0] ∧ H' = dkH db d * jnH jb ⟨db, most, (openF d.abs.fs (d.abs.fs.length + 1) ([], 0, 0)).2.1, (openF d.abs.fs (d.abs.fs.length + 1) ([], 0, 0)).2.2, (openF d.abs.fs (d.abs.fs.length + 1) ([], 0, 0)).1, Al, cl⟩) := by
 have hfl : d.abs.fs.length ≤ 1000000 := hF.len
 refine Ct.of_body Tryz.func62 rfl (nt := 87) rfl (by kernel_rfl) rfl ?_
 intro N0 w0 R
 refine Cq (fun K1 k1 => ?_)
 refine Cr <| Lx.y (asg rfl) rfl <| Lx.y (asg rfl) rfl <| Lx.nil <| ?_
 refine Xx.tn (k1 _ _ _ _ ?_)
 refine Cq (fun K2 k2 => ?_)
 refine Cq (fun K3 k3 => ?_)
 refine Cr <| Lx.y (mv rfl) rfl <| Lx.y (Yx.ff (eqNilP U27 rfl rfl) rfl) rfl <| Lx.y (mv rfl) rfl <| Lx.gT rfl rfl rfl <| Lx.y (mv rfl) rfl <| Lx.gT rfl rfl rfl <| Lx.y (lss rfl rfl) rfl <| Lx.y (pickF rfl rfl) rfl <| Lx.nil <| ?_
 refine Xx.tn (k3 _ _ _ _ ?_)
 refine Cx.condD rfl (fun h4 => ?_) (fun h4 => ?_)
 ·
  have h1 : most < 1 := h4
  omega
 ·
  refine Cx.skip ?_
  refine Xx.tn (k2 _ _ _ _ ?_)
  refine Cq (fun K5 k5 => ?_)
  refine Cq (fun K6 k6 => ?_)
  refine Cr <| Lx.y (mv rfl) rfl <| ?_
  refine Lx.co rfl rfl rfl (Dead_ct d db _) (rfl) rfl ?_
  refine Lx.nil ?_
  refine Xx.tn (k6 _ _ _ _ ?_)
  refine Cx.condB rfl (fun h7 => ?_) (fun h7 => ?_)
  ·
   have h2 : d.dead = true := h7
   rw [hdd] at h2; cases h2
  ·
   refine Cx.skip ?_
   refine Xx.tn (k5 _ _ _ _ ?_)
   refine Cq (fun K8 k8 => ?_)
   refine Cr <| Lx.y (mv rfl) rfl <| Lx.y (mv rfl) rfl <| Lx.y (bld ti143 pl143 rfl rfl) rfl <| ?_
   refine Lx.new (boxA rfl) rfl (fun jb => ?_)
   refine Lx.y (asg rfl) rfl <| Lx.nil <| ?_
   refine Xx.tn (k8 _ _ _ _ ?_)
   refine Cx.block ?_
   refine Cx.loopK (Sc 0 rfl (Sc 1 rfl (Sc 6 rfl (Sc 13 rfl (Sc 14 rfl (Sc 15 rfl (Sc 16 rfl (Sc 17 rfl (Sc 18 rfl (Sc 19 rfl (Sc 20 rfl (Sc 21 rfl (Sc 22 rfl (Sc 23 rfl (Sc 24 rfl (Sub.nil _)))))))))))))))) (fun m ρ' B' H' => ∃ (n ls lg : Nat) (l : List Rc) (A : Option Addr) (c : Nat) (B2 : Frag), (openF d.abs.fs n (l, ls, lg) = (openF d.abs.fs (d.abs.fs.length + 1) ([], 0, 0)) ∧ n + ls = d.abs.fs.length + 1 ∧ (∀ k, k < ls → ((k + 1 : Nat) : Int) ∈ d.abs.fs.map (·.n)) ∧ l.length ≤ ls * 1048576 ∧ B.le B2) ∧ m = n + 1 ∧ ρ' = [] ∧ B2 = B' ∧ row jb 143 [.pointer (some ⟨db, 0, none⟩), i64 most, i64 ((ls : Nat) : Int), i64 ((lg : Nat) : Int), .slice A l.length c] * (sbuf 149 4 A l.length c (l.flatMap rcc) * (dkH db d * R)) = H') ⟨d.abs.fs.length + 1, 0, 0, [], none, 0, _, ⟨rfl, rfl, fun k hk => absurd hk (by omega), Nat.zero_le _, Fl _⟩, rfl, rfl, rfl, by show _ * (sbuf _ 4 none 0 0 [] * _) = _; rw [sbuf_nil, one_star]; rfl⟩ (Sc 0 rfl (Sc 1 rfl (Sc 6 rfl (Sc 13 rfl (Sc 14 rfl (Sc 15 rfl (Sc 16 rfl (Sc 17 rfl (Sc 18 rfl (Sc 19 rfl (Sc 20 rfl (Sc 21 rfl (Sc 22 rfl (Sc 23 rfl (Sc 24 rfl (Sub.nil _)))))))))))))))) ?_
   rintro m ρ' B' H' ⟨n, ls, lg, l, A, c, B2, ⟨hst, hnl, hrun, hll, hBle⟩, rfl, rfl, rfl, rfl⟩
   have hrl := run_le hrun
   obtain ⟨n, rfl⟩ : ∃ k, n = k + 1 := ⟨n - 1, by omega⟩
   refine Cx.block ?_
   refine Cq (fun K9 k9 => ?_)
   refine Cr <| Lx.y (mv rfl) rfl <| Lx.y (mv rfl) rfl <| Lx.y (nilc rfl) rfl <| Lx.y (fa' fo143_2 rfl) rfl <| Lx.y (ld U3 rfl rfl rfl) rfl <| Lx.y (Yx.val (add rfl rfl (by first | exact wrap64 (by omega) (by omega) | rfl)) (show _ = i64 ((ls + 1 : Nat) : Int) from rfl)) rfl <| ?_
   refine Lx.co rfl rfl rfl (Read_ct d db ((ls + 1 : Nat) : Int) _ hF) ((show _ = dkH db d * (row jb 143 [.pointer (some ⟨db, 0, none⟩), i64 most, i64 ((ls : Nat) : Int), i64 ((lg : Nat) : Int), .slice A l.length c] * (sbuf 149 4 A l.length c (l.flatMap rcc) * R)) by ac_rfl)) rfl ?_
   refine Lx.y (mv rfl) rfl <| Lx.y (ext rfl rfl) rfl <| Lx.y (ext rfl rfl) rfl <| Lx.y (asg rfl) rfl <| Lx.y (asg rfl) rfl <| Lx.nil <| ?_
   refine Xx.tn (k9 _ _ _ _ ?_)
   refine Cq (fun K10 k10 => ?_)
   refine Cq (fun K11 k11 => ?_)
   refine Cr <| Lx.y (mv rfl) rfl <| Lx.y (neI rfl rfl) rfl <| Lx.nil <| ?_
   refine Xx.tn (k11 _ _ _ _ ?_)
   refine Cx.condN rfl (fun h12 => ?_) (fun h12 => ?_)
   ·
    have he := h12
    have hnone : findM ((ls + 1 : Nat) : Int) d.abs.fs = none := by
     unfold errM at he
     rw [if_neg (by rw [show d.abs.dead = d.dead from rfl, hdd]; decide)] at he
     cases hq : findM ((ls + 1 : Nat) : Int) d.abs.fs with
     | none => rfl
     | some f => rw [hq] at he; exact absurd rfl he
    have hfin : (openF d.abs.fs (d.abs.fs.length + 1) ([], 0, 0)) = (l, ls, lg) := by rw [← hst]; unfold openF; rw [hnone]
    refine Cq (fun K13 k13 => ?_)
    refine Cr <| Lx.y (mv rfl) rfl <| Lx.y (asg rfl) rfl <| Lx.y (asg rfl) rfl <| Lx.nil <| ?_
    refine Xx.tn (k13 _ _ _ _ ?_)
    refine Cx.ret <| Xx.tr <| ?_
    refine Xx.br ?_
    refine Xx.tr ?_
    refine Xx.br ?_
    exact Xx.ret2 rfl rfl rfl ⟨jb, A, c, rfl, rfl⟩ hBle (by rw [hfin]; unfold jnH jcs; ac_rfl)
   ·
    have he := h12
    obtain ⟨_, f, hff, _, hfm⟩ := file_ok he
    have hsome : findM ((ls + 1 : Nat) : Int) d.abs.fs = some f.m := by
     have := findF_m ((ls + 1 : Nat) : Int) d.fs
     rw [hff] at this
     exact this.symm
    have hfs := hsz _ (findM_mem hsome).1
    obtain ⟨fr, hfr⟩ : ∃ fr, fr = Fr2.scanL f.m.now := ⟨_, rfl⟩
    have hfrl : fr.length ≤ 1048576 := by
     have := Fr2.scanF_len f.m.now (f.m.now.length + 1) 0 (by omega)
     rw [hfr]; unfold Fr2.scanL; omega
    have hrun2 : ∀ k, k < ls + 1 → ((k + 1 : Nat) : Int) ∈ d.abs.fs.map (·.n) := fun k hk => by
     by_cases e : k = ls
     ·rw [e]; obtain ⟨g1, g2⟩ := findM_mem hsome; exact List.mem_map.2 ⟨f.m, g1, g2⟩
     ·exact hrun k (by omega)
    have hls2 := run_le hrun2
    rw [if_pos he, hfm]
    refine Cx.skip ?_
    refine Xx.tn (k10 _ _ _ _ ?_)
    refine Cq (fun K14 k14 => ?_)
    refine Cr <| Lx.y (mv rfl) rfl <| Lx.y (nilc rfl) rfl <| Lx.y (fa' fo143_2 rfl) rfl <| Lx.y (ld U3 rfl rfl rfl) rfl <| Lx.y (Yx.val (add rfl rfl (by first | exact wrap64 (by omega) (by omega) | rfl)) (show _ = i64 ((ls + 1 : Nat) : Int) from rfl)) rfl <| Lx.y (nilc rfl) rfl <| Lx.y (fa' fo143_2 rfl) rfl <| ?_
    refine Lx.st (stO U3 sz3 rfl rfl rfl (by show 2 < 5; omega) rfl) ?_
    refine Lx.nil ?_
    refine Xx.tn (k14 _ _ _ _ ?_)
    refine Cq (fun K15 k15 => ?_)
    refine Cr <| Lx.y (mv rfl) rfl <| ?_
    refine Lx.cb rfl rfl rfl (Fr3.Scan_ct f.m.now _ hfs) rfl ?_
    rintro v3 B3 ⟨Af, cf, rfl, hRo, hcf⟩ hB3
    rw [← hfr] at hRo ⊢
    have hBle3 := Fz hBle hB3
    have hRf : 0 < fr.length → RoS B3 3 Af fr.length (fr.flatMap fmc) := fun _ => hRo
    refine Lx.y (mv rfl) rfl <| Lx.y (ext rfl rfl) rfl <| Lx.y (ext rfl rfl) rfl <| Lx.y (asg rfl) rfl <| Lx.y (asg rfl) rfl <| Lx.nil <| ?_
    refine Xx.tn (k15 _ _ _ _ ?_)
    refine Cq (fun K17 k17 => ?_)
    refine Cr <| Lx.y (mv rfl) rfl <| Lx.y (mv rfl) rfl <| Lx.y (lenS U9 rfl) rfl <| Lx.y (nilc rfl) rfl <| Lx.y (fa' fo143_3 rfl) rfl <| ?_
    refine Lx.st (stO U3 sz3 rfl rfl rfl (by show 3 < 5; omega) rfl) ?_
    refine Lx.nil ?_
    refine Xx.tn (k17 _ _ _ _ ?_)
    refine Cq (fun K18 k18 => ?_)
    refine Cq (fun K19 k19 => ?_)
    refine Cr <| Lx.y (mv rfl) rfl <| Lx.y (lenV (ty' := 0) U164 rfl) rfl <| Lx.y (mv rfl) rfl <| Lx.nil <| ?_
    refine Xx.tn (k19 _ _ _ _ ?_)
    refine Cx.block ?_
    refine Cx.loopK (Sc 0 rfl (Sc 1 rfl (Sc 6 rfl (Sc 7 rfl (Sc 8 rfl (Sc 9 rfl (Sc 10 rfl (Sc 13 rfl (Sc 14 rfl (Sc 15 rfl (Sc 16 rfl (Sc 17 rfl (Sc 18 rfl (Sc 19 rfl (Sc 20 rfl (Sc 21 rfl (Sc 22 rfl (Sc 23 rfl (Sc 24 rfl (Sc 25 rfl (Sc 26 rfl (Sc 27 rfl (Sc 28 rfl (Sc 29 rfl (Sc 30 rfl (Sc 31 rfl (Sc 32 rfl (Sc 33 rfl (Sc 34 rfl (Sc 35 rfl (Sc 36 rfl (Sc 38 rfl (Sc 39 rfl (Sc 40 rfl (Sc 41 rfl (Sc 42 rfl (Sc 43 rfl (Sc 44 rfl (Sc 45 rfl (Sc 46 rfl (Sc 47 rfl (Sc 48 rfl (Sc 49 rfl (Sc 50 rfl (Sc 51 rfl (Sc 52 rfl (Sc 53 rfl (Sc 54 rfl (Sc 55 rfl (Sc 56 rfl (Sub.nil _))))))))))))))))))))))))))))))))))))))))))))))))))) (fun m ρ' B' H' => ∃ (i : Nat) (A : Option Addr) (c : Nat), (i ≤ fr.length) ∧ m = fr.length - i ∧ ρ' = [(57, i64 (i : Int))] ∧ B3 = B' ∧ row jb 143 [.pointer (some ⟨db, 0, none⟩), i64 most, i64 ((ls + 1 : Nat) : Int), i64 ((f.m.now.length : Nat) : Int), .slice A (l ++ recF (ls + 1) (fr.take i)).length c] * (sbuf 149 4 A (l ++ recF (ls + 1) (fr.take i)).length c ((l ++ recF (ls + 1) (fr.take i)).flatMap rcc) * (dkH db d * R)) = H') ⟨0, A, c, Nat.zero_le _, rfl, rfl, rfl, (by rw [List.take_zero]; show row jb _ [_, _, _, _, .slice A (l ++ []).length c] * (sbuf _ 4 A (l ++ []).length c ((l ++ []).flatMap rcc) * _) = _; rw [List.append_nil]; ac_rfl)⟩ (Sc 57 rfl (Sc 0 rfl (Sc 1 rfl (Sc 6 rfl (Sc 7 rfl (Sc 8 rfl (Sc 9 rfl (Sc 10 rfl (Sc 13 rfl (Sc 14 rfl (Sc 15 rfl (Sc 16 rfl (Sc 17 rfl (Sc 18 rfl (Sc 19 rfl (Sc 20 rfl (Sc 21 rfl (Sc 22 rfl (Sc 23 rfl (Sc 24 rfl (Sc 25 rfl (Sc 26 rfl (Sc 27 rfl (Sc 28 rfl (Sc 29 rfl (Sc 30 rfl (Sc 31 rfl (Sc 32 rfl (Sc 33 rfl (Sc 34 rfl (Sc 35 rfl (Sc 36 rfl (Sc 38 rfl (Sc 39 rfl (Sc 40 rfl (Sc 41 rfl (Sc 42 rfl (Sc 43 rfl (Sc 44 rfl (Sc 45 rfl (Sc 46 rfl (Sc 47 rfl (Sc 48 rfl (Sc 49 rfl (Sc 50 rfl (Sc 51 rfl (Sc 52 rfl (Sc 53 rfl (Sc 54 rfl (Sc 55 rfl (Sc 56 rfl (Sub.nil _)))))))))))))))))))))))))))))))))))))))))))))))))))) ?_
    rintro m ρ' B' H' ⟨i, A, c, hi, rfl, rfl, rfl, rfl⟩
    refine Cq (fun K20 k20 => ?_)
    refine Cr <| Lx.y (lss rfl rfl) rfl <| Lx.nil <| ?_
    refine Xx.tn (k20 _ _ _ _ ?_)
    refine Cq (fun K21 k21 => ?_)
    refine Cx.condD rfl (fun h22 => ?_) (fun h22 => ?_)
    ·
     have hlt := h22
     have hlt : i < fr.length := by omega
     obtain ⟨b0, o0, cs0, et0, fz0, hA0, hB0, hc0⟩ := DkF.flat_at fmc_len hRo hlt
     obtain ⟨x, hx⟩ : ∃ x, x = fr[i] := ⟨_, rfl⟩
     rw [← hx] at hc0
     have hsn : l ++ recF (ls + 1) (fr.take (i + 1)) = (l ++ recF (ls + 1) (fr.take i)) ++ [(⟨ls + 1, x.pos, x.body, x.good⟩ : Rc)] := by rw [List.take_succ_eq_append_getElem hlt, recF_snoc, hx, List.append_assoc]
     have hrl2 : (l ++ recF (ls + 1) (fr.take i)).length = l.length + i := by rw [List.length_append, recF_len, List.length_take]; omega
     refine Cx.skip ?_
     refine Xx.tn (k21 _ _ _ _ ?_)
     refine Cq (fun K23 k23 => ?_)
     refine Cx.block ?_
     refine Cq (fun K24 k24 => ?_)
     refine Cr <| Lx.y (Yx.val (ia (b := b0) (o := o0) U164 sz168 (by rw [← hA0]; rfl) rfl (Int.toNat_natCast _) (by omega) (by omega)) rfl) rfl <| Lx.y (ldA U168 rfl sz168 rfl (Cells.base (n := 3) hB0 hc0) rfl) rfl <| ?_
     refine Lx.new (allocO ti168) rfl (fun bf => ?_)
     refine Lx.st (stA (d := .bool) sz168 rfl rfl rfl rfl (by show 0 + 3 ≤ 3; omega) rfl) ?_
     refine Lx.nil ?_
     refine Xx.tn (k24 _ _ _ _ ?_)
     refine Cx.drawn (by kernel_rfl) ?_
     refine Dx.p (i := 0) rfl (by kernel_rfl) (mv rfl) rfl ?_
     refine Dx.p (i := 1) rfl (by kernel_rfl) (mv rfl) rfl ?_
     refine Dx.p (i := 2) rfl (by kernel_rfl) (nilc rfl) rfl ?_
     refine Dx.p (i := 3) rfl (by kernel_rfl) (fa' fo143_4 rfl) rfl ?_
     refine Dx.r (i := 4) rfl (by kernel_rfl) (ld U141 rfl rfl rfl) rfl ?_
     refine Dx.p (i := 5) rfl (by kernel_rfl) (mv rfl) rfl ?_
     refine Dx.p (i := 6) rfl (by kernel_rfl) (nilc rfl) rfl ?_
     refine Dx.p (i := 7) rfl (by kernel_rfl) (fa' fo143_2 rfl) rfl ?_
     refine Dx.r (i := 8) rfl (by kernel_rfl) (ld U3 rfl rfl rfl) rfl ?_
     refine Dx.p (i := 9) rfl (by kernel_rfl) (fa' fo168_0 rfl) rfl ?_
     refine Dx.r (i := 10) rfl (by kernel_rfl) (ld U3 rfl rfl rfl) rfl ?_
     refine Dx.p (i := 11) rfl (by kernel_rfl) (fa' fo168_1 rfl) rfl ?_
     refine Dx.r (i := 12) rfl (by kernel_rfl) (ld U9 rfl rfl rfl) rfl ?_
     refine Dx.p (i := 13) rfl (by kernel_rfl) (fa' fo168_2 rfl) rfl ?_
     refine Dx.r (i := 14) rfl (by kernel_rfl) (ld U4 rfl rfl rfl) rfl ?_
     refine Dx.p (i := 15) rfl (by kernel_rfl) (bld ti149 pl149 rfl rfl) rfl ?_
     refine Dx.one (i := 16) (by kernel_rfl) ?_
     refine Dstep.o (i := 16) rfl (bslA U141 ti149 rfl rfl (by decide)) rfl (fun v B' H' hΦ hB => ?_)
     obtain ⟨bv, rfl, Y, rfl⟩ := hΦ; have E := Y.symm; subst E; clear hB
     refine ⟨Jy (Jy (Jy (Jy (Jy (Jt) (ld U141 rfl rfl rfl)) (ld U3 rfl rfl rfl)) (ld U3 rfl rfl rfl)) (ld U9 rfl rfl rfl)) (ld U4 rfl rfl rfl), ?_⟩
     refine Dx.one (i := 17) (by kernel_rfl) ?_
     refine Dstep.o (i := 17) rfl (appN (A := A) ((l ++ recF (ls + 1) (fr.take i)).length + 1) (rcc ⟨ls + 1, x.pos, x.body, x.good⟩) (((l ++ recF (ls + 1) (fr.take i)) ++ [(⟨ls + 1, x.pos, x.body, x.good⟩ : Rc)]).flatMap rcc) U141 U141 ti149 rfl rfl rfl rfl rfl (by omega) (by omega) rfl (by simp only [List.flatMap_append, List.flatMap_cons, List.flatMap_nil, List.append_nil])) rfl (fun v B' H' hΦ hB => ?_)
     obtain ⟨A2, c2, rfl, hA2, hl2, hc2, hBB, rfl⟩ := hΦ
     have hBB2 := hBB.symm
     subst hBB2
     refine ⟨Jy (Jy (Jy (Jy (Je (Jt) (by kernel_rfl)) (ld U3 rfl rfl rfl)) (ld U3 rfl rfl rfl)) (ld U9 rfl rfl rfl)) (ld U4 rfl rfl rfl), ?_⟩
     refine Dx.p (i := 18) rfl (by kernel_rfl) (nilc rfl) rfl ?_
     refine Dx.p (i := 19) rfl (by kernel_rfl) (fa' fo143_4 rfl) rfl ?_
     refine Dx.one (i := 20) (by kernel_rfl) ?_
     refine Dstep.o0 (i := 20) rfl (stO U141 sz141 rfl rfl rfl (by show 4 < 5; omega) rfl) (fun v B' H' hΦ hB => ?_)
     obtain ⟨Y, rfl⟩ := hΦ; have E := Y.symm; subst E; clear hB v
     refine ⟨Je (Je (Je (Je (Je (Jt) (by kernel_rfl)) (by kernel_rfl)) (by kernel_rfl)) (by kernel_rfl)) (by kernel_rfl), ?_⟩
     refine Dx.done (by kernel_rfl) ?_
     refine Xx.bn ?_
     refine Xx.tn (k23 _ _ _ _ ?_)
     refine Xx.dropB bv (Xx.dropB bf ?_)
     have hsl : (l ++ recF (ls + 1) (fr.take (i + 1))).length = (l ++ recF (ls + 1) (fr.take i)).length + 1 := by rw [hsn, List.length_append]; rfl
     refine Cr <| Lx.y (Yx.val (add rfl rfl (by first | exact wrap64 (by omega) (by omega) | rfl)) (show _ = i64 ((i + 1 : Nat) : Int) from rfl)) rfl <| Lx.y (mv rfl) rfl <| Lx.nil <| ?_
     exact Xx.againK ⟨i + 1, A2, c2, hlt, rfl, rfl, rfl, (by rw [hsl, hsn])⟩ (by omega) (Sc 57 rfl (Sc 0 rfl (Sc 1 rfl (Sc 6 rfl (Sc 7 rfl (Sc 8 rfl (Sc 9 rfl (Sc 10 rfl (Sc 13 rfl (Sc 14 rfl (Sc 15 rfl (Sc 16 rfl (Sc 17 rfl (Sc 18 rfl (Sc 19 rfl (Sc 20 rfl (Sc 21 rfl (Sc 22 rfl (Sc 23 rfl (Sc 24 rfl (Sc 25 rfl (Sc 26 rfl (Sc 27 rfl (Sc 28 rfl (Sc 29 rfl (Sc 30 rfl (Sc 31 rfl (Sc 32 rfl (Sc 33 rfl (Sc 34 rfl (Sc 35 rfl (Sc 36 rfl (Sc 38 rfl (Sc 39 rfl (Sc 40 rfl (Sc 41 rfl (Sc 42 rfl (Sc 43 rfl (Sc 44 rfl (Sc 45 rfl (Sc 46 rfl (Sc 47 rfl (Sc 48 rfl (Sc 49 rfl (Sc 50 rfl (Sc 51 rfl (Sc 52 rfl (Sc 53 rfl (Sc 54 rfl (Sc 55 rfl (Sc 56 rfl (Sub.nil _))))))))))))))))))))))))))))))))))))))))))))))))))))
    ·
     have hge := h22
     obtain rfl : i = fr.length := by omega
     rw [List.take_length]
     refine Cx.exit <| Xx.te <| Xx.te <| Xx.bh <| ?_
     refine Xx.tn (k18 _ _ _ _ ?_)
     refine Cq (fun K25 k25 => ?_)
     refine Cr <| Lx.y (mv rfl) rfl <| Lx.y (mv rfl) rfl <| Lx.y (lenS U9 rfl) rfl <| Lx.y (lss rfl rfl) rfl <| Lx.nil <| ?_
     refine Xx.tn (k25 _ _ _ _ ?_)
     refine Cx.condD rfl (fun h26 => ?_) (fun h26 => ?_)
     ·
      have hend := h26
      have hfin : (openF d.abs.fs (d.abs.fs.length + 1) ([], 0, 0)) = (l ++ recF (ls + 1) fr, ls + 1, f.m.now.length) := by rw [← hst]; unfold openF; rw [hsome]; simp only [← hfr]; rw [if_pos (by omega)]
      refine Cq (fun K27 k27 => ?_)
      refine Cr <| Lx.y (mv rfl) rfl <| Lx.y (asg rfl) rfl <| Lx.y (asg rfl) rfl <| Lx.nil <| ?_
      refine Xx.tn (k27 _ _ _ _ ?_)
      refine Cx.ret ?_
      refine Xx.br ?_
      refine Xx.tr ?_
      refine Xx.br ?_
      exact Xx.ret2 rfl rfl rfl ⟨jb, A, c, rfl, rfl⟩ hBle3 (by rw [hfin]; unfold jnH jcs; ac_rfl)
     ·
      have hend := h26
      have hst2 : openF d.abs.fs n (l ++ recF (ls + 1) fr, ls + 1, f.m.now.length) = (openF d.abs.fs (d.abs.fs.length + 1) ([], 0, 0)) := by rw [← hst]; conv => rhs; unfold openF; rw [hsome]; simp only [← hfr]; rw [if_neg (by omega)]
      refine Cx.skip <| Xx.bn <| ?_
      exact Xx.againK ⟨n, ls + 1, f.m.now.length, l ++ recF (ls + 1) fr, A, c, _, ⟨hst2, by omega, hrun2, by rw [List.length_append, recF_len]; omega, hBle3⟩, rfl, rfl, rfl, rfl⟩ (by omega) (Sc 0 rfl (Sc 1 rfl (Sc 6 rfl (Sc 13 rfl (Sc 14 rfl (Sc 15 rfl (Sc 16 rfl (Sc 17 rfl (Sc 18 rfl (Sc 19 rfl (Sc 20 rfl (Sc 21 rfl (Sc 22 rfl (Sc 23 rfl (Sc 24 rfl (Sub.nil _))))))))))))))))
end Jn2
end Go.Proofs.YthlfffbcligocaaGreat
