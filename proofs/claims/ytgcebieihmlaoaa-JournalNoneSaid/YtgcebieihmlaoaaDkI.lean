/-
  A file read, made sure.
-/
import Derived.Test.YtgcebieihmlaoaaProg
import Derived.Test.YtgcebieihmlaoaaSlj
import Derived.Test.YtgcebieihmlaoaaDkH
namespace Go.Proofs.Ytgcebieihmlaoaa
open Go.SL Go.RowKit
set_option linter.unusedVariables false
set_option linter.unusedSimpArgs false
set_option maxRecDepth 100000
open DkA DkB DkC DkD DkE DkF DkG DkH
namespace DkI
theorem sz3 : (Try.prog.info? 3).map (·.size) = some 1 := by kernel_rfl
theorem sz5 : (Try.prog.info? 5).map (·.size) = some 1 := by kernel_rfl
theorem sz25 : (Try.prog.info? 25).map (·.size) = some 3 := by kernel_rfl
theorem ti3 : TI Try.prog 3 [.int .i64 0] 1 8 := TI.of (by kernel_rfl) rfl rfl
theorem ti5 : TI Try.prog 5 [.int .u8 0] 1 1 := TI.of (by kernel_rfl) rfl rfl
theorem ti102 : TI Try.prog 102 [.slice none 0 0, .slice none 0 0, .slice none 0 0] 3 72 := TI.of (by kernel_rfl) rfl rfl
theorem fo102_0 : FO Try.prog 102 0 0 1 false := FO.of Try.underlying102 rfl rfl (by kernel_rfl) Try.underlying80 rfl rfl

theorem b2S {P : Program} {ρ : Sl} {ty src dst et : TypeId} {x : Operand} {l : List UInt8} {A : Option Addr} {n c N0 : Nat} {B : Frag} {H R : HP} (hs : P.underlying src = some (.slice et)) (he' : P.underlying et = some (.int .u8)) (hd : P.underlying dst = some .string) (hx : ev ρ x = some (.slice A n c)) [hp : PickS H A et 1 n c (u8s l) R] : Yx P (.convert src dst x) ty ρ (St N0 B H) (str l) :=
  ⟨fun _ h => (by cases h), fun f w dst' pos after guard he s => (b2s hs he' hd hx (Src'.sbuf (et := et) (c := c) (by
    rcases (s.of_eq hp.eq).cases_sbuf with ⟨e1, e2, _, e4, _⟩ | ⟨b, sp, e1, e2, _⟩
    · exact .inl ⟨e1, e2, e4⟩
    · exact .inr ⟨b, e1, e2⟩)) hp.eq).2 f w dst' pos after guard he s⟩
def errM (D : Dm) (n : Int) : Int := if D.dead = true then 7 else match findM n D.fs with
  | none => 2
  | some _ => 0
def fileP (d : Dk) (n : Int) : Option Addr := if d.dead = true then none else (findF n d.fs).map fun f => ⟨f.b, 0, none⟩
theorem fileV_eq (d : Dk) (n : Int) : fileV d n = .tuple #[.pointer (fileP d n), i64 (errM d.abs n)] := by
  unfold fileV fileP errM
  rw [show d.abs.dead = d.dead from rfl]
  split
  · rfl
  · have := findF_m n d.fs
    rw [show d.abs.fs = d.fs.map (·.m) from rfl, ← this]
    cases findF n d.fs <;> rfl
theorem file_ok {d : Dk} {n : Int} (h : errM d.abs n = 0) : d.dead = false ∧ ∃ f, findF n d.fs = some f ∧ fileP d n = some ⟨f.b, 0, none⟩ ∧ fileM n d.abs.fs = f.m := by
  unfold errM at h
  split at h
  · cases h
  · rename_i hd
    have hd' : d.dead = false := by
      cases hq : d.dead with
      | false => rfl
      | true => exact absurd hq hd
    have hm := findF_m n d.fs
    rw [show d.abs.fs = d.fs.map (·.m) from rfl, ← hm] at h
    cases hq : findF n d.fs with
    | none => rw [hq] at h; cases h
    | some f =>
      rw [hq] at hm
      exact ⟨hd', f, rfl, by unfold fileP; rw [if_neg (by rw [hd']; decide), hq]; rfl, by unfold fileM; rw [show d.abs.fs = d.fs.map (·.m) from rfl, ← hm]; rfl⟩
theorem file_ct2 (d : Dk) (db : Nat) (n : Int) (B : Frag) : CtC Try.prog 47 [.pointer (some ⟨db, 0, none⟩), i64 n] B (dkH db d) (.tuple #[.pointer (fileP d n), i64 (errM d.abs n)]) (dkH db d) := by
  rw [← fileV_eq]; exact file_ct d db n B
/-- one file of a disk, apart -/
theorem dkH_at {d : Dk} {db : Nat} {n : Int} {f : Fi} (h : findF n d.fs = some f) : ∃ Rf, dkH db d = row db 97 (dcs d) * (imap d.mb (d.fs.map fkv) * (sbuf 25 3 d.Ap d.plan.length d.cp (d.plan.flatMap scs) * (fiH f * Rf))) ∧ (∀ f' : Fi, f'.m.n = n → fisH (setF f' d.fs) = fiH f' * Rf) ∧ fisH d.fs = fiH f * Rf ∧ fisH (delF n d.fs) = Rf := by
  obtain ⟨Rf, e1, e2, e3⟩ := fisH_find h
  exact ⟨Rf, by unfold dkH; rw [e1], e2, e1, e3⟩

set_option maxHeartbeats 2000000 in
theorem Read_ct (d : Dk) (db : Nat) (n : Int) (B : Frag) (hF : d.abs.Fit) : CtC Try.prog 14 [.pointer (some ⟨db, 0, none⟩), i64 n] B (dkH db d) (.tuple #[str (if errM d.abs n = 0 then (fileM n d.abs.fs).now else []), i64 (errM d.abs n)]) (dkH db d) := by
  refine Ct.of_body Try.func14 rfl (nt := 22) rfl (by kernel_rfl) rfl ?_
  intro N0 w0 R
  refine Cx.seq (fun K1 k1 => ?_)
  refine Cx.region ?_
  refine Lx.y (asg rfl) rfl ?_
  refine Lx.y (asg rfl) rfl ?_
  refine Lx.nil ?_
  refine Xx.tn (k1 _ _ _ _ ?_)
  refine Cx.seq (fun K2 k2 => ?_)
  refine Cx.region ?_
  refine Lx.y (mv rfl) rfl ?_
  refine Lx.y (mv rfl) rfl ?_
  refine Lx.co rfl rfl rfl (file_ct2 d db n _) (rfl) rfl ?_
  refine Lx.y (mv rfl) rfl ?_
  refine Lx.y (ext rfl rfl) rfl ?_
  refine Lx.y (ext rfl rfl) rfl ?_
  refine Lx.y (asg rfl) rfl ?_
  refine Lx.y (asg rfl) rfl ?_
  refine Lx.nil ?_
  refine Xx.tn (k2 _ _ _ _ ?_)
  refine Cx.seq (fun K3 k3 => ?_)
  refine Cx.seq (fun K4 k4 => ?_)
  refine Cx.region ?_
  refine Lx.y (mv rfl) rfl ?_
  refine Lx.y (neI rfl rfl) rfl ?_
  refine Lx.nil ?_
  refine Xx.tn (k4 _ _ _ _ ?_)
  refine Cx.condN rfl (fun h5 => ?_) (fun h5 => ?_)
  · skip
    have he := h5
    refine Cx.seq (fun K6 k6 => ?_)
    refine Cx.region ?_
    refine Lx.y (mv rfl) rfl ?_
    refine Lx.y (asg rfl) rfl ?_
    refine Lx.y (asg rfl) rfl ?_
    refine Lx.nil ?_
    refine Xx.tn (k6 _ _ _ _ ?_)
    refine Cx.ret ?_
    refine Xx.tr ?_
    exact Xx.ret2 rfl rfl rfl ⟨by rw [if_neg he]; rfl, rfl, rfl⟩ (Frag.le_refl _) rfl
  · skip
    have he := h5
    obtain ⟨hd, f, hff, hfp, hfm⟩ := file_ok he
    obtain ⟨Rf, hH, hset, hfs, hdel⟩ := dkH_at (db := db) hff
    rw [hfp, hH, show fiH f = row f.b 102 (fcs f) * (sbuf 5 1 f.An f.m.now.length f.cn (u8s f.m.now) * (sbuf 5 1 f.As f.m.sure.length f.cs (u8s f.m.sure) * sbuf 3 1 f.Al f.m.loose.length f.cl (nv f.m.loose))) from rfl]
    simp only [star_assoc]
    refine Cx.skip ?_
    refine Xx.tn (k3 _ _ _ _ ?_)
    refine Cx.seq (fun K7 k7 => ?_)
    refine Cx.region ?_
    refine Lx.y (mv rfl) rfl ?_
    refine Lx.y (nilc rfl) rfl ?_
    refine Lx.y (fa' fo102_0 rfl) rfl ?_
    refine Lx.y (Yx.val (ld Try.underlying80 rfl rfl rfl) (show _ = Value.slice f.An f.m.now.length f.cn from rfl)) rfl ?_
    refine Lx.y (b2S (A := f.An) Try.underlying80 Try.underlying5 Try.underlying9 rfl) rfl ?_
    refine Lx.y (asg rfl) rfl ?_
    refine Lx.y (asg rfl) rfl ?_
    refine Lx.nil ?_
    refine Xx.tn (k7 _ _ _ _ ?_)
    refine Cx.ret ?_
    exact Xx.ret2 rfl rfl rfl ⟨by rw [if_pos he, hfm, he], rfl, rfl⟩ (Frag.le_refl _) (by rw [hH]; unfold fiH; ac_rfl)
end DkI
end Go.Proofs.Ytgcebieihmlaoaa
