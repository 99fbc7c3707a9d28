/-
  Texts of this seat, one behind the other: Jn3, Jn4, Jn5, Jn6, Jn11, Jn12, VhP, VhQ, VhR, VhS, VhT, VhU, VhV, VhW, VhX, VhY.
-/
import Derived.Test.YthlfffbcligocaaGreatProg
import Derived.Test.YthlfffbcligocaaGreatMf5
set_option linter.unusedSimpArgs false
set_option linter.unusedVariables false
namespace Go.Proofs.YthlfffbcligocaaGreat
open Go.SL Go.RowKit
set_option maxRecDepth 100000
open DkA DkB DkC DkD DkE DkF DkG DkH DkI DkJ DkK DkL DkM DkN Fr1 Jn1 Jn2
namespace Jn3
theorem sz3 : (Tryz.prog.info? 3).map (·.size) = some 1 := by kernel_rfl
theorem sz4 : (Tryz.prog.info? 4).map (·.size) = some 1 := by kernel_rfl
theorem sz9 : (Tryz.prog.info? 9).map (·.size) = some 1 := by kernel_rfl
theorem sz141 : (Tryz.prog.info? 141).map (·.size) = some 1 := by kernel_rfl
theorem sz149 : (Tryz.prog.info? 149).map (·.size) = some 4 := by kernel_rfl
theorem ti5 : TI Tryz.prog 5 [.int .u8 0] 1 1 := TI.of (by kernel_rfl) rfl rfl
theorem ti143 : TI Tryz.prog 143 [.pointer none, .int .i64 0, .int .i64 0, .int .i64 0, .slice none 0 0] 5 56 := TI.of (by kernel_rfl) rfl rfl
theorem ti146 : TI Tryz.prog 146 [.pointer none, .slice none 0 0] 2 32 := TI.of (by kernel_rfl) rfl rfl
theorem ti149 : TI Tryz.prog 149 [.int .i64 0, .int .i64 0, str [], .bool false] 4 40 := TI.of (by kernel_rfl) rfl rfl
theorem fo143_0 : FO Tryz.prog 143 0 0 1 false := FO.of U143 rfl rfl (by kernel_rfl) U27 rfl rfl
theorem fo143_1 : FO Tryz.prog 143 1 1 1 false := FO.of U143 rfl rfl (by kernel_rfl) U3 rfl rfl
theorem fo143_2 : FO Tryz.prog 143 2 2 1 false := FO.of U143 rfl rfl (by kernel_rfl) U3 rfl rfl
theorem fo143_3 : FO Tryz.prog 143 3 3 1 false := FO.of U143 rfl rfl (by kernel_rfl) U3 rfl rfl
theorem fo143_4 : FO Tryz.prog 143 4 4 1 false := FO.of U143 rfl rfl (by kernel_rfl) U141 rfl rfl
theorem fo149_1 : FO Tryz.prog 149 1 1 1 false := FO.of U149 rfl rfl (by kernel_rfl) U3 rfl rfl
theorem pl149 : PL Tryz.prog 149 [(0, 1), (1, 1), (2, 1), (3, 1)] := PL.of U149 (by kernel_rfl)
def allF (bodies : List (List UInt8)) : List UInt8 := (bodies.map fun s => headL s ++ s).flatten
theorem allF_snoc (xs : List (List UInt8)) (s : List UInt8) : allF (xs ++ [s]) = allF xs ++ (headL s ++ s) := by simp [allF]
theorem allF_len_take (xs : List (List UInt8)) (i : Nat) : (allF (xs.take i)).length ≤ (allF xs).length := by
  conv => rhs; rw [← List.take_append_drop i xs]
  unfold allF
  rw [List.map_append, List.flatten_append, List.length_append]; omega
def fileOf (j : Jn) : Nat := max j.last 1 + if j.most ≤ (j.long : Int) then 1 else 0
def recsAt (file a : Nat) : List (List UInt8) → List Rc
  | [] => []
  | s :: ss => ⟨file, a + 12, s, true⟩ :: recsAt file (a + 12 + s.length) ss
theorem headL_len' (l : List UInt8) : (headL l).length = 12 := headL_len l
theorem recsAt_snoc (file : Nat) : ∀ (xs : List (List UInt8)) (a : Nat) (s : List UInt8), recsAt file a (xs ++ [s]) = recsAt file a xs ++ [(⟨file, a + (allF xs).length + 12, s, true⟩ : Rc)] := by
  intro xs
  induction xs with
  | nil => intro a s; rfl
  | cons x xs ih =>
    intro a s
    rw [List.cons_append]
    simp only [recsAt]
    rw [ih, List.cons_append]
    have : (allF (x :: xs)).length = 12 + x.length + (allF xs).length := by
      show ((headL x ++ x) ++ allF xs).length = _
      rw [List.length_append, List.length_append, headL_len]
    rw [this, show a + (12 + x.length + (allF xs).length) + 12 = a + 12 + x.length + (allF xs).length + 12 by omega]
theorem recsAt_len (file : Nat) : ∀ (xs : List (List UInt8)) (a : Nat), (recsAt file a xs).length = xs.length := by
  intro xs
  induction xs with
  | nil => intro a; rfl
  | cons x xs ih => intro a; simp [recsAt, ih]
def shR (a : Nat) (r : Rc) : Rc := { r with at_ := r.at_ + a }
theorem recsAt_sh (file : Nat) : ∀ (xs : List (List UInt8)) (a b : Nat), (recsAt file b xs).map (shR a) = recsAt file (b + a) xs := by
  intro xs
  induction xs with
  | nil => intro a b; rfl
  | cons x xs ih =>
    intro a b
    simp only [recsAt, List.map_cons, ih]
    congr 1
    · unfold shR; simp only; congr 1; omega
    · rw [show b + 12 + x.length + a = b + a + 12 + x.length by omega]
def mixF (a : Nat) (l : List Rc) (i : Nat) : List Rc := (l.take i).map (shR a) ++ l.drop i
theorem mix_len (a : Nat) (l : List Rc) (i : Nat) : (mixF a l i).length = l.length := by
  unfold mixF; rw [List.length_append, List.length_map, List.length_take, List.length_drop]; omega
theorem mix_at (a : Nat) (l : List Rc) {i : Nat} (h : i < l.length) : (mixF a l i)[i]'(by rw [mix_len]; exact h) = l[i] := by
  unfold mixF
  rw [List.getElem_append_right (by rw [List.length_map, List.length_take]; omega)]
  simp [List.length_take, Nat.min_eq_left (Nat.le_of_lt h)]
theorem mix_set (a : Nat) (l : List Rc) {i : Nat} (h : i < l.length) : (mixF a l i).set i (shR a l[i]) = mixF a l (i + 1) := by
  unfold mixF
  rw [List.set_append_right _ _ (by rw [List.length_map, List.length_take]; omega), List.length_map, List.length_take, Nat.min_eq_left (Nat.le_of_lt h), Nat.sub_self, List.take_succ_eq_append_getElem h, List.map_append, List.append_assoc]
  congr 1
  rw [List.drop_eq_getElem_cons h]; rfl
theorem rcc_set : ∀ (l : List Rc) (i : Nat) (h : i < l.length) (v : Nat), (l.flatMap rcc).set (i * 4 + 1) (i64 (v : Int)) = (l.set i { l[i] with at_ := v }).flatMap rcc := by
  intro l
  induction l with
  | nil => intro i h; simp at h
  | cons x l ih =>
    intro i h v
    cases i with
    | zero => rfl
    | succ i =>
      have h' : i < l.length := by simpa using h
      rw [List.flatMap_cons, List.set_cons_succ, List.flatMap_cons, List.getElem_cons_succ, ← ih i h' v, List.set_append_right _ _ (by rw [rcc_len]; omega), rcc_len, show (i + 1) * 4 + 1 - 4 = i * 4 + 1 by omega]
theorem mix_all (a : Nat) (l : List Rc) : mixF a l l.length = l.map (shR a) := by unfold mixF; simp
theorem rcc_at (l : List Rc) {i : Nat} (h : i < l.length) : (l.flatMap rcc)[i * 4 + 1]? = some (i64 ((l[i].at_ : Nat) : Int)) := by
  have h1 := DkF.flatG_at rcc_len i l h
  have h2 : ((l.flatMap rcc).drop (i * 4))[1]? = some (i64 ((l[i].at_ : Nat) : Int)) := by
    have h3 : (((l.flatMap rcc).drop (i * 4)).take 4)[1]? = some (i64 ((l[i].at_ : Nat) : Int)) := by rw [h1]; rfl
    rwa [List.getElem?_take_of_lt (by decide)] at h3
  rwa [List.getElem?_drop] at h2
theorem append_at {D : Dm} {n : Int} {s : List UInt8} (h : (appendD D n s).2.2 = 0) : (appendD D n s).2.1 = (((fileM n D.fs).now.length : Nat) : Int) := by
  unfold appendD at h ⊢
  split at h
  · cases h
  · rename_i h1
    rw [if_neg h1]
    split at h
    · cases h
    · rename_i h2
      rw [if_neg h2]
      split at h
      · cases h
      · rename_i h3
        rw [if_neg h3]
        split at h
        · cases h
        · rename_i h4
          rw [if_neg h4]
def addD (D : Dm) (file : Nat) (all : List UInt8) : Dm × Int :=
  if (appendD D (file : Int) all).2.2 ≠ 0 then ((appendD D (file : Int) all).1, (appendD D (file : Int) all).2.2)
  else syncD (appendD D (file : Int) all).1 (file : Int)
theorem max_val (n : Nat) : (if (1 : Int) > (n : Int) then (1 : Int) else (n : Int)) = ((max n 1 : Nat) : Int) := by split <;> omega
theorem rec_bound (file : Nat) : ∀ (xs : List (List UInt8)) (a i : Nat) (h : i < (recsAt file a xs).length), (recsAt file a xs)[i].at_ ≤ a + (allF xs).length := by
  intro xs
  induction xs with
  | nil => intro a i h; simp [recsAt] at h
  | cons x xs ih =>
    intro a i h
    have hl : (allF (x :: xs)).length = 12 + x.length + (allF xs).length := by
      show ((headL x ++ x) ++ allF xs).length = _
      rw [List.length_append, List.length_append, headL_len]
    rw [hl]
    cases i with
    | zero => show a + 12 ≤ _; omega
    | succ i =>
      have := ih (a + 12 + x.length) i (by simpa [recsAt] using h)
      show ((recsAt file (a + 12 + x.length) xs)[i]'(by simpa [recsAt] using h)).at_ ≤ _
      omega
set_option maxHeartbeats 8000000 in
theorem JAdd_ct (jb : Nat) (j : Jn) (d : Dk) (bodies : List (List UInt8)) (Ab : Option Addr) (cb K L C : Nat) (B : Frag) (hRb : RoS B 1 Ab bodies.length (bodies.map str)) (hc : DkN.Calm K L C d.abs) (hK : K ≤ 900000) (hL : L ≤ 10000000000) (hC : C ≤ 1000000000) (hbs : ∀ s ∈ bodies, s.length ≤ 65536) (hall : (allF bodies).length ≤ 10000000000) (hbl : bodies.length ≤ 1000000) (hjl : j.l.length ≤ 1000000000) (hjf : j.last ≤ 1000000000) : Ct Tryz.prog 48 [.pointer (some ⟨jb, 0, none⟩), .slice Ab bodies.length cb] B (jnH jb j * dkH j.db d) (fun v B' H' => ∃ d' : Dk, d'.abs = (addD d.abs (fileOf j) (allF bodies)).1 ∧ (((addD d.abs (fileOf j) (allF bodies)).2 ≠ 0 ∧ v = .tuple #[i64 0, i64 (addD d.abs (fileOf j) (allF bodies)).2] ∧ H' = jnH jb j * dkH j.db d') ∨ ((addD d.abs (fileOf j) (allF bodies)).2 = 0 ∧ v = .tuple #[i64 (j.l.length : Int), i64 0] ∧ ∃ Al cl, H' = jnH jb { j with last := fileOf j, long := (fileM ((fileOf j : Nat) : Int) d.abs.fs).now.length + (allF bodies).length, l := j.l ++ recsAt (fileOf j) (fileM ((fileOf j : Nat) : Int) d.abs.fs).now.length bodies, Al := Al, cl := cl } * dkH j.db d'))) := by
 have hF := hc.fit (by omega) (by omega) (by omega)
 have hc1 := hc.append ((fileOf j : Nat) : Int) (allF bodies)
 have hF1 := hc1.fit (by omega) (by omega) (by omega)
 have hnow := (hc.file ((fileOf j : Nat) : Int)).2.2.1
 have hfo : fileOf j ≤ 1000000002 := by unfold fileOf; split <;> omega
 refine Ct.of_body Tryz.func48 rfl (nt := 123) rfl (by kernel_rfl) rfl ?_
 intro N0 w0 R
 unfold jnH
 simp only [star_assoc]
 refine Cq (fun K1 k1 => ?_)
 refine Cr <| Lx.y (asg rfl) rfl <| Lx.y (asg rfl) rfl <| Lx.nil <| ?_
 refine Xx.tn (k1 _ _ _ _ ?_)
 refine Cq (fun K2 k2 => ?_)
 refine Cq (fun K3 k3 => ?_)
 refine Cr <| Lx.y (mv rfl) rfl <| Lx.y (Yx.ff (eqNilP U91 rfl rfl) rfl) rfl <| Lx.nil <| ?_
 refine Xx.tn (k3 _ _ _ _ ?_)
 refine Cx.condF rfl <| Cx.skip <| ?_
 refine Xx.tn (k2 _ _ _ _ ?_)
 refine Cq (fun K4 k4 => ?_)
 refine Cr <| Lx.y (mv rfl) rfl <| Lx.y (nilc rfl) rfl <| Lx.y (fa' fo143_2 rfl) rfl <| Lx.y (ld U3 rfl rfl rfl) rfl <| Lx.y (Yx.val (maxI rfl rfl) (show _ = i64 ((max j.last 1 : Nat) : Int) from by rw [max_val])) rfl <| Lx.y (asg rfl) rfl <| Lx.nil <| ?_
 refine Xx.tn (k4 _ _ _ _ ?_)
 refine Cx.cutK (ds' := []) (Sc 0 rfl (Sc 1 rfl (Sc 4 rfl (Sc 5 rfl (Sc 18 rfl (Sc 19 rfl (Sc 20 rfl (Sc 21 rfl (Sc 22 rfl (Sc 23 rfl (Sc 24 rfl (Sub.nil _)))))))))))) (fun ρ' B' H' => ρ' = [(6, i64 ((fileOf j : Nat) : Int))] ∧ B = B' ∧ row jb 143 (jcs j) * (sbuf 149 4 j.Al j.l.length j.cl (j.l.flatMap rcc) * (dkH j.db d * R)) = H') ?_ ?_
 ·
  refine Cq (fun K5 k5 => ?_)
  refine Cx.drawn (by kernel_rfl) ?_
  refine Dx.p (i := 0) rfl (by kernel_rfl) (mv rfl) rfl ?_
  refine Dx.p (i := 1) rfl (by kernel_rfl) (nilc rfl) rfl ?_
  refine Dx.p (i := 2) rfl (by kernel_rfl) (fa' fo143_3 rfl) rfl ?_
  refine Dx.r (i := 3) rfl (by kernel_rfl) (ld U3 rfl rfl rfl) rfl ?_
  refine Dx.p (i := 4) rfl (by kernel_rfl) (mv rfl) rfl ?_
  refine Dx.p (i := 5) rfl (by kernel_rfl) (nilc rfl) rfl ?_
  refine Dx.p (i := 6) rfl (by kernel_rfl) (fa' fo143_1 rfl) rfl ?_
  refine Dx.r (i := 7) rfl (by kernel_rfl) (ld U3 rfl rfl rfl) rfl ?_
  refine Dx.p (i := 8) rfl (by kernel_rfl) (geq rfl rfl) rfl ?_
  refine Dx.done (by kernel_rfl) ?_
  refine Xx.tn (k5 _ _ _ _ ?_)
  refine Cx.condD rfl (fun h6 => ?_) (fun h6 => ?_)
  ·
   have hm := h6
   have hfile : fileOf j = max j.last 1 + 1 := by unfold fileOf; rw [if_pos hm]
   refine Cr <| Lx.y (mv rfl) rfl <| Lx.y (Yx.val (add rfl rfl (by first | exact wrap64 (by omega) (by omega) | rfl)) (show _ = i64 ((fileOf j : Nat) : Int) from by rw [hfile]; rfl)) rfl <| Lx.y (asg rfl) rfl <| Lx.nil <| ?_
   exact Xx.mkK (⟨rfl, rfl, by ac_rfl⟩) (Sc 6 rfl (Sc 0 rfl (Sc 1 rfl (Sc 4 rfl (Sc 5 rfl (Sc 18 rfl (Sc 19 rfl (Sc 20 rfl (Sc 21 rfl (Sc 22 rfl (Sc 23 rfl (Sc 24 rfl (Sub.nil _)))))))))))))
  ·
   have hm := h6
   have hfile : fileOf j = max j.last 1 := by unfold fileOf; rw [if_neg hm]; rfl
   refine Cx.skip ?_
   exact Xx.mkK (⟨rfl, rfl, by ac_rfl⟩) (Sub.consE (s := 6) rfl (by rw [hfile]) (Sc 0 rfl (Sc 1 rfl (Sc 4 rfl (Sc 5 rfl (Sc 18 rfl (Sc 19 rfl (Sc 20 rfl (Sc 21 rfl (Sc 22 rfl (Sc 23 rfl (Sc 24 rfl (Sub.nil _)))))))))))))
 ·rintro ρ' B' H' ⟨rfl, rfl, rfl⟩
  refine Cq (fun K7 k7 => ?_)
  refine Cr ?_
  refine Lx.new (allocO ti146) rfl (fun b7 => ?_)
  refine Lx.nil ?_
  refine Xx.tn (k7 _ _ _ _ ?_)
  refine Cq (fun K8 k8 => ?_)
  refine Cr <| Lx.y (asg rfl) rfl <| Lx.nil <| ?_
  refine Xx.tn (k8 _ _ _ _ ?_)
  refine Cq (fun K9 k9 => ?_)
  refine Cq (fun K10 k10 => ?_)
  refine Cr <| Lx.y (mv rfl) rfl <| Lx.y (lenV (ty' := 0) U43 rfl) rfl <| Lx.y (mv rfl) rfl <| Lx.nil <| ?_
  refine Xx.tn (k10 _ _ _ _ ?_)
  refine Cx.block ?_
  refine Cx.loopK (Sc 0 rfl (Sc 1 rfl (Sc 6 rfl (Sc 7 rfl (Sc 18 rfl (Sc 19 rfl (Sc 20 rfl (Sc 21 rfl (Sc 22 rfl (Sc 23 rfl (Sc 24 rfl (Sc 36 rfl (Sc 37 rfl (Sub.nil _)))))))))))))) (fun m ρ' B' H' => ∃ (i : Nat) (u : Bool) (A3 : Option Addr) (c3 : Nat) (A : Option Addr) (c : Nat), (i ≤ bodies.length ∧ (A3 = none ∨ c3 ≠ 0)) ∧ m = bodies.length - i ∧ ρ' = [(8, .slice A i c), (38, i64 (i : Int))] ∧ B = B' ∧ row jb 143 (jcs j) * (sbuf 149 4 j.Al j.l.length j.cl (j.l.flatMap rcc) * (dkH j.db d * (row b7 146 (bcell b7 u A3 (allF (bodies.take i)).length c3) * (sbuf 5 1 A3 (allF (bodies.take i)).length c3 (u8s (allF (bodies.take i))) * (sbuf 149 4 A i c ((recsAt (fileOf j) 0 (bodies.take i)).flatMap rcc) * R))))) = H') ⟨0, false, none, 0, none, 0, ⟨Nat.zero_le _, .inl rfl⟩, rfl, rfl, rfl, by rw [List.take_zero]; show _ = row b7 _ (bcell b7 false none 0 0) * _; rw [show allF [] = [] from rfl, show recsAt (fileOf j) 0 [] = [] from rfl, show u8s [] = [] from rfl, List.length_nil, List.flatMap_nil, sbuf_nil, sbuf_nil, one_star, one_star]; ac_rfl⟩ (Sc 8 rfl (Sc 38 rfl (Sc 0 rfl (Sc 1 rfl (Sc 6 rfl (Sc 7 rfl (Sc 18 rfl (Sc 19 rfl (Sc 20 rfl (Sc 21 rfl (Sc 22 rfl (Sc 23 rfl (Sc 24 rfl (Sc 36 rfl (Sc 37 rfl (Sub.nil _)))))))))))))))) ?_
  rintro m ρ' B' H' ⟨i, u, A3, c3, A, c, ⟨hi, hz⟩, rfl, rfl, rfl, rfl⟩
  refine Cq (fun K11 k11 => ?_)
  refine Cr <| Lx.y (lss rfl rfl) rfl <| Lx.nil <| ?_
  refine Xx.tn (k11 _ _ _ _ ?_)
  refine Cq (fun K12 k12 => ?_)
  refine Cx.condD rfl (fun h13 => ?_) (fun h13 => ?_)
  ·
   have hlt := h13
   have hlt : i < bodies.length := by omega
   obtain ⟨b0, o0, cs0, et0, fz0, hA0, hB0, hv0⟩ := hRb.at1 hlt
   obtain ⟨s, hs⟩ : ∃ s, s = bodies[i] := ⟨_, rfl⟩
   rw [List.getElem?_map, List.getElem?_eq_getElem hlt, ← hs] at hv0
   have hsl : s.length ≤ 65536 := by rw [hs]; exact hbs _ (List.getElem_mem hlt)
   have hat : (allF (bodies.take i)) ++ (headL s ++ s) = (allF (bodies.take (i + 1))) := by rw [List.take_succ_eq_append_getElem hlt, allF_snoc, hs]
   have hrt : (recsAt (fileOf j) 0 (bodies.take (i + 1))) = (recsAt (fileOf j) 0 (bodies.take i)) ++ [(⟨fileOf j, (allF (bodies.take i)).length + 12, s, true⟩ : Rc)] := by rw [List.take_succ_eq_append_getElem hlt, recsAt_snoc, Nat.zero_add, hs]
   have hal := allF_len_take bodies i
   have hal2 := allF_len_take bodies (i + 1)
   rw [← hat, List.length_append, List.length_append, headL_len] at hal2
   refine Cx.skip ?_
   refine Xx.tn (k12 _ _ _ _ ?_)
   refine Cq (fun K14 k14 => ?_)
   refine Cx.block ?_
   refine Cq (fun K15 k15 => ?_)
   refine Cr <| Lx.y (Yx.val (ia (b := b0) (o := o0) U43 sz9 (by rw [← hA0]; rfl) rfl (Int.toNat_natCast _) (by omega) (by omega)) rfl) rfl <| Lx.y (ldB U9 rfl rfl hB0 hv0) rfl <| Lx.y (asg rfl) rfl <| Lx.nil <| ?_
   refine Xx.tn (k15 _ _ _ _ ?_)
   refine Cq (fun K16 k16 => ?_)
   refine Cr <| Lx.y (mv rfl) rfl <| ?_
   refine Lx.cp rfl rfl rfl (Fr7.MakeY_ct s _ hsl) rfl ?_
   refine Lx.y (mv rfl) rfl <| Lx.y (ext rfl rfl) rfl <| Lx.y (ext rfl rfl) rfl <| Lx.y (asg rfl) rfl <| Lx.y (asg rfl) rfl <| Lx.nil <| ?_
   refine Xx.tn (k16 _ _ _ _ ?_)
   refine Cq (fun K17 k17 => ?_)
   refine Cq (fun K18 k18 => ?_)
   refine Cr <| Lx.y (mv rfl) rfl <| Lx.y (Yx.ff (neI rfl rfl) rfl) rfl <| Lx.nil <| ?_
   refine Xx.tn (k18 _ _ _ _ ?_)
   refine Cx.condF rfl <| Cx.skip <| ?_
   refine Xx.tn (k17 _ _ _ _ ?_)
   refine Cq (fun K19 k19 => ?_)
   refine Cr <| Lx.y (mv rfl) rfl <| Lx.y (mv rfl) rfl <| ?_
   refine Lx.co rfl rfl rfl (BLen_ct b7 u A3 (allF (bodies.take i)).length c3 _) (Pe) rfl ?_
   refine Lx.y (Yx.val (add rfl rfl (by first | exact wrap64 (by omega) (by omega) | rfl)) (show _ = i64 (((allF (bodies.take i)).length + 12 : Nat) : Int) from rfl)) rfl <| Lx.y (mv rfl) rfl <| Lx.y (bld ti149 pl149 rfl rfl) rfl <| ?_
   refine Lx.bsl (bslA U141 ti149 rfl rfl (by decide)) rfl (fun bv => ?_)
   refine Lx.o (appN (et := 149) (A := A) (i + 1) (rcc ⟨fileOf j, (allF (bodies.take i)).length + 12, s, true⟩) ((recsAt (fileOf j) 0 (bodies.take (i + 1))).flatMap rcc) U141 U141 ti149 rfl rfl rfl rfl rfl (by omega) (by omega) rfl (by rw [hrt]; simp only [List.flatMap_append, List.flatMap_cons, List.flatMap_nil, List.append_nil])) rfl (fun v B' H' hΦ hB => ?_)
   obtain ⟨A2, c2, rfl, hA2, hl2, hc2, hBB, rfl⟩ := hΦ
   have hBB2 := hBB.symm
   subst hBB2
   refine Xx.dropB bv ?_
   clear hB
   refine Lx.y (asg rfl) rfl <| Lx.nil <| ?_
   refine Xx.tn (k19 _ _ _ _ ?_)
   refine Cr <| Lx.y (mv rfl) rfl <| ?_
   refine Lx.c rfl rfl rfl (BWrite_ct b7 u A3 (allF (bodies.take i)) (headL s ++ s) c3 _ (by rw [List.length_append, headL_len]; omega)) (pickTwo) rfl ?_
   rintro v4 B4 H4 ⟨hBB, rfl, A4, c4, hc4, rfl⟩ hB4
   have hBB2 := hBB.symm
   subst hBB2
   clear hB4
   simp only [star_assoc]
   refine Lx.nil <| Xx.bn <| ?_
   refine Xx.tn (k14 _ _ _ _ ?_)
   refine Cr <| Lx.y (Yx.val (add rfl rfl (by first | exact wrap64 (by omega) (by omega) | rfl)) (show _ = i64 ((i + 1 : Nat) : Int) from rfl)) rfl <| Lx.y (mv rfl) rfl <| Lx.nil <| ?_
   exact Xx.againK ⟨i + 1, true, A4, c4, A2, c2, ⟨hlt, .inr (hc4 (by rw [List.length_append, List.length_append, headL_len]; omega))⟩, rfl, rfl, rfl, (by rw [hrt, ← hat]; ac_rfl)⟩ (by omega) (Sc 8 rfl (Sc 38 rfl (Sc 0 rfl (Sc 1 rfl (Sc 6 rfl (Sc 7 rfl (Sc 18 rfl (Sc 19 rfl (Sc 20 rfl (Sc 21 rfl (Sc 22 rfl (Sc 23 rfl (Sc 24 rfl (Sc 36 rfl (Sc 37 rfl (Sub.nil _))))))))))))))))
  ·
   have hge := h13
   obtain rfl : i = bodies.length := by omega
   rw [List.take_length]
   refine Cx.exit <| Xx.te <| Xx.te <| Xx.bh <| ?_
   refine Xx.tn (k9 _ _ _ _ ?_)
   refine Cq (fun K20 k20 => ?_)
   refine Cx.drawn (by kernel_rfl) ?_
   refine Dx.p (i := 0) rfl (by kernel_rfl) (mv rfl) rfl ?_
   refine Dx.p (i := 1) rfl (by kernel_rfl) (nilc rfl) rfl ?_
   refine Dx.p (i := 2) rfl (by kernel_rfl) (fa' fo143_0 rfl) rfl ?_
   refine Dx.r (i := 3) rfl (by kernel_rfl) (ld U27 rfl rfl rfl) rfl ?_
   refine Dx.p (i := 4) rfl (by kernel_rfl) (mv rfl) rfl ?_
   refine Dx.one (i := 5) (by kernel_rfl) ?_
   refine Dstep.o (i := 5) rfl (Ox.co rfl rfl rfl (BString_ct b7 u A3 (allF bodies) c3 _ hz (by omega)) (pickTwo)) rfl (fun v B' H' hΦ hB => ?_)
   obtain ⟨rfl, Y, rfl⟩ := hΦ; have E := Y.symm; subst E; clear hB
   refine ⟨Jy (Jt) (ld U27 rfl rfl rfl), ?_⟩
   refine Dx.one (i := 6) (by kernel_rfl) ?_
   refine Dstep.o (i := 6) rfl (Ox.call rfl rfl rfl (Append_ct d j.db ((fileOf j : Nat) : Int) (allF bodies) _ hF (by omega)) (Pick.eq)) rfl (fun v B' H' hΦ hB => ?_)
   obtain ⟨_, rfl, hΦ⟩ := hΦ
   obtain ⟨rfl, d1, hd1, rfl⟩ := hΦ
   have hB2 := hB
   refine ⟨Je (Jt) (by kernel_rfl), ?_⟩
   refine Dx.p (i := 7) rfl (by kernel_rfl) (mv rfl) rfl ?_
   refine Dx.p (i := 8) rfl (by kernel_rfl) (ext rfl rfl) rfl ?_
   refine Dx.p (i := 9) rfl (by kernel_rfl) (ext rfl rfl) rfl ?_
   refine Dx.p (i := 10) rfl (by kernel_rfl) (asg rfl) rfl ?_
   refine Dx.p (i := 11) rfl (by kernel_rfl) (asg rfl) rfl ?_
   refine Dx.done (by kernel_rfl) ?_
   refine Xx.tn (k20 _ _ _ _ ?_)
   refine Cq (fun K21 k21 => ?_)
   refine Cq (fun K22 k22 => ?_)
   refine Cr <| Lx.y (mv rfl) rfl <| Lx.y (neI rfl rfl) rfl <| Lx.nil <| ?_
   refine Xx.tn (k22 _ _ _ _ ?_)
   refine Cx.condN rfl (fun h23 => ?_) (fun h23 => ?_)
   ·
    have he1 := h23
    have had : addD d.abs (fileOf j) (allF bodies) = ((appendD d.abs ((fileOf j : Nat) : Int) (allF bodies)).1, (appendD d.abs ((fileOf j : Nat) : Int) (allF bodies)).2.2) := by unfold addD; rw [if_pos he1]
    refine Cq (fun K24 k24 => ?_)
    refine Cr <| Lx.y (mv rfl) rfl <| Lx.y (asg rfl) rfl <| Lx.y (asg rfl) rfl <| Lx.nil <| ?_
    refine Xx.tn (k24 _ _ _ _ ?_)
    refine Cx.ret <| Xx.tr <| ?_
    refine Xx.dropB b7 (Xx.dropT A ?_)
    exact Xx.ret2 rfl rfl rfl ⟨d1, by rw [had]; exact hd1, .inl ⟨by rw [had]; exact he1, by rw [had]; rfl, rfl⟩⟩ hB2 (by ac_rfl)
   ·
    have he1 := h23
    have had : addD d.abs (fileOf j) (allF bodies) = syncD (appendD d.abs ((fileOf j : Nat) : Int) (allF bodies)).1 ((fileOf j : Nat) : Int) := by unfold addD; rw [if_neg (fun h => h he1)]
    have hapat := append_at he1
    refine Cx.skip ?_
    refine Xx.tn (k21 _ _ _ _ ?_)
    refine Cq (fun K25 k25 => ?_)
    refine Cq (fun K26 k26 => ?_)
    refine Cr <| Lx.y (mv rfl) rfl <| Lx.y (nilc rfl) rfl <| Lx.y (fa' fo143_0 rfl) rfl <| Lx.y (ld U27 rfl rfl rfl) rfl <| Lx.y (mv rfl) rfl <| ?_
    refine Lx.c rfl rfl rfl (Sync_ct d1 j.db ((fileOf j : Nat) : Int) _ (by rw [hd1]; exact hF1)) (rfl) rfl ?_
    rintro v3 B3 H3 ⟨rfl, d2, hd2, rfl⟩ hB3
    rw [hd1] at hd2 ⊢
    rw [← had] at hd2 ⊢
    refine Lx.y (asg rfl) rfl <| Lx.nil <| ?_
    refine Xx.tn (k26 _ _ _ _ ?_)
    refine Cq (fun K27 k27 => ?_)
    refine Cr <| Lx.y (mv rfl) rfl <| Lx.y (neI rfl rfl) rfl <| Lx.nil <| ?_
    refine Xx.tn (k27 _ _ _ _ ?_)
    refine Cx.condN rfl (fun h28 => ?_) (fun h28 => ?_)
    ·
     have he2 := h28
     refine Cq (fun K29 k29 => ?_)
     refine Cr <| Lx.y (mv rfl) rfl <| Lx.y (asg rfl) rfl <| Lx.y (asg rfl) rfl <| Lx.nil <| ?_
     refine Xx.tn (k29 _ _ _ _ ?_)
     refine Cx.ret <| Xx.tr <| ?_
     refine Xx.dropB b7 (Xx.dropT A ?_)
     exact Xx.ret2 rfl rfl rfl ⟨d2, hd2, .inl ⟨he2, rfl, rfl⟩⟩ (Fz hB2 hB3) (by ac_rfl)
    ·
     have he2 := h28
     refine Cx.skip ?_
     refine Xx.tn (k25 _ _ _ _ ?_)
     refine Cq (fun K30 k30 => ?_)
     refine Cq (fun K31 k31 => ?_)
     refine Cr <| Lx.y (mv rfl) rfl <| Lx.y (lenV (ty' := 0) U141 rfl) rfl <| Lx.y (mv rfl) rfl <| Lx.nil <| ?_
     refine Xx.tn (k31 _ _ _ _ ?_)
     refine Cx.block ?_
     refine Cx.loopK (Sc 0 rfl (Sc 1 rfl (Sc 6 rfl (Sc 7 rfl (Sc 8 rfl (Sc 13 rfl (Sc 14 rfl (Sc 15 rfl (Sc 18 rfl (Sc 19 rfl (Sc 20 rfl (Sc 21 rfl (Sc 22 rfl (Sc 23 rfl (Sc 24 rfl (Sc 36 rfl (Sc 37 rfl (Sc 38 rfl (Sc 39 rfl (Sc 61 rfl (Sc 62 rfl (Sc 63 rfl (Sc 64 rfl (Sc 65 rfl (Sc 66 rfl (Sc 67 rfl (Sc 68 rfl (Sc 69 rfl (Sc 70 rfl (Sc 71 rfl (Sc 72 rfl (Sc 74 rfl (Sc 75 rfl (Sc 76 rfl (Sc 77 rfl (Sc 78 rfl (Sc 79 rfl (Sc 80 rfl (Sc 81 rfl (Sc 83 rfl (Sc 84 rfl (Sub.nil _)))))))))))))))))))))))))))))))))))))))))) (fun m ρ' B' H' => ∃ (i : Nat), (i ≤ bodies.length) ∧ m = bodies.length - i ∧ ρ' = [(85, i64 (i : Int))] ∧ B3 = B' ∧ row jb 143 (jcs j) * (sbuf 149 4 j.Al j.l.length j.cl (j.l.flatMap rcc) * (dkH j.db d2 * (row b7 146 (bcell b7 u A3 (allF bodies).length c3) * (sbuf 149 4 A bodies.length c ((mixF (fileM ((fileOf j : Nat) : Int) d.abs.fs).now.length (recsAt (fileOf j) 0 bodies) i).flatMap rcc) * R)))) = H') ⟨0, Nat.zero_le _, rfl, rfl, rfl, (by show _ * (_ * (_ * (_ * (sbuf _ 4 A bodies.length c (((recsAt (fileOf j) 0 bodies)).flatMap rcc) * R)))) = _; ac_rfl)⟩ (Sc 85 rfl (Sc 0 rfl (Sc 1 rfl (Sc 6 rfl (Sc 7 rfl (Sc 8 rfl (Sc 13 rfl (Sc 14 rfl (Sc 15 rfl (Sc 18 rfl (Sc 19 rfl (Sc 20 rfl (Sc 21 rfl (Sc 22 rfl (Sc 23 rfl (Sc 24 rfl (Sc 36 rfl (Sc 37 rfl (Sc 38 rfl (Sc 39 rfl (Sc 61 rfl (Sc 62 rfl (Sc 63 rfl (Sc 64 rfl (Sc 65 rfl (Sc 66 rfl (Sc 67 rfl (Sc 68 rfl (Sc 69 rfl (Sc 70 rfl (Sc 71 rfl (Sc 72 rfl (Sc 74 rfl (Sc 75 rfl (Sc 76 rfl (Sc 77 rfl (Sc 78 rfl (Sc 79 rfl (Sc 80 rfl (Sc 81 rfl (Sc 83 rfl (Sc 84 rfl (Sub.nil _))))))))))))))))))))))))))))))))))))))))))) ?_
     rintro m ρ' B' H' ⟨i, hi2, rfl, rfl, rfl, rfl⟩
     refine Cq (fun K32 k32 => ?_)
     refine Cr <| Lx.y (lss rfl rfl) rfl <| Lx.nil <| ?_
     refine Xx.tn (k32 _ _ _ _ ?_)
     refine Cq (fun K33 k33 => ?_)
     refine Cx.condD rfl (fun h34 => ?_) (fun h34 => ?_)
     ·
      have hlt := h34
      have hlt : i < bodies.length := by omega
      have hrl : i < (recsAt (fileOf j) 0 bodies).length := by rw [recsAt_len]; exact hlt
      have hml : i < (mixF (fileM ((fileOf j : Nat) : Int) d.abs.fs).now.length (recsAt (fileOf j) 0 bodies) i).length := by rw [mix_len]; exact hrl
      have hra := rec_bound (fileOf j) bodies 0 i hrl
      refine Xx.openT A (by omega) (fun bA sp hA hxl hnc hcl => ?_)
      refine Cx.skip ?_
      refine Xx.tn (k33 _ _ _ _ ?_)
      refine Cq (fun K35 k35 => ?_)
      refine Cx.block ?_
      refine Cq (fun K36 k36 => ?_)
      refine Cr <| Lx.y (mv rfl) rfl <| Lx.y (asg rfl) rfl <| Lx.nil <| ?_
      refine Xx.tn (k36 _ _ _ _ ?_)
      refine Cr <| Lx.y (Yx.val (mv rfl) (show _ = Value.slice (some ⟨bA, 0, none⟩) bodies.length c from by rw [← hA])) rfl <| Lx.y (mv rfl) rfl <| Lx.y (ia U141 sz149 rfl rfl (Int.toNat_natCast _) (by omega) (by omega)) rfl <| Lx.y (fa' fo149_1 rfl) rfl <| ?_
      refine Lx.y (ld U3 rfl rfl (v := i64 (((recsAt (fileOf j) 0 bodies)[i].at_ : Nat) : Int)) (by rw [Nat.zero_add, List.getElem?_append_left (by rw [DkF.flatG_len rcc_len]; omega), rcc_at _ hml, mix_at _ _ hrl])) rfl ?_
      refine Lx.y (Yx.val (mv rfl) (show _ = i64 (((fileM ((fileOf j : Nat) : Int) d.abs.fs).now.length : Nat) : Int) from by rw [hapat]; rfl)) rfl <| Lx.y (Yx.val (add rfl rfl (by first | exact wrap64 (by omega) (by omega) | rfl)) (show _ = i64 (((recsAt (fileOf j) 0 bodies)[i].at_ + (fileM ((fileOf j : Nat) : Int) d.abs.fs).now.length : Nat) : Int) from rfl)) rfl <| Lx.y (ia U141 sz149 rfl rfl (Int.toNat_natCast _) (by omega) (by omega)) rfl <| Lx.y (fa' fo149_1 rfl) rfl <| ?_
      refine Lx.st (stO U3 sz3 rfl rfl rfl (by rw [List.length_append, DkF.flatG_len rcc_len]; omega) (frc_gen _ _)) ?_
      refine Lx.nil <| Xx.bn <| ?_
      refine Xx.tn (k35 _ _ _ _ ?_)
      refine Xx.closeT bA ((mixF (fileM ((fileOf j : Nat) : Int) d.abs.fs).now.length (recsAt (fileOf j) 0 bodies) (i + 1)).flatMap rcc) sp 4 bodies.length c (by rw [Nat.zero_add, List.set_append_left _ _ (by rw [DkF.flatG_len rcc_len]; omega), rcc_set _ _ hml, mix_at _ _ hrl, ← mix_set _ _ hrl]; rfl) (by rw [DkF.flatG_len rcc_len, mix_len, recsAt_len]) hnc (by rw [List.length_append, DkF.flatG_len rcc_len, mix_len]; rw [List.length_append, DkF.flatG_len rcc_len, mix_len] at hcl; exact hcl) ?_
      refine Cr <| Lx.y (Yx.val (add rfl rfl (by first | exact wrap64 (by omega) (by omega) | rfl)) (show _ = i64 ((i + 1 : Nat) : Int) from rfl)) rfl <| Lx.y (mv rfl) rfl <| Lx.nil <| ?_
      exact Xx.againK ⟨i + 1, hlt, rfl, rfl, rfl, (by rw [← hA]; ac_rfl)⟩ (by omega) (Sc 85 rfl (Sc 0 rfl (Sc 1 rfl (Sc 6 rfl (Sc 7 rfl (Sc 8 rfl (Sc 13 rfl (Sc 14 rfl (Sc 15 rfl (Sc 18 rfl (Sc 19 rfl (Sc 20 rfl (Sc 21 rfl (Sc 22 rfl (Sc 23 rfl (Sc 24 rfl (Sc 36 rfl (Sc 37 rfl (Sc 38 rfl (Sc 39 rfl (Sc 61 rfl (Sc 62 rfl (Sc 63 rfl (Sc 64 rfl (Sc 65 rfl (Sc 66 rfl (Sc 67 rfl (Sc 68 rfl (Sc 69 rfl (Sc 70 rfl (Sc 71 rfl (Sc 72 rfl (Sc 74 rfl (Sc 75 rfl (Sc 76 rfl (Sc 77 rfl (Sc 78 rfl (Sc 79 rfl (Sc 80 rfl (Sc 81 rfl (Sc 83 rfl (Sc 84 rfl (Sub.nil _)))))))))))))))))))))))))))))))))))))))))))
     ·
      have hge := h34
      obtain rfl : i = bodies.length := by omega
      have hmx : (mixF (fileM ((fileOf j : Nat) : Int) d.abs.fs).now.length (recsAt (fileOf j) 0 bodies) bodies.length) = recsAt (fileOf j) (fileM ((fileOf j : Nat) : Int) d.abs.fs).now.length bodies := by
       have h1 := mix_all (fileM ((fileOf j : Nat) : Int) d.abs.fs).now.length (recsAt (fileOf j) 0 bodies)
       rw [recsAt_len, recsAt_sh, Nat.zero_add] at h1; exact h1
      rw [hmx]
      refine Xx.freezeT A fun B9 hB9 hRo hnc9 _ => ?_
      refine Cx.exit <| Xx.te <| Xx.te <| Xx.bh <| ?_
      refine Xx.tn (k30 _ _ _ _ ?_)
      refine Cq (fun K37 k37 => ?_)
      refine Cr <| Lx.y (mv rfl) rfl <| Lx.y (nilc rfl) rfl <| Lx.y (fa' fo143_4 rfl) rfl <| Lx.y (ld U141 rfl rfl rfl) rfl <| Lx.y (lenV (ty' := 0) U141 rfl) rfl <| Lx.y (asg rfl) rfl <| Lx.nil <| ?_
      refine Xx.tn (k37 _ _ _ _ ?_)
      refine Cq (fun K38 k38 => ?_)
      refine Cr <| Lx.y (mv rfl) rfl <| Lx.y (mv rfl) rfl <| Lx.y (nilc rfl) rfl <| Lx.y (fa' fo143_4 rfl) rfl <| Lx.y (ld U141 rfl rfl rfl) rfl <| Lx.y (mv rfl) rfl <| ?_
      refine Lx.o (appB (et := 149) (A := j.Al) (j.l.length + bodies.length) ((j.l ++ recsAt (fileOf j) (fileM ((fileOf j : Nat) : Int) d.abs.fs).now.length bodies).flatMap rcc) U141 U141 ti149 rfl rfl hRo (rcc_all _) (by omega) (by omega) rfl (by rw [List.flatMap_append])) rfl (fun v B' H' hΦ hB => ?_)
      obtain ⟨A9, c9, rfl, hA9, hc9, hBB, rfl⟩ := hΦ
      have hBB2 := hBB.symm
      subst hBB2
      clear hB
      refine Lx.y (nilc rfl) rfl <| Lx.y (fa' fo143_4 rfl) rfl <| ?_
      refine Lx.st (stO U141 sz141 rfl rfl rfl (by show 4 < 5; omega) rfl) ?_
      refine Lx.nil ?_
      refine Xx.tn (k38 _ _ _ _ ?_)
      refine Cq (fun K39 k39 => ?_)
      refine Cr <| Lx.y (mv rfl) rfl <| Lx.y (mv rfl) rfl <| Lx.y (mv rfl) rfl <| Lx.y (Yx.val (mv rfl) (show _ = i64 (((fileM ((fileOf j : Nat) : Int) d.abs.fs).now.length : Nat) : Int) from by rw [hapat]; rfl)) rfl <| ?_
      refine Lx.co rfl rfl rfl (BLen_ct b7 u A3 (allF bodies).length c3 _) (Pe) rfl ?_
      refine Lx.y (Yx.val (add rfl rfl (by first | exact wrap64 (by omega) (by omega) | rfl)) (show _ = i64 (((fileM ((fileOf j : Nat) : Int) d.abs.fs).now.length + (allF bodies).length : Nat) : Int) from rfl)) rfl <| Lx.y (nilc rfl) rfl <| Lx.y (fa' fo143_2 rfl) rfl <| ?_
      refine Lx.st (stO U3 sz3 rfl rfl rfl (by show 2 < 5; omega) rfl) ?_
      refine Lx.y (nilc rfl) rfl <| Lx.y (fa' fo143_3 rfl) rfl <| ?_
      refine Lx.st (stO U3 sz3 rfl rfl rfl (by show 3 < 5; omega) rfl) ?_
      refine Lx.nil ?_
      refine Xx.tn (k39 _ _ _ _ ?_)
      refine Cq (fun K40 k40 => ?_)
      refine Cr <| Lx.y (mv rfl) rfl <| Lx.y (asg rfl) rfl <| Lx.y (asg rfl) rfl <| Lx.nil <| ?_
      refine Xx.tn (k40 _ _ _ _ ?_)
      refine Cx.ret ?_
      refine Xx.dropB b7 ?_
      have hnl : (j.l ++ recsAt (fileOf j) (fileM ((fileOf j : Nat) : Int) d.abs.fs).now.length bodies).length = j.l.length + bodies.length := by rw [List.length_append, recsAt_len]
      exact Xx.ret2 rfl rfl rfl ⟨d2, hd2, .inr ⟨he2, rfl, A9, c9, rfl⟩⟩ (Fz (Fz hB2 hB3) hB9) (by unfold jcs; dsimp only; rw [hnl]; ac_rfl)
end Jn3
end Go.Proofs.YthlfffbcligocaaGreat
namespace Go.Proofs.YthlfffbcligocaaGreat
open Go.SL Go.RowKit
set_option maxRecDepth 100000
open DkA DkB DkD DkE DkF DkG DkH DkI DkJ DkN Fr1 Jn1 Jn2 Jn3
namespace Jn4
def nowOf (fs : List Fm) (n : Int) : List UInt8 := (fileM n fs).now
theorem findM_num {n : Int} : ∀ {fs : List Fm}, n ∈ fs.map (·.n) → ∃ f, findM n fs = some f := by
  intro fs
  induction fs with
  | nil => intro h; cases h
  | cons g fs ih =>
    intro h
    simp only [findM]
    split
    · exact ⟨g, rfl⟩
    · rename_i e
      rw [List.map_cons] at h
      rcases List.mem_cons.1 h with h | h
      · exact absurd h e
      · exact ih h
theorem sync_props {K L C : Nat} {D : Dm} (h : DkN.Calm K L C D) {n : Int} (hn : n ∈ D.fs.map (·.n)) :
    (syncD D n).2 = 0 ∧ (syncD D n).1.fs.map (·.n) = D.fs.map (·.n) ∧ (∀ m, nowOf (syncD D n).1.fs m = nowOf D.fs m) ∧ SureL (syncD D n).1.fs n (nowOf D.fs n) ∧ (∀ m t, SureL D.fs m t → SureL (syncD D n).1.fs m t) := by
  obtain ⟨f, hf⟩ := findM_num hn
  have hfile : fileM n D.fs = f := by unfold fileM; rw [hf]; rfl
  have hfn := (findM_mem hf).2
  have he : errM D n = 0 := by unfold errM; rw [if_neg (by rw [h.dead]; decide), hf]
  have hs : syncD D n = ({ D with ch := D.ch + 1, fs := setM ⟨n, f.now, f.now, []⟩ D.fs }, 0) := by
    unfold syncD
    rw [h.strikes, if_neg (fun e => e he), if_neg Bool.false_ne_true, hfile]
  rw [hs]
  refine ⟨rfl, ?_, fun m => ?_, ?_, fun m t ⟨g, hg, h1, h2⟩ => ?_⟩
  · show (setM _ D.fs).map (·.n) = _
    rw [setM_nums, if_pos hn]
  · unfold nowOf fileM
    rw [findM_set]
    by_cases e : m = n
    · rw [if_pos e, e, hf]; rfl
    · rw [if_neg e]
  · unfold nowOf
    rw [hfile]
    refine ⟨⟨n, f.now, f.now, []⟩, ?_, List.prefix_refl _, List.prefix_refl _⟩
    rw [findM_set, if_pos rfl]
  · by_cases e : m = n
    · rw [e, hf] at hg
      cases hg
      exact ⟨⟨n, f.now, f.now, []⟩, by rw [findM_set, if_pos e], h1, h1⟩
    · exact ⟨g, by rw [findM_set, if_neg e]; exact hg, h1, h2⟩
abbrev Ck := FrA.Ck
structure Holds (fs : List DkB.Fm) (fb : List (List Ck)) : Prop where
  ok : ∀ cs ∈ fb, ∀ c ∈ cs, FrA.Ck.ok c
  at_ : ∀ k (h : k < fb.length), ∃ f, findM ((k + 1 : Nat) : Int) fs = some f ∧ f.now = FrA.cat fb[k]
  no : ∀ k : Nat, fb.length < k → findM ((k : Nat) : Int) fs = none
def recsOf : Nat → List (List Ck) → List Rc
  | _, [] => []
  | n, cs :: fb => recF (n + 1) (FrA.fms cs 0) ++ recsOf (n + 1) fb
def lastLen (fb : List (List Ck)) (long : Nat) : Nat := match fb.getLast? with
  | none => long
  | some cs => (FrA.cat cs).length
theorem scan_file {cs : List Ck} (h : ∀ c ∈ cs, FrA.Ck.ok c) : Fr2.scanL (FrA.cat cs) = FrA.fms cs 0 ∧ Fr2.endL (FrA.fms cs 0) = (FrA.cat cs).length := by
  have h1 := FrA.scan_all h (q := []) FrA.nil_none
  rw [List.append_nil] at h1
  refine ⟨h1, ?_⟩
  by_cases hn : cs = []
  · rw [hn]; rfl
  · rw [FrA.fms_end h hn, Nat.zero_add]
theorem openF_run (fs : List DkB.Fm) : ∀ (fb : List (List Ck)) (fuel n : Nat) (l : List Rc) (long : Nat), fb.length < fuel → (∀ cs ∈ fb, ∀ c ∈ cs, FrA.Ck.ok c) →
    (∀ k (h : k < fb.length), ∃ f, findM ((n + k + 1 : Nat) : Int) fs = some f ∧ f.now = FrA.cat fb[k]) → findM ((n + fb.length + 1 : Nat) : Int) fs = none →
    openF fs fuel (l, n, long) = (l ++ recsOf n fb, n + fb.length, lastLen fb long) := by
  intro fb
  induction fb with
  | nil =>
    intro fuel n l long hf _ _ hno
    obtain ⟨fuel, rfl⟩ : ∃ k, fuel = k + 1 := ⟨fuel - 1, by simp at hf; omega⟩
    unfold openF
    rw [show ((l, n, long) : List Rc × Nat × Nat).2.1 + 1 = n + [].length + 1 from rfl, hno]
    simp [recsOf, lastLen]
  | cons cs fb ih =>
    intro fuel n l long hf hok hat hno
    obtain ⟨fuel, rfl⟩ : ∃ k, fuel = k + 1 := ⟨fuel - 1, by omega⟩
    obtain ⟨f, h1, h2⟩ := hat 0 (by simp)
    have h2' : f.now = FrA.cat cs := h2
    obtain ⟨h3, h4⟩ := scan_file (hok cs (by simp))
    unfold openF
    rw [show (((l, n, long) : List Rc × Nat × Nat).2.1 + 1 : Nat) = n + 0 + 1 from rfl, h1]
    simp only [h2', h3, h4]
    rw [if_neg (Nat.lt_irrefl _)]
    rw [ih fuel (n + 0 + 1) _ _ (by simpa using hf) (fun x hx => hok x (by simp [hx])) (fun k hk => by
      obtain ⟨g, g1, g2⟩ := hat (k + 1) (by simpa using hk)
      exact ⟨g, by rw [show n + 0 + 1 + k + 1 = n + (k + 1) + 1 by omega]; exact g1, g2⟩) (by rw [show n + 0 + 1 + fb.length + 1 = n + (cs :: fb).length + 1 by simp; omega]; exact hno)]
    refine Prod.ext ?_ (Prod.ext ?_ ?_)
    · simp [recsOf]
    · simp; omega
    · unfold lastLen
      cases fb with
      | nil => rfl
      | cons d fb => rw [List.getLast?_cons_cons]; cases hg : (d :: fb).getLast? with
        | none => simp at hg
        | some x => rfl
theorem Holds.le {fs : List DkB.Fm} {fb : List (List Ck)} (h : Holds fs fb) : fb.length ≤ fs.length :=
  run_le fun k hk => by
    obtain ⟨f, h1, _⟩ := h.at_ k hk
    obtain ⟨g1, g2⟩ := findM_mem h1
    exact List.mem_map.2 ⟨f, g1, g2⟩
theorem Holds.open {fs : List DkB.Fm} {fb : List (List Ck)} (h : Holds fs fb) : openF fs (fs.length + 1) ([], 0, 0) = (recsOf 0 fb, fb.length, lastLen fb 0) := by
  have h0 := h.le
  have := openF_run fs fb (fs.length + 1) 0 [] 0 (by omega) h.ok (fun k hk => by simpa using h.at_ k hk) (by rw [Nat.zero_add]; exact h.no _ (Nat.lt_succ_self _))
  rw [this, List.nil_append, Nat.zero_add]
theorem fms_app (cs ds : List Ck) (a : Nat) : FrA.fms (cs ++ ds) a = FrA.fms cs a ++ FrA.fms ds (a + (FrA.cat cs).length) := by
  induction cs generalizing a with
  | nil => simp [FrA.fms]
  | cons c cs ih => simp [FrA.fms, ih, Nat.add_assoc]
theorem recF_fr (file : Nat) : ∀ (xs : List (List UInt8)) (a : Nat), recF file (FrA.fms (xs.map FrA.fr) a) = recsAt file a xs := by
  intro xs
  induction xs with
  | nil => intro a; rfl
  | cons x xs ih =>
    intro a
    have hl : (FrA.fr x).tx.length = 12 + x.length := by show (headL x ++ x).length = _; rw [List.length_append, headL_len]
    show (⟨file, a + 12, x, true⟩ : Rc) :: recF file (FrA.fms (xs.map FrA.fr) (a + (FrA.fr x).tx.length)) = (⟨file, a + 12, x, true⟩ : Rc) :: recsAt file (a + 12 + x.length) xs
    rw [ih, hl, Nat.add_assoc]
theorem recF_app (file : Nat) (a b : List Fr2.Fm) : recF file (a ++ b) = recF file a ++ recF file b := by simp [recF]
theorem cat_fr (xs : List (List UInt8)) : FrA.cat (xs.map FrA.fr) = allF xs := by
  unfold FrA.cat allF
  rw [List.map_map]; rfl
theorem recsOf_snoc : ∀ (fb : List (List Ck)) (n : Nat) (cs : List Ck), recsOf n (fb ++ [cs]) = recsOf n fb ++ recF (n + fb.length + 1) (FrA.fms cs 0) := by
  intro fb
  induction fb with
  | nil => intro n cs; simp [recsOf]
  | cons d fb ih =>
    intro n cs
    simp only [List.cons_append, recsOf, ih, List.append_assoc, List.length_cons]
    rw [show n + 1 + fb.length + 1 = n + (fb.length + 1) + 1 by omega]
theorem addD_fail {K L C : Nat} {D : Dm} (hc : DkN.Calm K L C D) {file : Nat} {all : List UInt8} (h : (addD D file all).2 ≠ 0) : addD D file all = (D, 50) := by
  unfold addD at h ⊢
  by_cases h1 : (appendD D (file : Int) all).2.2 ≠ 0
  · rw [if_pos h1] at h ⊢
    unfold appendD at h1 ⊢
    rw [hc.strikes, if_neg (by rw [hc.dead]; decide), if_neg (by omega)] at h1 ⊢
    split
    · rfl
    · rename_i h2
      rw [if_neg h2, if_neg Bool.false_ne_true] at h1
      exact absurd rfl h1
  · rw [if_neg h1] at h
    exfalso
    have h1 : (appendD D (file : Int) all).2.2 = 0 := Decidable.byContradiction h1
    have hc1 := hc.append (file : Int) all
    have hs := (sync_props hc1 (n := (file : Int)) (by
      unfold appendD at h1 ⊢
      rw [hc.strikes, if_neg (by rw [hc.dead]; decide), if_neg (by omega)] at h1 ⊢
      split
      · rename_i h2; rw [if_pos h2] at h1; cases h1
      · rw [if_neg Bool.false_ne_true]
        show (file : Int) ∈ (setM _ D.fs).map (·.n)
        rw [setM_nums]
        split
        · assumption
        · simp)).1
    exact h hs
theorem addD_done {K L C : Nat} {D : Dm} (hc : DkN.Calm K L C D) {file : Nat} {all : List UInt8} (h : (addD D file all).2 = 0) :
    (∀ k, findM k (addD D file all).1.fs = if k = (file : Int) then some ⟨file, (fileM (file : Int) D.fs).now ++ all, (fileM (file : Int) D.fs).now ++ all, []⟩ else findM k D.fs) ∧ DkN.Calm (K + 2) (L + all.length) (C + 2) (addD D file all).1 ∧
    ((∀ f ∈ D.fs, f.loose = [] ∧ f.sure = f.now) → ∀ f ∈ (addD D file all).1.fs, f.loose = [] ∧ f.sure = f.now) := by
  have h1 : (appendD D (file : Int) all).2.2 = 0 := Decidable.byContradiction fun h1 => by
    unfold addD at h
    rw [if_pos h1] at h
    exact h1 h
  have hc1 := hc.append (file : Int) all
  have hc2 := hc1.sync (file : Int)
  have ha : addD D file all = syncD (appendD D (file : Int) all).1 (file : Int) := by unfold addD; rw [if_neg (fun e => e h1)]
  rw [← ha] at hc2
  obtain ⟨lo, hap⟩ : ∃ lo, (appendD D (file : Int) all).1 = { D with ch := D.ch + 1, fs := setM ⟨file, (fileM (file : Int) D.fs).now ++ all, (fileM (file : Int) D.fs).sure, lo⟩ D.fs } := by
    unfold appendD at h1 ⊢
    rw [hc.strikes, if_neg (by rw [hc.dead]; decide), if_neg (by omega)] at h1 ⊢
    split
    · rename_i h2; rw [if_pos h2] at h1; cases h1
    · rw [if_neg Bool.false_ne_true]; exact ⟨_, rfl⟩
  have hfm : fileM (file : Int) (setM ⟨file, (fileM (file : Int) D.fs).now ++ all, (fileM (file : Int) D.fs).sure, lo⟩ D.fs) = ⟨file, (fileM (file : Int) D.fs).now ++ all, (fileM (file : Int) D.fs).sure, lo⟩ := by
    unfold fileM; rw [findM_set, if_pos rfl]; rfl
  have he : errM (appendD D (file : Int) all).1 (file : Int) = 0 := by
    rw [hap]; unfold errM
    rw [if_neg (by show ¬ D.dead = true; rw [hc.dead]; decide)]
    show (match findM (file : Int) (setM _ D.fs) with | none => _ | some _ => _) = _
    rw [findM_set, if_pos rfl]
  have hsy : (addD D file all).1.fs = setM ⟨file, (fileM (file : Int) D.fs).now ++ all, (fileM (file : Int) D.fs).now ++ all, []⟩ (setM ⟨file, (fileM (file : Int) D.fs).now ++ all, (fileM (file : Int) D.fs).sure, lo⟩ D.fs) := by
    rw [ha]; unfold syncD
    rw [hc1.strikes, if_neg (fun e => e he), if_neg Bool.false_ne_true, hap]
    show setM ⟨_, (fileM (file : Int) (setM _ D.fs)).now, (fileM (file : Int) (setM _ D.fs)).now, []⟩ (setM _ D.fs) = _
    rw [hfm]
  refine ⟨fun k => ?_, hc2.mono (by omega) (by omega) (by omega), fun hst f hf => ?_⟩
  · rw [hsy, findM_set, findM_set]
    by_cases e : k = (file : Int)
    · rw [if_pos e, if_pos e]
    · rw [if_neg e, if_neg e, if_neg e]
  · have hff := findM_of_mem hc2.nd hf
    rw [hsy, findM_set, findM_set] at hff
    split at hff
    · cases hff; exact ⟨rfl, rfl⟩
    · exact hst f (findM_mem hff).1
structure Fits (D : Dm) (j : Jn) (fb : List (List Ck)) : Prop where
  holds : Holds D.fs fb
  l : j.l = recsOf 0 fb
  last : j.last = fb.length
  long : j.long = lastLen fb 0
  most : 1 ≤ j.most
theorem fb_split {fb : List (List Ck)} (h : fb ≠ []) : ∃ fc cs, fb = fc ++ [cs] := ⟨fb.dropLast, fb.getLast h, (List.dropLast_concat_getLast h).symm⟩
theorem add_fits {K L C : Nat} {D : Dm} {j : Jn} {fb : List (List Ck)} (hc : DkN.Calm K L C D) (hf : Fits D j fb) {bodies : List (List UInt8)} (hb : ∀ s ∈ bodies, s.length ≤ 65536) (h : (addD D (fileOf j) (allF bodies)).2 = 0) (Al : Option Addr) (cl : Nat) :
    ∃ fb', Fits (addD D (fileOf j) (allF bodies)).1 { j with last := fileOf j, long := (fileM ((fileOf j : Nat) : Int) D.fs).now.length + (allF bodies).length, l := j.l ++ recsAt (fileOf j) (fileM ((fileOf j : Nat) : Int) D.fs).now.length bodies, Al := Al, cl := cl } fb' := by
  obtain ⟨hfind, _, _⟩ := addD_done hc h
  have hno := hf.holds.no
  have hokb : ∀ c ∈ bodies.map FrA.fr, FrA.Ck.ok c := fun c hcc => by
    obtain ⟨s, hs, rfl⟩ := List.mem_map.1 hcc
    exact FrA.fr_ok (hb s hs)
  by_cases hnew : fileOf j = fb.length + 1
  · have hfile : fileM ((fileOf j : Nat) : Int) D.fs = ⟨(fileOf j : Nat), [], [], []⟩ := by unfold fileM; rw [hnew, hno _ (Nat.lt_succ_self _)]; rfl
    refine ⟨fb ++ [bodies.map FrA.fr], ⟨?_, ?_, ?_⟩, ?_, ?_, ?_, hf.most⟩
    · intro cs hcs c hcc
      rcases List.mem_append.1 hcs with hcs | hcs
      · exact hf.holds.ok cs hcs c hcc
      · rw [List.mem_singleton.1 hcs] at hcc
        exact hokb c hcc
    · intro k hk
      rw [List.length_append, List.length_singleton] at hk
      by_cases e : k < fb.length
      · obtain ⟨f, h1, h2⟩ := hf.holds.at_ k e
        refine ⟨f, ?_, by rw [h2, List.getElem_append_left e]⟩
        rw [hfind, if_neg (by rw [hnew]; omega)]; exact h1
      · obtain rfl : k = fb.length := by omega
        refine ⟨_, by rw [hfind, if_pos (by rw [hnew])], ?_⟩
        show (fileM ((fileOf j : Nat) : Int) D.fs).now ++ allF bodies = _
        rw [hfile, List.getElem_append_right (Nat.le_refl _)]
        simp [cat_fr]
    · intro k hk
      rw [List.length_append, List.length_singleton] at hk
      rw [hfind, if_neg (by rw [hnew]; omega)]
      exact hno k (by omega)
    · show j.l ++ recsAt (fileOf j) (fileM ((fileOf j : Nat) : Int) D.fs).now.length bodies = _
      rw [recsOf_snoc, hf.l, recF_fr, hfile, hnew, Nat.zero_add]; rfl
    · show fileOf j = _
      rw [List.length_append, List.length_singleton, hnew]
    · show (fileM ((fileOf j : Nat) : Int) D.fs).now.length + (allF bodies).length = lastLen _ 0
      rw [hfile]; unfold lastLen
      rw [List.getLast?_append, List.getLast?_singleton]
      show 0 + _ = (FrA.cat (bodies.map FrA.fr)).length
      rw [cat_fr, Nat.zero_add]
  · have hne : fb ≠ [] := fun e => hnew (by
      have h1 := hf.last
      have h2 := hf.long
      rw [e] at h1 h2
      have h3 : j.long = 0 := h2
      have hm := hf.most
      unfold fileOf
      rw [h3, if_neg (by omega), h1, e]; rfl)
    obtain ⟨fc, cs, rfl⟩ := fb_split hne
    have hl := hf.last
    rw [List.length_append, List.length_singleton] at hl hnew
    have hfo : fileOf j = fc.length + 1 := by
      unfold fileOf at hnew ⊢
      rw [hl] at hnew ⊢
      split at hnew
      · omega
      · rename_i e; rw [if_neg e]; omega
    obtain ⟨f, hf1, hf2⟩ := hf.holds.at_ fc.length (by simp)
    rw [List.getElem_append_right (Nat.le_refl _)] at hf2
    simp only [Nat.sub_self, List.getElem_cons_zero] at hf2
    have hfile : fileM ((fileOf j : Nat) : Int) D.fs = f := by unfold fileM; rw [hfo, hf1]; rfl
    refine ⟨fc ++ [cs ++ bodies.map FrA.fr], ⟨?_, ?_, ?_⟩, ?_, ?_, ?_, hf.most⟩
    · intro x hx c hcc
      rcases List.mem_append.1 hx with hx | hx
      · exact hf.holds.ok x (by simp [hx]) c hcc
      · rw [List.mem_singleton.1 hx] at hcc
        rcases List.mem_append.1 hcc with hcc | hcc
        · exact hf.holds.ok cs (by simp) c hcc
        · exact hokb c hcc
    · intro k hk
      rw [List.length_append, List.length_singleton] at hk
      by_cases e : k < fc.length
      · obtain ⟨g, h1, h2⟩ := hf.holds.at_ k (by rw [List.length_append]; omega)
        refine ⟨g, ?_, by rw [h2, List.getElem_append_left e, List.getElem_append_left e]⟩
        rw [hfind, if_neg (by rw [hfo]; omega)]; exact h1
      · obtain rfl : k = fc.length := by omega
        refine ⟨_, by rw [hfind, if_pos (by rw [hfo])], ?_⟩
        show (fileM ((fileOf j : Nat) : Int) D.fs).now ++ allF bodies = _
        rw [hfile, hf2, List.getElem_append_right (Nat.le_refl _)]
        simp [cat_fr]
    · intro k hk
      rw [List.length_append, List.length_singleton] at hk
      rw [hfind, if_neg (by rw [hfo]; omega)]
      exact hno k (by rw [List.length_append, List.length_singleton]; exact hk)
    · show j.l ++ recsAt (fileOf j) (fileM ((fileOf j : Nat) : Int) D.fs).now.length bodies = _
      rw [recsOf_snoc, hf.l, recsOf_snoc, fms_app, recF_app, recF_fr, hfile, hf2, hfo, Nat.zero_add, Nat.zero_add, List.append_assoc]
    · show fileOf j = _
      rw [List.length_append, List.length_singleton, hfo]
    · show (fileM ((fileOf j : Nat) : Int) D.fs).now.length + (allF bodies).length = lastLen _ 0
      rw [hfile, hf2]; unfold lastLen
      rw [List.getLast?_append, List.getLast?_singleton]
      show _ = (FrA.cat (cs ++ bodies.map FrA.fr)).length
      rw [FrA.cat_app, List.length_append, cat_fr]
theorem recsAt_good (file : Nat) : ∀ (xs : List (List UInt8)) (a : Nat), (recsAt file a xs).map (fun r => (r.body, r.good)) = xs.map fun s => (s, true) := by
  intro xs
  induction xs with
  | nil => intro a; rfl
  | cons x xs ih => intro a; simp [recsAt, ih]
def Still (D : Dm) : Prop := ∀ f ∈ D.fs, f.loose = [] ∧ f.sure = f.now
theorem setM_self : ∀ {fs : List DkB.Fm} {f : DkB.Fm}, findM f.n fs = some f → setM f fs = fs := by
  intro fs
  induction fs with
  | nil => intro f h; cases h
  | cons g fs ih =>
    intro f h
    simp only [findM] at h
    simp only [setM]
    by_cases e : f.n = g.n
    · rw [if_pos e] at h ⊢; cases h; rfl
    · rw [if_neg e] at h ⊢; rw [ih h]
theorem crash_still {D : Dm} (h : Still D) (hd : D.dead = false) (mask : BitVec 64) (torn : Int) : crashD D mask torn = { D with dead := true } := by
  have hst : ∀ (ks : List Int) (bit : Nat) (t : Int), (ks.foldl (crashStep mask) (D.fs, bit, t)).1 = D.fs := by
    intro ks
    induction ks with
    | nil => intro bit t; rfl
    | cons k ks ih =>
      intro bit t
      rw [List.foldl_cons]
      unfold crashStep
      cases hk : findM k D.fs with
      | none => exact ih bit t
      | some f =>
        obtain ⟨h1, h2⟩ := findM_mem hk
        obtain ⟨h3, h4⟩ := h f h1
        have h5 : lostF f.now f.sure f.loose mask bit t = (f.now, bit, t) := by unfold lostF; rw [h3, h4]; rfl
        have h6 : (⟨f.n, f.now, f.now, []⟩ : DkB.Fm) = f := by
          obtain ⟨n, now, sure, loose⟩ := f
          simp only at h3 h4
          rw [h3, h4]
        show (ks.foldl (crashStep mask) (setM ⟨f.n, (lostF f.now f.sure f.loose mask bit t).1, (lostF f.now f.sure f.loose mask bit t).1, []⟩ D.fs, (lostF f.now f.sure f.loose mask bit t).2)).1 = D.fs
        rw [h5, h6, setM_self (by rw [h2]; exact hk)]
        exact ih bit t
  unfold crashD
  rw [if_neg (by rw [hd]; decide)]
  unfold crashFs
  rw [hst]
end Jn4
end Go.Proofs.YthlfffbcligocaaGreat
namespace Go.Proofs.YthlfffbcligocaaGreat
open Go.SL Go.RowKit
set_option maxRecDepth 100000
open DkA DkB DkD DkE DkF DkG DkH DkI DkJ DkN Fr1 Jn1 Jn2 Jn3 Jn4
namespace Jn5
theorem sz3 : (Tryz.prog.info? 3).map (·.size) = some 1 := by kernel_rfl
theorem sz4 : (Tryz.prog.info? 4).map (·.size) = some 1 := by kernel_rfl
theorem sz9 : (Tryz.prog.info? 9).map (·.size) = some 1 := by kernel_rfl
theorem sz149 : (Tryz.prog.info? 149).map (·.size) = some 4 := by kernel_rfl
theorem ti5 : TI Tryz.prog 5 [.int .u8 0] 1 1 := TI.of (by kernel_rfl) rfl rfl
theorem ti9 : TI Tryz.prog 9 [str []] 1 16 := TI.of (by kernel_rfl) rfl rfl
theorem ti149 : TI Tryz.prog 149 [.int .i64 0, .int .i64 0, str [], .bool false] 4 40 := TI.of (by kernel_rfl) rfl rfl
def fewL (l : List UInt8) : List UInt8 := if (150 : Int) < (l.length : Nat) then l.take 150 else l
def cutL (xs : List (List UInt8)) : List (List UInt8) := (xs.take 6).map fewL
theorem allF_len : ∀ (xs : List (List UInt8)) (k : Nat), (∀ s ∈ xs, s.length ≤ k) → (allF xs).length ≤ xs.length * (k + 12) := by
  intro xs k
  induction xs with
  | nil => intro _; exact Nat.zero_le _
  | cons x xs ih =>
    intro h
    have h1 := h x (by simp)
    have h2 := ih fun s hs => h s (by simp [hs])
    show ((headL x ++ x) ++ allF xs).length ≤ _
    rw [List.length_append, List.length_append, headL_len, List.length_cons, Nat.succ_mul]; omega
theorem JOpenF_ct (d : Dk) (db : Nat) (most : Int) (fb : List (List Ck)) (K L C : Nat) (B : Frag) (hc : DkN.Calm K L C d.abs) (hK : K ≤ 1000000) (hL : L ≤ 1048576) (hC : C ≤ 1000000000) (hm : 1 ≤ most) (hh : Holds d.abs.fs fb) :
    Ct Tryz.prog 62 [.pointer (some ⟨db, 0, none⟩), i64 most] B (dkH db d) (fun v B' H' => ∃ (jb : Nat) (j : Jn), v = .tuple #[.pointer (some ⟨jb, 0, none⟩), i64 0] ∧ j.db = db ∧ j.most = most ∧ Fits d.abs j fb ∧ H' = dkH db d * jnH jb j) := by
  refine Ct.mono (JOpen_ct d db most B (hc.fit (by omega) (by omega) (by omega)) hc.dead hm (fun f hf => Nat.le_trans (hc.now f hf) hL)) ?_
  rintro v B' H' ⟨jb, Al, cl, rfl, rfl⟩
  have ho := hh.open
  exact ⟨jb, _, rfl, rfl, rfl, ⟨hh, by rw [ho], by rw [ho], by rw [ho], hm⟩, rfl⟩
theorem calm_new (n : Int) (hn : 0 ≤ n ∧ n ≤ 9223372036854775807) : DkN.Calm 0 0 0 ⟨[], n, false, [], 0⟩ := ⟨rfl, rfl, List.nodup_nil, fun f hf => (by cases hf), fun f hf => (by cases hf), Nat.le_refl _, fun f hf => (by cases hf), fun f hf => (by cases hf), hn, Nat.le_refl _⟩
theorem New2_ct (n : Int) (B : Frag) (hn : 0 ≤ n) : Ct Tryz.prog 10 [i64 n] B 1 (fun v B' H' => B' = B ∧ ∃ (db : Nat) (d : Dk), v = .tuple #[.pointer (some ⟨db, 0, none⟩), i64 0] ∧ d.abs = ⟨[], n, false, [], 0⟩ ∧ H' = dkH db d) :=
  Ct.mono (New_ct n B) fun v B' H' ⟨h1, h2⟩ => by
    rcases h2 with ⟨h, _⟩ | ⟨_, db, mb, h3, h4⟩
    · omega
    · exact ⟨h1, db, _, h3, rfl, h4⟩
end Jn5
end Go.Proofs.YthlfffbcligocaaGreat
namespace Go.Proofs.YthlfffbcligocaaGreat
open Go.SL Go.RowKit
set_option maxRecDepth 100000
open DkA DkB DkD DkE DkF DkG DkH DkI DkJ DkN Fr1 Jn1 Jn2 Jn3 Jn4 Jn5
namespace Jn6
theorem sz3 : (Tryz.prog.info? 3).map (·.size) = some 1 := by kernel_rfl
theorem sz4 : (Tryz.prog.info? 4).map (·.size) = some 1 := by kernel_rfl
theorem sz9 : (Tryz.prog.info? 9).map (·.size) = some 1 := by kernel_rfl
theorem sz43 : (Tryz.prog.info? 43).map (·.size) = some 1 := by kernel_rfl
theorem sz149 : (Tryz.prog.info? 149).map (·.size) = some 4 := by kernel_rfl
theorem ti5 : TI Tryz.prog 5 [.int .u8 0] 1 1 := TI.of (by kernel_rfl) rfl rfl
theorem ti9 : TI Tryz.prog 9 [str []] 1 16 := TI.of (by kernel_rfl) rfl rfl
theorem ti149 : TI Tryz.prog 149 [.int .i64 0, .int .i64 0, str [], .bool false] 4 40 := TI.of (by kernel_rfl) rfl rfl
theorem cell_of {cs vs : List Value} {o n : Nat} {v : Value} (h : (cs.drop o).take n = vs) (j : Nat) (hj : j < n) (hv : vs[j]? = some v) : cs[o + j]? = some v := by
  subst h
  rw [List.getElem?_take_of_lt hj, List.getElem?_drop] at hv
  exact hv
structure Tx where
  A : Option Addr
  c : Nat
  xs : List (List UInt8)
def txc (x : Tx) : List Value := [.slice x.A x.xs.length x.c]
theorem txc_len (x : Tx) : (txc x).length = 1 := rfl
def TxOk (B : Frag) (x : Tx) : Prop := (0 < x.xs.length → RoS B 1 x.A x.xs.length (x.xs.map str)) ∧ x.xs.length ≤ 9223372036854775807
theorem bandM (n : Int) (k : Nat) (hk : k ≤ 1000000) : ∃ m : Nat, bAnd .i64 n (k : Int) = (m : Int) ∧ m ≤ k := by
  have h0 : (BitVec.ofInt 64 (k : Int)).toNat = k := by rw [BitVec.toNat_ofInt]; omega
  have h1 : (BitVec.ofInt 64 n &&& BitVec.ofInt 64 (k : Int)).toNat ≤ k := by
    rw [BitVec.toNat_and]; refine Nat.le_trans Nat.and_le_right (Nat.le_of_eq h0)
  refine ⟨_, ?_, h1⟩
  unfold bAnd
  show IntKind.i64.wrap (((BitVec.ofInt 64 n &&& BitVec.ofInt 64 (k : Int)).toNat : Nat) : Int) = _
  exact wrap64 (by omega) (by omega)
theorem str_at {l : List (List UInt8)} {j : Nat} (h : j < l.length) : ((l.map str).drop (0 + j * 1)).take 1 = [str l[j]] := by
  rw [show 0 + j * 1 = j by omega, List.drop_eq_getElem_cons (by rw [List.length_map]; exact h)]
  simp
end Jn6
end Go.Proofs.YthlfffbcligocaaGreat
namespace Go.Proofs.YthlfffbcligocaaGreat
open Go.SL Go.RowKit
set_option maxRecDepth 100000
open DkA DkB DkD DkE DkF DkG DkH DkI DkJ DkL DkN Fr1 Jn1 Jn2 Jn3 Jn4 Jn5 Jn6
namespace Jn11
theorem sz3 : (Tryz.prog.info? 3).map (·.size) = some 1 := by kernel_rfl
theorem sz4 : (Tryz.prog.info? 4).map (·.size) = some 1 := by kernel_rfl
theorem sz9 : (Tryz.prog.info? 9).map (·.size) = some 1 := by kernel_rfl
theorem sz149 : (Tryz.prog.info? 149).map (·.size) = some 4 := by kernel_rfl
theorem ti5 : TI Tryz.prog 5 [.int .u8 0] 1 1 := TI.of (by kernel_rfl) rfl rfl
theorem ti9 : TI Tryz.prog 9 [str []] 1 16 := TI.of (by kernel_rfl) rfl rfl
theorem ti149 : TI Tryz.prog 149 [.int .i64 0, .int .i64 0, str [], .bool false] 4 40 := TI.of (by kernel_rfl) rfl rfl
theorem fo143_0 : FO Tryz.prog 143 0 0 1 false := FO.of U143 rfl rfl (by kernel_rfl) U27 rfl rfl
theorem fo143_4 : FO Tryz.prog 143 4 4 1 false := FO.of U143 rfl rfl (by kernel_rfl) U141 rfl rfl
theorem fo149_0 : FO Tryz.prog 149 0 0 1 false := FO.of U149 rfl rfl (by kernel_rfl) U3 rfl rfl
theorem fo149_1 : FO Tryz.prog 149 1 1 1 false := FO.of U149 rfl rfl (by kernel_rfl) U3 rfl rfl
theorem fo149_2 : FO Tryz.prog 149 2 2 1 false := FO.of U149 rfl rfl (by kernel_rfl) U9 rfl rfl
theorem fo149_3 : FO Tryz.prog 149 3 3 1 false := FO.of U149 rfl rfl (by kernel_rfl) U4 rfl rfl
def blankD (D : Dm) (file at_ n : Nat) : Dm × Int :=
  if (writeD D (file : Int) (at_ : Int) (List.replicate n 0)).2 ≠ 0 then writeD D (file : Int) (at_ : Int) (List.replicate n 0) else syncD (writeD D (file : Int) (at_ : Int) (List.replicate n 0)).1 (file : Int)
end Jn11
end Go.Proofs.YthlfffbcligocaaGreat
namespace Go.Proofs.YthlfffbcligocaaGreat
open Go.SL Go.RowKit
set_option maxRecDepth 100000
open DkA DkB DkD DkE DkF DkG DkH DkI DkJ DkL DkN Fr1 Jn1 Jn2 Jn3 Jn4 Jn5 Jn6 Jn11
namespace Jn12
theorem used_calm {K L C : Nat} {D : Dm} (hc : DkN.Calm K L C D) : usedM D.fs ≤ K * sec L := by
  have h1 := sum_le (fun m : DkB.Fm => sec m.now.length) (sec L) D.fs (fun m hm => sec_mono (hc.now m hm))
  unfold usedM
  exact Nat.le_trans h1 (Nat.mul_le_mul_right _ hc.len)
theorem add_room {K L C : Nat} {D : Dm} (hc : DkN.Calm K L C D) {file : Nat} {all : List UInt8} (h : ((sec (L + all.length) + K * sec L : Nat) : Int) ≤ D.room) : (addD D file all).2 = 0 := Decidable.byContradiction fun h2 => by
  have hnow := (hc.file (file : Int)).2.2.1
  have hu := used_calm hc
  have hs := sec_mono (show (fileM (file : Int) D.fs).now.length + all.length ≤ L + all.length by omega)
  have h3 := addD_fail hc h2
  have h4 : (appendD D (file : Int) all).2.2 = 0 := by
    unfold appendD
    rw [hc.strikes, if_neg (by rw [hc.dead]; decide), if_neg (by omega), if_neg (fun e => by have := e.2; omega), if_neg Bool.false_ne_true]
  have h5 : addD D file all = syncD (appendD D (file : Int) all).1 (file : Int) := by unfold addD; rw [if_neg (fun e => e h4)]
  have hc1 := hc.append (file : Int) all
  rw [h3] at h5
  have h6 := (sync_props hc1 (n := (file : Int)) (by
    unfold appendD
    rw [hc.strikes, if_neg (by rw [hc.dead]; decide), if_neg (by omega), if_neg (fun e => by have := e.2; omega), if_neg Bool.false_ne_true]
    show (file : Int) ∈ (setM _ D.fs).map (·.n)
    rw [setM_nums]; split
    · assumption
    · simp)).1
  rw [← h5] at h6
  cases h6
theorem addD_roomy {K L C : Nat} {D : Dm} (hc : DkN.Calm K L C D) (file : Nat) (all : List UInt8) : (addD D file all).1.room = D.room := by
  have hc1 := hc.append (file : Int) all
  have h1 : (appendD D (file : Int) all).1.room = D.room := by
    unfold appendD
    rw [hc.strikes]
    split
    · rfl
    split
    · rfl
    split
    · rfl
    · rw [if_neg Bool.false_ne_true]
  unfold addD
  split
  · exact h1
  · unfold syncD
    rw [hc1.strikes]
    split
    · exact h1
    · rw [if_neg Bool.false_ne_true]; exact h1
end Jn12
end Go.Proofs.YthlfffbcligocaaGreat
namespace Go.Proofs.YthlfffbcligocaaGreat
open Go.SL Go.RowKit
set_option maxRecDepth 100000
open VhA VhB VhC VhD VhE VhF VhG VhH VhI VhJ VhK VhL VhM VhN VhO
open Jn1 (Rc)
namespace VhP
def eraC (s : List UInt8) : Cu × BitVec 64 × Nat := ((((⟨s, 0, 0⟩ : Cu).uint.1.count 64).1), BitVec.ofNat 64 (⟨s, 0, 0⟩ : Cu).uint.2, ((⟨s, 0, 0⟩ : Cu).uint.1.count 64).2)
def eraseF (r : Rc) : Plc × Bool :=
  if r.good = false ∨ r.body.length < 1 ∨ ¬ r.body.take 1 = [69] then ((0#64, 0), false)
  else (((eraC (r.body.drop 1)).2.1, ((eraC (r.body.drop 1)).2.2 : Int)), decide ((eraC (r.body.drop 1)).1.fin.e = 0))
def saysF (r : Rc) : List UInt8 := if r.good = false ∨ r.body.length < 1 then [] else r.body.take 1
def goneF (l : List Rc) : List Plc := l.filterMap fun r => if (eraseF r).2 = true then some (eraseF r).1 else none
theorem goneF_snoc (l : List Rc) (r : Rc) : goneF (l ++ [r]) = if (eraseF r).2 = true then goneF l ++ [(eraseF r).1] else goneF l := by
  unfold goneF
  rw [List.filterMap_append]
  by_cases h : (eraseF r).2 = true
  · rw [if_pos h]; simp [h]
  · rw [if_neg h]; simp [h]
noncomputable def withF (b : Bk) (i : Nat) (s : List UInt8) : Bk × Int := match b.revs[i]? with
  | none => (b, 1)
  | some r => if bodB r.op = true ∧ r.hash = leafF s ∧ s.length ≤ 1024 then ({ b with revs := b.revs.set i { r with body := s, gone := false } }, 0) else (b, 1)
noncomputable def followsF (b : Bk) (n : BitVec 64) (prev : List UInt8) : Int :=
  if b.revs.length < 1 ∨ 64 < b.revs.length then 3 else if b.revs.all okR = true then (if b.seq = n ∧ b.prev = prev then 0 else 90) else 6
def prevF (l : List Bk) : List UInt8 := match l.getLast? with
  | none => []
  | some b => hashB b
theorem prevF_snoc (l : List Bk) (b : Bk) : prevF (l ++ [b]) = hashB b := by unfold prevF; rw [List.getLast?_append]; rfl
theorem hashB_len (b : Bk) : (hashB b).length = 32 := sumF_len _
theorem prevF_len (l : List Bk) : (prevF l).length ≤ 32 := by
  rcases snoc_cases l with rfl | ⟨m, x, rfl⟩
  · exact Nat.zero_le _
  · rw [prevF_snoc, hashB_len]; exact Nat.le_refl _
def zRc : Rc := ⟨0, 0, [], false⟩
noncomputable def bodF (rs : List Rc) (a : Nat) (gone : List Plc) : List Nat → Nat → Bk → Option Bk
  | [], _, b => some b
  | i :: is, k, b =>
    if (b.seq, (i : Int)) ∈ gone ∧ ¬ saysF (rs.getD (a + 1 + k) zRc) = [66] ∧ ¬ saysF (rs.getD (a + 1 + k) zRc) = [69] then bodF rs a gone is (k + 1) b
    else if saysF (rs.getD (a + 1 + k) zRc) = [68] then
      (if (withF b i ((rs.getD (a + 1 + k) zRc).body.drop 1)).2 = 0 then bodF rs a gone is (k + 1) (withF b i ((rs.getD (a + 1 + k) zRc).body.drop 1)).1 else none)
    else none
noncomputable def nextF (l : List Bk) (rs : List Rc) (a n : Nat) (gone : List Plc) : Nat × Option Bk :=
  if (eraseF (rs.getD a zRc)).2 = true then (1, none)
  else if saysF (rs.getD a zRc) = [66] then
    (if (readB ((rs.getD a zRc).body.drop 1)).2 = 0 ∧ a + (bodd (readB ((rs.getD a zRc).body.drop 1)).1.revs).length < n then
      (match bodF rs a gone (bodd (readB ((rs.getD a zRc).body.drop 1)).1.revs) 0 (readB ((rs.getD a zRc).body.drop 1)).1 with
       | none => (0, none)
       | some b => if followsF b (BitVec.ofInt 64 (l.length : Nat)) (prevF l) = 0 then (1 + (bodd (readB ((rs.getD a zRc).body.drop 1)).1.revs).length, some b) else (0, none))
     else (0, none))
  else (0, none)
structure Vs where
  l : List Bk
  ends : Nat
  bod : List (Plc × Value)
def bodK (b : Bk) (a : Nat) : List Nat → Nat → List (Plc × Value) → List (Plc × Value)
  | [], _, m => m
  | i :: is, k, m => bodK b a is (k + 1) (gset (b.seq, (i : Int)) (i64 ((a + 1 + k : Nat) : Int)) m)
def takeV (V : Vs) (b : Bk) (a : Nat) : Vs := { V with l := V.l ++ [b], bod := bodK b a (bodd b.revs) 0 V.bod }
noncomputable def stepV (rs : List Rc) (n : Nat) (gone : List Plc) (V : Vs) : Vs × Nat := match nextF V.l rs V.ends n gone with
  | (k, none) => (V, k)
  | (k, some b) => (takeV V b V.ends, k)
noncomputable def scanF (rs : List Rc) (n : Nat) (gone : List Plc) : Nat → Vs → Vs
  | 0, V => V
  | f + 1, V => if V.ends < n then (if (stepV rs n gone V).2 = 0 then (stepV rs n gone V).1 else scanF rs n gone f { (stepV rs n gone V).1 with ends := (stepV rs n gone V).1.ends + (stepV rs n gone V).2 }) else V
def V0 : Vs := ⟨[], 0, []⟩
noncomputable def scanV (rs : List Rc) (n : Nat) : Vs := scanF rs n (goneF (rs.take n)) (n + 1) V0
end VhP
end Go.Proofs.YthlfffbcligocaaGreat
namespace Go.Proofs.YthlfffbcligocaaGreat
open Go.SL Go.RowKit
set_option maxRecDepth 100000
open VhA VhB VhC VhD VhE VhF VhG VhH VhI VhJ VhK VhL VhM VhN VhO VhP
open Jn1 (Rc)
namespace VhQ
def zRv : Rv := ⟨0, [], [], 0#64, 0#64, [], [], false⟩
def blkR (b : Bk) : List (List UInt8) := (66 :: frameB b) :: ((bodd b.revs).map fun i => 68 :: (b.revs.getD i zRv).body)
def Fresh (b : Bk) : Prop := ∀ r ∈ b.revs, r.gone = false
theorem mem_bodd {l : List Rv} {i : Nat} : i ∈ bodd l ↔ ∃ r, l[i]? = some r ∧ bodB r.op = true := by
  unfold bodd
  rw [List.mem_filter, List.mem_range]
  constructor
  · rintro ⟨h1, h2⟩
    rw [List.getElem?_eq_getElem h1] at h2
    exact ⟨_, List.getElem?_eq_getElem h1, h2⟩
  · rintro ⟨r, h1, h2⟩
    exact ⟨(List.getElem?_eq_some_iff.1 h1).1, by rw [h1]; exact h2⟩
theorem bodd_nodup (l : List Rv) : (bodd l).Nodup := List.Nodup.sublist List.filter_sublist List.nodup_range
theorem bodd_len (l : List Rv) : (bodd l).length ≤ l.length := by
  have := List.length_filter_le (fun i => (l[i]?.map fun r => bodB r.op).getD false) (List.range l.length)
  rw [List.length_range] at this; exact this
def unb (b : Bk) (rem : List Nat) : Bk := { b with revs := b.revs.mapIdx fun i r => if i ∈ rem then VhN.bare r else r }
theorem bare_same {r : Rv} (h : okR r = true) (hb : ¬ bodB r.op = true) : VhN.bare r = r := by
  obtain ⟨_, _, _, _, _, h6⟩ := okR_and h
  unfold bytR at h6
  rw [if_neg hb] at h6
  simp only [Bool.and_eq_true, decide_eq_true_eq, Bool.not_eq_true'] at h6
  obtain ⟨op, tab, fld, doc, ver, hash, body, gone⟩ := r
  simp only at h6 hb
  unfold VhN.bare
  simp only [Rv.mk.injEq, true_and]
  exact ⟨h6.1.2.symm, by rw [h6.2]; simpa using hb⟩
theorem unb_all {b : Bk} (hok : b.revs.all okR = true) : unb b (bodd b.revs) = b.bare := by
  have hok := List.all_eq_true.1 hok
  unfold unb Bk.bare
  congr 1
  apply List.ext_getElem?
  intro i
  rw [List.getElem?_mapIdx, List.getElem?_map]
  cases h : b.revs[i]? with
  | none => rfl
  | some r =>
    show some (if i ∈ bodd b.revs then VhN.bare r else r) = some (VhN.bare r)
    split
    · rfl
    · rename_i e
      rw [bare_same (hok r (List.mem_of_getElem? h)) fun hb => e (mem_bodd.2 ⟨r, h, hb⟩)]
theorem unb_nil (b : Bk) : unb b [] = b := by
  unfold unb
  have : (b.revs.mapIdx fun i r => if i ∈ ([] : List Nat) then VhN.bare r else r) = b.revs := by
    apply List.ext_getElem?
    intro i
    rw [List.getElem?_mapIdx]
    cases b.revs[i]? <;> simp
  rw [this]
theorem bare_back {r : Rv} (hg : r.gone = false) : { VhN.bare r with body := r.body, gone := false } = r := by
  obtain ⟨op, tab, fld, doc, ver, hash, body, gone⟩ := r
  simp only at hg
  subst hg; rfl
theorem with_unb {b : Bk} {i : Nat} {is : List Nat} {r : Rv} (hi : b.revs[i]? = some r) (hb : bodB r.op = true) (hr : okR r = true) (hg : r.gone = false) (hn : i ∉ is) : withF (unb b (i :: is)) i r.body = (unb b is, 0) := by
  obtain ⟨_, _, _, _, _, h6⟩ := okR_and hr
  unfold bytR at h6
  rw [if_pos hb, if_neg (by rw [hg]; exact Bool.false_ne_true)] at h6
  simp only [Bool.and_eq_true, decide_eq_true_eq] at h6
  have h0 : (unb b (i :: is)).revs[i]? = some (VhN.bare r) := by
    unfold unb
    rw [List.getElem?_mapIdx, hi]
    simp
  unfold withF
  rw [h0]
  show (if bodB r.op = true ∧ r.hash = leafF r.body ∧ r.body.length ≤ 1024 then _ else _) = _
  rw [if_pos ⟨hb, h6.1, h6.2⟩, bare_back hg]
  congr 1
  unfold unb
  congr 1
  apply List.ext_getElem?
  intro j
  rw [List.getElem?_set, List.getElem?_mapIdx, List.getElem?_mapIdx, List.length_mapIdx]
  by_cases e : i = j
  · subst e
    rw [if_pos rfl, if_pos (List.getElem?_eq_some_iff.1 hi).1, hi]
    simp [hn]
  · rw [if_neg e]
    cases b.revs[j]? with
    | none => rfl
    | some x =>
      show some (if j ∈ i :: is then _ else _) = some (if j ∈ is then _ else _)
      simp only [List.mem_cons, show ¬ j = i from fun h => e h.symm, false_or]
theorem getD_some {l : List Rc} {i : Nat} {r : Rc} (h : l[i]? = some r) : l.getD i zRc = r := by rw [List.getD_eq_getElem?_getD, h]; rfl
theorem says_of {r : Rc} {x : UInt8} {s : List UInt8} (h1 : r.body = x :: s) (h2 : r.good = true) : saysF r = [x] := by
  unfold saysF
  rw [h1, h2, if_neg (by simp)]; rfl
theorem bodF_run {rs : List Rc} {a : Nat} {b : Bk} (hok : b.revs.all okR = true) (hf : Fresh b) : ∀ (is : List Nat) (k : Nat), is.Nodup → (∀ i ∈ is, ∃ r, b.revs[i]? = some r ∧ bodB r.op = true) →
    (∀ j (h : j < is.length), ∃ r, rs[a + 1 + k + j]? = some r ∧ r.body = 68 :: (b.revs.getD is[j] zRv).body ∧ r.good = true) → bodF rs a [] is k (unb b is) = some b := by
  have hok := List.all_eq_true.1 hok
  intro is
  induction is with
  | nil => intro k _ _ _; rw [unb_nil]; rfl
  | cons i is ih =>
    intro k hn hi hr
    obtain ⟨r, h1, h2, h3⟩ := hr 0 (by simp)
    rw [Nat.add_zero] at h1
    obtain ⟨v, hv, hb⟩ := hi i (by simp)
    have hgd : b.revs.getD i zRv = v := by rw [List.getD_eq_getElem?_getD, hv]; rfl
    have h2 : r.body = 68 :: v.body := by rw [h2, List.getElem_cons_zero, hgd]
    rw [List.nodup_cons] at hn
    have hw := with_unb (is := is) hv hb (hok v (List.mem_of_getElem? hv)) (hf v (List.mem_of_getElem? hv)) hn.1
    rw [bodF, if_neg (by simp), getD_some h1, says_of h2 h3, if_pos rfl, h2]
    rw [show (68 :: v.body).drop 1 = v.body from rfl, hw]
    rw [if_pos rfl]
    refine ih (k + 1) hn.2 (fun j hj => hi j (by simp [hj])) fun j hj => ?_
    obtain ⟨x, g1, g2, g3⟩ := hr (j + 1) (by simpa using hj)
    exact ⟨x, by rw [show a + 1 + (k + 1) + j = a + 1 + k + (j + 1) by omega]; exact g1, by rw [g2, List.getElem_cons_succ], g3⟩
theorem follows_ok {b : Bk} {n : BitVec 64} {p : List UInt8} (h : followsF b n p = 0) (hp : p.length ≤ 32) : b.Ok ∧ b.seq = n ∧ b.prev = p := by
  unfold followsF at h
  split at h
  · cases h
  rename_i h1
  split at h
  · rename_i h2
    split at h
    · rename_i h3
      exact ⟨⟨by rw [h3.2]; exact hp, by omega, by omega, h2⟩, h3.1, h3.2⟩
    · cases h
  · cases h
theorem blkR_len (b : Bk) : (blkR b).length = 1 + (bodd b.revs).length := by unfold blkR; rw [List.length_cons, List.length_map]; omega
theorem erase_no {r : Rc} {x : UInt8} {s : List UInt8} (h1 : r.body = x :: s) (hx : x ≠ 69) : eraseF r = ((0#64, 0), false) := by
  unfold eraseF
  rw [if_pos (.inr (.inr (by rw [h1]; simpa using hx)))]
theorem next_put {l : List Bk} {rs : List Rc} {a n : Nat} {b : Bk} (hf : Fresh b) (hfo : followsF b (BitVec.ofInt 64 (l.length : Nat)) (prevF l) = 0)
    (hr : ∀ j (h : j < (blkR b).length), ∃ r, rs[a + j]? = some r ∧ r.body = (blkR b)[j] ∧ r.good = true) (hn : a + (blkR b).length ≤ n) : nextF l rs a n [] = (1 + (bodd b.revs).length, some b) := by
  obtain ⟨hok, _, _⟩ := follows_ok hfo (prevF_len l)
  rw [blkR_len] at hn
  obtain ⟨r, h1, h2, h3⟩ := hr 0 (by rw [blkR_len]; omega)
  have h2 : r.body = 66 :: frameB b := h2
  rw [Nat.add_zero] at h1
  have hbo : bodd b.bare.revs = bodd b.revs := by
    unfold bodd Bk.bare
    simp only [List.length_map, List.getElem?_map, Option.map_map]
    rfl
  unfold nextF
  rw [getD_some h1, erase_no h2 (by decide), if_neg Bool.false_ne_true, says_of h2 h3, if_pos rfl, h2, show (66 :: frameB b).drop 1 = frameB b from rfl, read_frame hok]
  simp only [hbo]
  rw [if_pos ⟨trivial, by omega⟩, ← unb_all hok.2.2.2, bodF_run hok.2.2.2 hf (bodd b.revs) 0 (bodd_nodup _) (fun i hi => mem_bodd.1 hi) fun j hj => ?_]
  · simp only [hfo]; rfl
  · obtain ⟨x, g1, g2, g3⟩ := hr (1 + j) (by rw [blkR_len]; omega)
    refine ⟨x, by rw [Nat.add_zero, Nat.add_assoc]; exact g1, ?_, g3⟩
    rw [g2]
    simp only [blkR, Nat.add_comm 1 j, List.getElem_cons_succ, List.getElem_map]
def Chain (l : List Bk) : Prop := ∀ l1 b l2, l = l1 ++ b :: l2 → followsF b (BitVec.ofInt 64 (l1.length : Nat)) (prevF l1) = 0 ∧ Fresh b
theorem Chain.nil : Chain [] := fun l1 b l2 h => by cases l1 <;> cases h
theorem Chain.snoc {l : List Bk} {b : Bk} (h : Chain l) (h1 : followsF b (BitVec.ofInt 64 (l.length : Nat)) (prevF l) = 0) (h2 : Fresh b) : Chain (l ++ [b]) := by
  intro l1 c l2 e
  rcases snoc_cases l2 with rfl | ⟨m, x, rfl⟩
  · obtain ⟨rfl, e2⟩ := List.append_inj' e rfl
    cases e2
    exact ⟨h1, h2⟩
  · have e' : l ++ [b] = (l1 ++ c :: m) ++ [x] := by rw [e]; simp
    obtain ⟨rfl, _⟩ := List.append_inj' e' rfl
    exact h l1 c m rfl
def Puts (rs : List Rc) (l : List Bk) : Prop := rs.map (fun r => (r.body, r.good)) = (l.flatMap blkR).map fun s => (s, true)
theorem Puts.len {rs : List Rc} {l : List Bk} (h : Puts rs l) : rs.length = (l.flatMap blkR).length := by
  have := congrArg List.length h
  rwa [List.length_map, List.length_map] at this
theorem Puts.at {rs : List Rc} {l : List Bk} (h : Puts rs l) {i : Nat} (hi : i < (l.flatMap blkR).length) : ∃ r, rs[i]? = some r ∧ r.body = (l.flatMap blkR)[i] ∧ r.good = true := by
  have hl := h.len
  have h2 := congrArg (·[i]?) h
  simp only [List.getElem?_map, List.getElem?_eq_getElem hi, List.getElem?_eq_getElem (show i < rs.length by omega), Option.map_some] at h2
  injection h2 with h2
  injection h2 with h3 h4
  exact ⟨_, List.getElem?_eq_getElem _, h3, h4⟩
theorem blkR_head {b : Bk} {s : List UInt8} (h : s ∈ blkR b) : ∃ x t, s = x :: t ∧ x ≠ 69 := by
  unfold blkR at h
  rcases List.mem_cons.1 h with rfl | h
  · exact ⟨66, _, rfl, by decide⟩
  · obtain ⟨i, _, rfl⟩ := List.mem_map.1 h
    exact ⟨68, _, rfl, by decide⟩
theorem Puts.gone {rs : List Rc} {l : List Bk} (h : Puts rs l) (n : Nat) : goneF (rs.take n) = [] := by
  unfold goneF
  rw [List.filterMap_eq_nil_iff]
  intro r hr
  obtain ⟨i, hi, rfl⟩ := List.getElem_of_mem (List.mem_of_mem_take hr)
  obtain ⟨x, g1, g2, _⟩ := h.at (i := i) (by rw [← h.len]; exact hi)
  rw [List.getElem?_eq_getElem hi] at g1
  injection g1 with g1
  obtain ⟨b, _, hb⟩ := List.mem_flatMap.1 (List.getElem_mem (show i < (l.flatMap blkR).length by rw [← h.len]; exact hi))
  obtain ⟨y, t, e, hy⟩ := blkR_head hb
  rw [g1, erase_no (g2.trans e) hy]
  rfl
theorem scan_run {rs : List Rc} {l : List Bk} (h : Puts rs l) (hc : Chain l) : ∀ (l2 l1 : List Bk) (V : Vs) (f : Nat), l = l1 ++ l2 → V.l = l1 → V.ends = (l1.flatMap blkR).length → l2.length < f →
    (scanF rs rs.length [] f V).l = l ∧ (scanF rs rs.length [] f V).ends = rs.length := by
  intro l2
  induction l2 with
  | nil =>
    intro l1 V f e h1 h2 hf
    rw [List.append_nil] at e
    obtain ⟨f, rfl⟩ : ∃ k, f = k + 1 := ⟨f - 1, by simp at hf; omega⟩
    have hl := h.len
    rw [scanF, if_neg (by rw [h2, hl, e]; omega)]
    exact ⟨by rw [h1, e], by rw [h2, hl, e]⟩
  | cons b l2 ih =>
    intro l1 V f e h1 h2 hf
    obtain ⟨f, rfl⟩ : ∃ k, f = k + 1 := ⟨f - 1, by simp at hf; omega⟩
    have hl := h.len
    have hlb := blkR_len b
    have hsp : (l.flatMap blkR) = l1.flatMap blkR ++ (blkR b ++ l2.flatMap blkR) := by rw [e, List.flatMap_append, List.flatMap_cons]
    have hlen : (l.flatMap blkR).length = (l1.flatMap blkR).length + ((blkR b).length + (l2.flatMap blkR).length) := by rw [hsp, List.length_append, List.length_append]
    obtain ⟨c1, c2⟩ := hc l1 b l2 e
    have hn : nextF V.l rs V.ends rs.length [] = (1 + (bodd b.revs).length, some b) := by
      refine next_put c2 (by rw [h1]; exact c1) (fun j hj => ?_) (by rw [h2]; omega)
      obtain ⟨r, g1, g2, g3⟩ := h.at (i := V.ends + j) (by rw [h2]; omega)
      refine ⟨r, g1, ?_, g3⟩
      rw [g2]
      simp only [hsp]
      rw [List.getElem_append_right (by rw [h2]; omega), List.getElem_append_left (by rw [h2]; omega)]
      simp only [h2, Nat.add_sub_cancel_left]
    have hs : stepV rs rs.length [] V = (takeV V b V.ends, 1 + (bodd b.revs).length) := by unfold stepV; rw [hn]
    rw [scanF, if_pos (by rw [h2, hl]; omega), hs]
    simp only
    rw [if_neg (by omega)]
    refine ih (l1 ++ [b]) _ f (by rw [e]; simp) (by show V.l ++ [b] = _; rw [h1]) ?_ (by simp at hf; omega)
    show V.ends + _ = _
    rw [List.flatMap_append, List.length_append, h2]
    simp [hlb]
theorem flatR_len (l : List Bk) : l.length ≤ (l.flatMap blkR).length := by
  induction l with
  | nil => exact Nat.zero_le _
  | cons b l ih => rw [List.flatMap_cons, List.length_append, blkR_len, List.length_cons]; omega
theorem scan_puts {rs : List Rc} {l : List Bk} (h : Puts rs l) (hc : Chain l) : (scanV rs rs.length).l = l ∧ (scanV rs rs.length).ends = rs.length := by
  unfold scanV
  rw [h.gone]
  have h1 := flatR_len l
  have h2 := h.len
  exact scan_run h hc l [] V0 _ rfl rfl rfl (by omega)
end VhQ
end Go.Proofs.YthlfffbcligocaaGreat
namespace Go.Proofs.YthlfffbcligocaaGreat
open Go.SL Go.RowKit
set_option maxRecDepth 100000
open VhA VhB VhC VhD VhE VhF VhG VhH VhI VhJ VhK VhL VhM VhN VhO VhP VhQ
open Jn1 (Rc)
namespace VhR
def litT : List UInt8 := [32, 115, 116, 97, 110, 100, 115, 32, 104, 101, 114, 101, 32, 97, 110, 100, 32, 110, 111, 119, 104, 101, 114, 101, 32, 101, 108, 115, 101, 32]
def textF (n long : Nat) : List UInt8 := ([toB ((97 + n / 26 % 26 : Nat) : Int), toB ((97 + n % 26 : Nat) : Int)] ++ litT) ++ List.replicate (long % 300) (toB ((65 + n % 26 : Nat) : Int))
theorem textF_len (n long : Nat) : (textF n long).length ≤ 331 := by
  unfold textF
  simp only [List.length_append, List.length_replicate, List.length_cons, List.length_nil, litT]
  omega
def longOf (s : Int) : Nat := ((s.tmod 1000 + 1000).tmod 1000).toNat
def mRv (n i : Nat) (s : Int) : Rv :=
  if 0 < n ∧ s.tmod 2 = 1 then sealF ⟨4, [116], [], BitVec.ofNat 64 (i + 1), BitVec.ofNat 64 n, [], textF (n * 5 + i) (longOf s), false⟩
  else sealF ⟨3, [116], [], BitVec.ofNat 64 (n * 5 + i + 1), 0#64, [], textF (n * 5 + i) (longOf s), false⟩
def mRvs (n : Nat) (sizes : List Int) : List Rv := (sizes.take 5).mapIdx (mRv n)
def tabRv : Rv := ⟨1, [116], [], 0#64, 0#64, [], [], false⟩
def madeF (l : List Bk) (n : Nat) (sizes : List Int) : Bk := ⟨BitVec.ofInt 64 (l.length : Nat), prevF l, BitVec.ofNat 64 n, if mRvs n sizes = [] then [tabRv] else mRvs n sizes⟩
theorem name_t : nameB [116] = true := nameB_yes ⟨fun i hi => by
  have : i = 0 := by simp at hi; omega
  subst this
  unfold okAt; decide, by decide, by decide⟩
theorem seal4 {op : Int} {t : List UInt8} {doc ver : BitVec 64} {s : List UInt8} (h : bodB op = true) (ht : nameB t = true) (h2 : op ≠ 2) (hn : numR ⟨op, t, [], doc, ver, leafF s, s, false⟩ = true) (hs : s.length ≤ 1024) :
    okR (sealF ⟨op, t, [], doc, ver, [], s, false⟩) = true ∧ (sealF ⟨op, t, [], doc, ver, [], s, false⟩).gone = false := by
  have e : sealF ⟨op, t, [], doc, ver, [], s, false⟩ = ⟨op, t, [], doc, ver, leafF s, s, false⟩ := by unfold sealF; rw [if_pos h]
  rw [e]
  refine ⟨?_, rfl⟩
  have ho := bodB_iff.1 h
  unfold okR
  rw [hn, show nameB (⟨op, t, [], doc, ver, leafF s, s, false⟩ : Rv).tab = true from ht, decide_eq_true (show (1 : Int) ≤ (⟨op, t, [], doc, ver, leafF s, s, false⟩ : Rv).op by show (1 : Int) ≤ op; omega), decide_eq_true (show (⟨op, t, [], doc, ver, leafF s, s, false⟩ : Rv).op ≤ 5 by show op ≤ 5; omega)]
  have hf : fldR ⟨op, t, [], doc, ver, leafF s, s, false⟩ = true := by unfold fldR; rw [if_neg h2]; simp
  have hb : bytR ⟨op, t, [], doc, ver, leafF s, s, false⟩ = true := by
    unfold bytR
    rw [if_pos h, if_neg Bool.false_ne_true]
    simp [hs]
  rw [hf, hb]; rfl
theorem mRv_ok (n i : Nat) (s : Int) (hn : n < 1000000) (hi : i < 5) : okR (mRv n i s) = true ∧ (mRv n i s).gone = false := by
  have hl := textF_len (n * 5 + i) (longOf s)
  unfold mRv
  split
  · rename_i h
    refine seal4 (by decide) name_t (by decide) ?_ (by omega)
    unfold numR
    rw [if_neg (by show ¬ (4 : Int) < 3; decide)]
    have h1 : (BitVec.ofNat 64 (i + 1)).toNat = i + 1 := by rw [BitVec.toNat_ofNat, Nat.mod_eq_of_lt (by omega)]
    have h2 : ¬ BitVec.ofNat 64 n = 0#64 := fun e => by
      have := congrArg BitVec.toNat e
      rw [BitVec.toNat_ofNat, Nat.mod_eq_of_lt (by omega)] at this
      have : n = 0 := this
      omega
    show (decide (1 ≤ (BitVec.ofNat 64 (i + 1)).toNat) && (decide ((4 : Int) = 3) == decide (BitVec.ofNat 64 n = 0#64))) = true
    rw [h1, decide_eq_true (by omega), decide_eq_false h2]; rfl
  · refine seal4 (by decide) name_t (by decide) ?_ (by omega)
    unfold numR
    rw [if_neg (by show ¬ (3 : Int) < 3; decide)]
    have h1 : (BitVec.ofNat 64 (n * 5 + i + 1)).toNat = n * 5 + i + 1 := by rw [BitVec.toNat_ofNat, Nat.mod_eq_of_lt (by omega)]
    show (decide (1 ≤ (BitVec.ofNat 64 (n * 5 + i + 1)).toNat) && (decide ((3 : Int) = 3) == decide (0#64 = 0#64))) = true
    rw [h1, decide_eq_true (by omega)]; rfl
theorem tab_ok : okR tabRv = true := by
  unfold okR
  rw [show nameB tabRv.tab = true from name_t]
  rfl
theorem mRvs_len (n : Nat) (sizes : List Int) : (mRvs n sizes).length = min 5 sizes.length := by unfold mRvs; rw [List.length_mapIdx, List.length_take]
theorem made_ok (l : List Bk) (n : Nat) (sizes : List Int) (hn : n < 1000000) : followsF (madeF l n sizes) (BitVec.ofInt 64 (l.length : Nat)) (prevF l) = 0 ∧ Fresh (madeF l n sizes) := by
  have hall : ∀ r ∈ (madeF l n sizes).revs, okR r = true ∧ r.gone = false := by
    intro r hr
    unfold madeF at hr
    simp only at hr
    split at hr
    · rw [List.mem_singleton.1 hr]; exact ⟨tab_ok, rfl⟩
    · obtain ⟨i, hi, rfl⟩ := List.getElem_of_mem hr
      unfold mRvs at hi ⊢
      rw [List.getElem_mapIdx]
      rw [List.length_mapIdx, List.length_take] at hi
      exact mRv_ok n i _ hn (by omega)
  have hlen : 1 ≤ (madeF l n sizes).revs.length ∧ (madeF l n sizes).revs.length ≤ 5 := by
    unfold madeF
    simp only
    split
    · exact ⟨by decide, by decide⟩
    · rename_i h
      have h1 := mRvs_len n sizes
      have h2 : (mRvs n sizes).length ≠ 0 := fun e => h (List.length_eq_zero_iff.1 e)
      omega
  refine ⟨?_, fun r hr => (hall r hr).2⟩
  unfold followsF
  rw [if_neg (by omega), if_pos (List.all_eq_true.2 fun r hr => (hall r hr).1), if_pos ⟨rfl, rfl⟩]
end VhR
end Go.Proofs.YthlfffbcligocaaGreat
namespace Go.Proofs.YthlfffbcligocaaGreat
open Go.SL Go.RowKit
set_option maxRecDepth 100000
open VhA VhB VhC VhD VhE VhF VhG VhH VhI VhJ VhK VhL VhM VhN VhO VhP VhQ
open Jn1 (Rc)
open Jn3 (recsAt allF)
namespace VhS
theorem encT_len (s : List UInt8) : (encT s).length ≤ 11 + s.length := by
  unfold encT
  have := uvL_len (BitVec.ofInt 64 (s.length : Nat))
  rw [List.length_append]; omega
theorem metaF_len {r : Rv} (h : okR r = true) : (metaF r).length ≤ 120 := by
  obtain ⟨_, _, h3, h4, _, h6⟩ := okR_and h
  have a1 := name_len h3
  have a2 := fldR_len h4
  have a3 := (bytR_hash h6).1
  have b1 := encT_len r.tab
  have b2 := encT_len r.fld
  have b3 := encT_len r.hash
  have b4 := uvL_len r.doc
  have b5 := uvL_len r.ver
  unfold metaF
  simp only [List.length_append, List.length_singleton]
  omega
theorem flat_len {α : Type} (f : α → List UInt8) (k : Nat) : ∀ (l : List α), (∀ x ∈ l, (f x).length ≤ k) → (l.flatMap f).length ≤ l.length * k := by
  intro l
  induction l with
  | nil => intro _; exact Nat.zero_le _
  | cons x l ih =>
    intro h
    have h1 := h x (by simp)
    have h2 := ih fun y hy => h y (by simp [hy])
    rw [List.flatMap_cons, List.length_append, List.length_cons, Nat.succ_mul]; omega
theorem headB_len {b : Bk} (h : b.prev.length ≤ 32) : (headB b).length ≤ 76 := by
  have b1 := encT_len b.prev
  have b2 := uvL_len b.seq
  have b3 := uvL_len b.tx
  have b4 := uvL_len b.num
  unfold headB
  simp only [List.length_append]
  omega
theorem frameB_len {b : Bk} (h : b.Ok) : (frameB b).length ≤ 7756 := by
  obtain ⟨h1, _, h3, h4⟩ := h
  have h4 := List.all_eq_true.1 h4
  have a1 := headB_len h1
  have a2 := flat_len metaF 120 b.revs fun r hr => metaF_len (h4 r hr)
  unfold frameB
  rw [List.length_append]
  have : b.revs.length * 120 ≤ 64 * 120 := Nat.mul_le_mul_right _ h3
  omega
theorem blkR_small {b : Bk} (h : b.Ok) : (∀ s ∈ blkR b, s.length ≤ 7800) ∧ (blkR b).length ≤ 65 := by
  have hl := blkR_len b
  have h1 := bodd_len b.revs
  refine ⟨fun s hs => ?_, by have := h.2.2.1; omega⟩
  unfold blkR at hs
  rcases List.mem_cons.1 hs with rfl | hs
  · have := frameB_len h
    rw [List.length_cons]; omega
  · obtain ⟨i, hi, rfl⟩ := List.mem_map.1 hs
    obtain ⟨r, hr, _⟩ := mem_bodd.1 hi
    have e : b.revs.getD i zRv = r := by rw [List.getD_eq_getElem?_getD, hr]; rfl
    have := (bytR_hash (okR_and (List.all_eq_true.1 h.2.2.2 r (List.mem_of_getElem? hr))).2.2.2.2.2).2
    rw [e, List.length_cons]; omega
theorem blkR_all {b : Bk} (h : b.Ok) : (allF (blkR b)).length ≤ 600000 := by
  obtain ⟨h1, h2⟩ := blkR_small h
  have h3 := Jn5.allF_len (blkR b) 7800 h1
  have : (blkR b).length * (7800 + 12) ≤ 65 * (7800 + 12) := Nat.mul_le_mul_right _ h2
  omega
theorem Puts.nil : Puts [] [] := rfl
theorem Puts.snoc {rs : List Rc} {l : List Bk} (h : Puts rs l) (b : Bk) (file a : Nat) : Puts (rs ++ recsAt file a (blkR b)) (l ++ [b]) := by
  unfold Puts at h ⊢
  rw [List.map_append, h, Jn4.recsAt_good, List.flatMap_append, List.map_append]
  simp
end VhS
end Go.Proofs.YthlfffbcligocaaGreat
namespace Go.Proofs.YthlfffbcligocaaGreat
open Go.SL Go.RowKit
set_option maxRecDepth 100000
open VhA VhB VhC VhD VhE VhF VhG VhH VhI VhJ VhK VhL VhM VhN
namespace VhT
theorem sz9 : (Tryz.prog.info? 9).map (·.size) = some 1 := by kernel_rfl
theorem sz43 : (Tryz.prog.info? 43).map (·.size) = some 1 := by kernel_rfl
theorem ti9 : TI Tryz.prog 9 [str []] 1 16 := TI.of (by kernel_rfl) rfl rfl
theorem ti132 : TI Tryz.prog 132 [.slice none 0 0, .slice none 0 0] 2 48 := TI.of (by kernel_rfl) rfl rfl
theorem fo132_0 : FO Tryz.prog 132 0 0 1 false := FO.of U132 rfl rfl (by kernel_rfl) U43 rfl rfl
theorem fo132_1 : FO Tryz.prog 132 1 1 1 false := FO.of U132 rfl rfl (by kernel_rfl) U43 rfl rfl
theorem bit0 {n : Nat} (h : n ≤ 9223372036854775807) : bAnd .i64 ((n : Nat) : Int) 1 = ((n % 2 : Nat) : Int) := by
  unfold bAnd
  have h1 : (BitVec.ofInt IntKind.i64.bits ((n : Nat) : Int)).toNat = n := by
    show (BitVec.ofInt 64 ((n : Nat) : Int)).toNat = n
    rw [BitVec.toNat_ofInt]; simp only [Nat.reducePow]; omega
  have h2 : (BitVec.ofInt IntKind.i64.bits 1).toNat = 1 := rfl
  rw [BitVec.toNat_and, h1, h2, Nat.and_one_is_mod, wrap64 (by omega) (by omega)]
theorem str_at {l : List (List UInt8)} {j : Nat} (h : j < l.length) : ((l.map str).drop (0 + j * 1)).take 1 = [str (l.getD j [])] := by
  have e : l.getD j [] = l[j] := by rw [List.getD_eq_getElem?_getD, List.getElem?_eq_getElem h]; rfl
  rw [e, Nat.zero_add, Nat.mul_one]
  rw [List.drop_eq_getElem_cons (by simpa using h), List.take_succ_cons, List.take_zero, List.getElem_map]
theorem Ct.more {P : Program} {f : FuncId} {args : List Value} {B : Frag} {pre pre2 F : HP} {Φ Φ2 : Value → Frag → HP → Prop} (h : Ct P f args B pre Φ) (hp : pre2 = pre * F) (hm : ∀ v B' H', Φ v B' H' → Φ2 v B' (H' * F)) : Ct P f args B pre2 Φ2 :=
  ⟨h.1, fun N0 w R s => by
    have s' : St N0 B (pre * (F * R)) w := s.of_eq (by rw [hp, star_assoc])
    refine (h.2 N0 w (F * R) s').mono ?_
    rintro x w' ⟨v, B', H', hx, hΦ, hB, hb, s2⟩
    exact ⟨v, B', _, hx, hm _ _ _ hΦ, hB, hb, s2.of_eq (by rw [star_assoc])⟩⟩
section
variable {e : Env} {ds : List Deferred} {ρ : Sl} {B : Frag} {H R : HP} {ty : TypeId}
theorem Ox.less {op : Op} {Φ : Value → Frag → HP → Prop} (b m : Nat) {et : TypeId} {size n c : Nat} {xs : List Value} [hp : PickS H (some ⟨b, 0, none⟩) et size n c xs R] (hm : m ≤ n)
    (h : Ox e ds op ty ρ B (sbuf et size (some ⟨b, 0, none⟩) m c (xs.take (m * size)) * R) Φ) : Ox e ds op ty ρ B H Φ :=
  ⟨h.1, fun a w dst pos after guard K Q f b' s k => by
    have s0 : St e.N0 B (sbuf et size (some ⟨b, 0, none⟩) n c xs * R) w := hp.eq ▸ s
    rcases s0.cases_sbuf with ⟨h1, _⟩ | ⟨bb, sp, h1, h2, h3, h4, s2⟩
    · cases h1
    · injection h1 with h1
      injection h1 with h1
      subst h1
      have hle : m * size ≤ n * size := Nat.mul_le_mul_right _ hm
      refine h.2 a w dst pos after guard K Q f b' (St.of_sbuf (sp := xs.drop (m * size) ++ sp) (by rw [List.length_take]; omega) (by omega) (by rw [← List.append_assoc, List.take_append_drop]; exact h4) ?_) k
      rw [← List.append_assoc, List.take_append_drop]; exact s2⟩
end
set_option maxHeartbeats 4000000 in
theorem MAdd_ct (tb : Nat) (lv : List (List UInt8)) (Al Ap : Option Addr) (cl cp : Nat) (s : List UInt8) (B : Frag) (hs : s.length ≤ 4611686018427387900) (hl : lv.length ≤ 1000000000) (hv : ∀ x ∈ lv, x.length ≤ 32) : Ct Tryz.prog 91 [.pointer (some ⟨tb, 0, none⟩), str s] B (mkH tb ⟨lv, pkOf lv, Al, cl, Ap, cp⟩) (fun v B' H' => B' = B ∧ v = str (leafF s) ∧ ∃ Al' cl' Ap' cp', H' = mkH tb ⟨lv ++ [leafF s], pkOf (lv ++ [leafF s]), Al', cl', Ap', cp'⟩) := by
 obtain ⟨pk, hpk⟩ : ∃ pk, pk = pkOf lv := ⟨_, rfl⟩
 rw [pkOf_snoc, ← hpk]
 have hpl : pk.length = popN lv.length := by rw [hpk]; exact pkOf_len _ _ rfl
 have hple := popN_le lv.length
 have hpa : ∀ x ∈ pk, x.length ≤ 32 := by rw [hpk]; exact pkOf_all _ _ rfl hv
 refine Ct.of_body Tryz.func91 rfl (nt := 77) rfl (by kernel_rfl) rfl ?_
 intro N0 w0 R
 unfold mkH
 simp only [star_assoc]
 refine Cq (fun K1 k1 => ?_)
 refine Cr <| Lx.y (asg rfl) rfl <| Lx.nil <| ?_
 refine Xx.tn (k1 _ _ _ _ ?_)
 refine Cq (fun K2 k2 => ?_)
 refine Cq (fun K3 k3 => ?_)
 refine Cr <| Lx.y (mv rfl) rfl <| Lx.y (Yx.ff (eqNilP U66 rfl rfl) rfl) rfl <| Lx.nil <| ?_
 refine Xx.tn (k3 _ _ _ _ ?_)
 refine Cx.condF rfl <| Cx.skip <| ?_
 refine Xx.tn (k2 _ _ _ _ ?_)
 refine Cq (fun K4 k4 => ?_)
 refine Cr <| Lx.y (mv rfl) rfl <| ?_
 refine Lx.cp rfl rfl rfl (Leaf_ct s _ hs) rfl ?_
 refine Lx.y (asg rfl) rfl <| Lx.nil <| ?_
 refine Xx.tn (k4 _ _ _ _ ?_)
 refine Cq (fun K5 k5 => ?_)
 refine Cr <| Lx.y (mv rfl) rfl <| Lx.y (mv rfl) rfl <| Lx.y (nilc rfl) rfl <| Lx.y (fa' fo132_0 rfl) rfl <| Lx.y (ld U43 rfl rfl rfl) rfl <| Lx.y (mv rfl) rfl <| ?_
 refine Lx.bsl (bsl1 U43 ti9 rfl rfl rfl (by decide)) rfl (fun bv => ?_)
 refine Lx.o (appN (et := 9) (A := Al) (lv.length + 1) [str (leafF s)] ((lv ++ [leafF s]).map str) U43 U43 ti9 rfl rfl rfl rfl rfl (by omega) (by omega) rfl (by rw [List.map_append]; rfl)) rfl (fun v B' H' hΦ hB => ?_)
 obtain ⟨A1, c1, rfl, hA1, hl1, hc1, hBB, rfl⟩ := hΦ
 have hBB2 := hBB.symm
 subst hBB2
 refine Xx.dropB bv ?_
 clear hB
 refine Lx.y (nilc rfl) rfl <| Lx.y (fa' fo132_0 rfl) rfl <| ?_
 refine Lx.st (stO U43 sz43 rfl rfl rfl (by show 0 < 2; omega) rfl) ?_
 refine Lx.nil ?_
 refine Xx.tn (k5 _ _ _ _ ?_)
 refine Cq (fun K6 k6 => ?_)
 refine Cr <| Lx.y (mv rfl) rfl <| Lx.y (mv rfl) rfl <| Lx.y (nilc rfl) rfl <| Lx.y (fa' fo132_1 rfl) rfl <| Lx.y (ld U43 rfl rfl rfl) rfl <| Lx.y (mv rfl) rfl <| ?_
 refine Lx.bsl (bsl1 U43 ti9 rfl rfl rfl (by decide)) rfl (fun bw => ?_)
 refine Lx.o (appN (et := 9) (A := Ap) (pk.length + 1) [str (leafF s)] ((pk ++ [leafF s]).map str) U43 U43 ti9 rfl rfl rfl rfl rfl (by omega) (by omega) rfl (by rw [List.map_append]; rfl)) rfl (fun v B' H' hΦ hB => ?_)
 obtain ⟨Aq, cq, rfl, hAq, hlq, hcq, hBB, rfl⟩ := hΦ
 have hBB2 := hBB.symm
 subst hBB2
 refine Xx.dropB bw ?_
 clear hB
 refine Lx.y (nilc rfl) rfl <| Lx.y (fa' fo132_1 rfl) rfl <| ?_
 refine Lx.st (stO U43 sz43 rfl rfl rfl (by show 1 < 2; omega) rfl) ?_
 refine Lx.nil ?_
 refine Xx.tn (k6 _ _ _ _ ?_)
 refine Cq (fun K7 k7 => ?_)
 refine Cq (fun K8 k8 => ?_)
 refine Cr <| Lx.y (mv rfl) rfl <| Lx.y (nilc rfl) rfl <| Lx.y (fa' fo132_0 rfl) rfl <| Lx.y (ld U43 rfl rfl rfl) rfl <| Lx.y (lenV (ty' := 0) U43 rfl) rfl <| Lx.y (asg rfl) rfl <| Lx.nil <| ?_
 refine Xx.tn (k8 _ _ _ _ ?_)
 refine Cx.block ?_
 refine Cx.loopK (Sc 0 rfl (Sc 1 rfl (Sc 4 rfl (Sc 5 rfl (Sc 8 rfl (Sc 9 rfl (Sc 10 rfl (Sc 11 rfl (Sc 12 rfl (Sc 13 rfl (Sc 14 rfl (Sc 15 rfl (Sc 16 rfl (Sc 17 rfl (Sc 18 rfl (Sc 19 rfl (Sc 20 rfl (Sc 21 rfl (Sc 22 rfl (Sc 23 rfl (Sc 24 rfl (Sc 25 rfl (Sc 26 rfl (Sc 27 rfl (Sc 28 rfl (Sc 29 rfl (Sc 30 rfl (Sc 31 rfl (Sc 32 rfl (Sc 33 rfl (Sc 34 rfl (Sc 35 rfl (Sc 36 rfl (Sub.nil _)))))))))))))))))))))))))))))))))) (fun m ρ' B' H' => ∃ (n : Nat) (q : List (List UInt8)) (A2 : Option Addr) (c2 : Nat), (1 ≤ n ∧ n ≤ lv.length + 1 ∧ q.length = popN (n - 1) + 1 ∧ carry n q = carry (lv.length + 1) (pk ++ [leafF s]) ∧ ∀ x ∈ q, x.length ≤ 32) ∧ m = n * 1 ∧ ρ' = [(6, i64 (n : Int))] ∧ B = B' ∧ row tb 132 [.slice A1 (lv.length + 1) c1, .slice A2 q.length c2] * (sbuf 9 1 A1 (lv.length + 1) c1 ((lv ++ [leafF s]).map str) * (sbuf 9 1 A2 q.length c2 (q.map str) * R)) = H') ⟨lv.length + 1, pk ++ [leafF s], Aq, cq, ⟨by omega, Nat.le_refl _, by rw [List.length_append, List.length_singleton, hpl, Nat.add_sub_cancel], rfl, fun x hx => by
 rcases List.mem_append.1 hx with hx | hx
 ·exact hpa x hx
 ·rw [List.mem_singleton.1 hx, leafF_len]; exact Nat.le_refl _⟩, rfl, rfl, rfl, (by rw [List.length_append, List.length_singleton]; ac_rfl)⟩ (Sc 6 rfl (Sc 0 rfl (Sc 1 rfl (Sc 4 rfl (Sc 5 rfl (Sc 8 rfl (Sc 9 rfl (Sc 10 rfl (Sc 11 rfl (Sc 12 rfl (Sc 13 rfl (Sc 14 rfl (Sc 15 rfl (Sc 16 rfl (Sc 17 rfl (Sc 18 rfl (Sc 19 rfl (Sc 20 rfl (Sc 21 rfl (Sc 22 rfl (Sc 23 rfl (Sc 24 rfl (Sc 25 rfl (Sc 26 rfl (Sc 27 rfl (Sc 28 rfl (Sc 29 rfl (Sc 30 rfl (Sc 31 rfl (Sc 32 rfl (Sc 33 rfl (Sc 34 rfl (Sc 35 rfl (Sc 36 rfl (Sub.nil _))))))))))))))))))))))))))))))))))) ?_
 rintro m ρ' B' H' ⟨n, q, A2, c2, ⟨h1n, hnl, hql, hca, hqa⟩, rfl, rfl, rfl, rfl⟩
 refine Cq (fun K9 k9 => ?_)
 refine Cq (fun K10 k10 => ?_)
 refine Cr <| Lx.y (mv rfl) rfl <| Lx.y (Yx.val (band rfl rfl (bit0 (by omega))) rfl) rfl <| Lx.y (eqI rfl rfl) rfl <| Lx.nil <| ?_
 refine Xx.tn (k10 _ _ _ _ ?_)
 refine Cx.condD rfl (fun h11 => ?_) (fun h11 => ?_)
 ·
  have he := h11
  have he : n % 2 = 0 := by omega
  have hpp : 1 ≤ popN (n - 1) := popN_pos (by omega)
  have hpn := popN_le (n - 1)
  have hq2 : (q.take (q.length - 2) ++ [nodeF (q.getD (q.length - 2) []) (q.getD (q.length - 1) [])]).length = popN (n / 2 - 1) + 1 := by
   obtain ⟨k, rfl⟩ : ∃ k, n = 2 * (k + 1) := ⟨n / 2 - 1, by omega⟩
   rw [show 2 * (k + 1) - 1 = 2 * k + 1 by omega, popN_odd] at hql
   rw [show 2 * (k + 1) / 2 - 1 = k by omega, List.length_append, List.length_singleton, List.length_take]; omega
  have hqa2 : ∀ x ∈ q.take (q.length - 2) ++ [nodeF (q.getD (q.length - 2) []) (q.getD (q.length - 1) [])], x.length ≤ 32 := fun x hx => by
   rcases List.mem_append.1 hx with hx | hx
   ·exact hqa x (List.mem_of_mem_take hx)
   ·rw [List.mem_singleton.1 hx, nodeF_len]; exact Nat.le_refl _
  have hgd : ∀ j, j < q.length → (q.getD j []).length ≤ 1000 := fun j hj => by
   rw [List.getD_eq_getElem?_getD, List.getElem?_eq_getElem hj]
   exact Nat.le_trans (hqa _ (List.getElem_mem hj)) (by decide)
  refine Xx.addrT A2 (by omega) (fun bq hA hxl hxc => ?_)
  subst hA
  refine Cx.skip ?_
  refine Xx.tn (k9 _ _ _ _ ?_)
  refine Cq (fun K12 k12 => ?_)
  refine Cx.block ?_
  refine Cq (fun K13 k13 => ?_)
  refine Cr <| Lx.y (mv rfl) rfl <| Lx.y (nilc rfl) rfl <| Lx.y (fa' fo132_1 rfl) rfl <| Lx.y (ld U43 rfl rfl rfl) rfl <| Lx.y (lenV (ty' := 0) U43 rfl) rfl <| Lx.y (asg rfl) rfl <| Lx.nil <| ?_
  refine Xx.tn (k13 _ _ _ _ ?_)
  refine Cx.drawn (by kernel_rfl) ?_
  refine Dx.p (i := 0) rfl (by kernel_rfl) (mv rfl) rfl ?_
  refine Dx.p (i := 1) rfl (by kernel_rfl) (mv rfl) rfl ?_
  refine Dx.p (i := 2) rfl (by kernel_rfl) (nilc rfl) rfl ?_
  refine Dx.p (i := 3) rfl (by kernel_rfl) (fa' fo132_1 rfl) rfl ?_
  refine Dx.r (i := 4) rfl (by kernel_rfl) (ld U43 rfl rfl rfl) rfl ?_
  refine Dx.p (i := 5) rfl (by kernel_rfl) (mv rfl) rfl ?_
  refine Dx.p (i := 6) rfl (by kernel_rfl) (sub rfl rfl (show IntKind.i64.wrap _ = ((q.length - 2 : Nat) : Int) from (wrap64 (by omega) (by omega)).trans (by omega))) rfl ?_
  refine Dx.p (i := 7) rfl (by kernel_rfl) (sl2V U43 sz9 rfl rfl (Int.toNat_natCast _) (by omega) (by omega)) rfl ?_
  refine Dx.p (i := 8) rfl (by kernel_rfl) (mv rfl) rfl ?_
  refine Dx.p (i := 9) rfl (by kernel_rfl) (nilc rfl) rfl ?_
  refine Dx.p (i := 10) rfl (by kernel_rfl) (fa' fo132_1 rfl) rfl ?_
  refine Dx.r (i := 11) rfl (by kernel_rfl) (ld U43 rfl rfl rfl) rfl ?_
  refine Dx.p (i := 12) rfl (by kernel_rfl) (mv rfl) rfl ?_
  refine Dx.p (i := 13) rfl (by kernel_rfl) (sub rfl rfl (show IntKind.i64.wrap _ = ((q.length - 2 : Nat) : Int) from (wrap64 (by omega) (by omega)).trans (by omega))) rfl ?_
  refine Dx.p (i := 14) rfl (by kernel_rfl) (ia (j := q.length - 2) U43 sz9 rfl rfl (Int.toNat_natCast _) (by omega) (by omega)) rfl ?_
  refine Dx.p (i := 16) rfl (by kernel_rfl) (mv rfl) rfl ?_
  refine Dx.p (i := 17) rfl (by kernel_rfl) (nilc rfl) rfl ?_
  refine Dx.p (i := 18) rfl (by kernel_rfl) (fa' fo132_1 rfl) rfl ?_
  refine Dx.r (i := 19) rfl (by kernel_rfl) (ld U43 rfl rfl rfl) rfl ?_
  refine Dx.p (i := 20) rfl (by kernel_rfl) (mv rfl) rfl ?_
  refine Dx.p (i := 21) rfl (by kernel_rfl) (sub rfl rfl (show IntKind.i64.wrap _ = ((q.length - 1 : Nat) : Int) from (wrap64 (by omega) (by omega)).trans (by omega))) rfl ?_
  refine Dx.p (i := 22) rfl (by kernel_rfl) (ia (j := q.length - 1) U43 sz9 rfl rfl (Int.toNat_natCast _) (by omega) (by omega)) rfl ?_
  refine Dx.two (i := 15) (j := 23) (by kernel_rfl) ?_ ?_
  ·
   refine Dstep.o (i := 15) rfl (Yx.ox (ldC U9 rfl rfl (Cells.buf (b := bq) (m := 1) (str_at (show q.length - 2 < q.length by omega)) (by rw [List.length_map]; omega)))) rfl (fun v B' H' hΦ hB => ?_)
   obtain ⟨rfl, rfl, rfl⟩ := hΦ; clear hB
   refine ⟨Jy (Jy (Jy (Jt) (ld U43 rfl rfl rfl)) (ld U43 rfl rfl rfl)) (ld U43 rfl rfl rfl), ?_⟩
   refine Dx.one (i := 23) (by kernel_rfl) ?_
   refine Dstep.o (i := 23) rfl (Yx.ox (ldC U9 rfl rfl (Cells.buf (b := bq) (m := 1) (str_at (show q.length - 1 < q.length by omega)) (by rw [List.length_map]; omega)))) rfl (fun v B' H' hΦ hB => ?_)
   obtain ⟨rfl, rfl, rfl⟩ := hΦ; clear hB
   refine ⟨Jy (Jy (Jy (Jt) (ld U43 rfl rfl rfl)) (ld U43 rfl rfl rfl)) (ld U43 rfl rfl rfl), ?_⟩
   refine Dx.one (i := 24) (by kernel_rfl) ?_
   refine Dstep.o (i := 24) rfl (Ox.cb rfl rfl rfl (Node_ct _ _ _ (hgd _ (by omega)) (hgd _ (by omega)))) rfl (fun v B' H' hΦ hB => ?_)
   obtain ⟨rfl, rfl, Y⟩ := hΦ; have E := Y.symm; subst E; clear hB
   refine ⟨Jy (Jy (Jy (Jt) (ld U43 rfl rfl rfl)) (ld U43 rfl rfl rfl)) (ld U43 rfl rfl rfl), ?_⟩
   refine Dx.one (i := 25) (by kernel_rfl) ?_
   refine Dstep.o (i := 25) rfl (bsl1 U43 ti9 rfl rfl rfl (by decide)) rfl (fun v B' H' hΦ hB => ?_)
   obtain ⟨bn, rfl, Y, rfl⟩ := hΦ; have E := Y.symm; subst E; clear hB
   refine ⟨Jy (Jy (Jy (Jt) (ld U43 rfl rfl rfl)) (ld U43 rfl rfl rfl)) (ld U43 rfl rfl rfl), ?_⟩
   refine Dx.one (i := 26) (by kernel_rfl) ?_
   refine Dstep.o (i := 26) rfl (Ox.less bq (q.length - 2) (by omega) (appN (et := 9) (A := some ⟨bq, 0, none⟩) (q.length - 2 + 1) [str (nodeF (q.getD (q.length - 2) []) (q.getD (q.length - 1) []))] ((q.take (q.length - 2) ++ [nodeF (q.getD (q.length - 2) []) (q.getD (q.length - 1) [])]).map str) U43 U43 ti9 rfl rfl rfl rfl rfl (by omega) (by omega) rfl (by rw [List.map_append, List.map_take, Nat.mul_one]; rfl))) rfl (fun v B' H' hΦ hB => ?_)
   obtain ⟨A3, c3, rfl, hA3, hl3, hc3, hBB, rfl⟩ := hΦ
   have hBB2 := hBB.symm
   subst hBB2
   refine ⟨Jy (Jy (Jy (Jt) (ld U43 rfl rfl rfl)) (ld U43 rfl rfl rfl)) (ld U43 rfl rfl rfl), ?_⟩
   refine Dx.p (i := 27) rfl (by kernel_rfl) (nilc rfl) rfl ?_
   refine Dx.p (i := 28) rfl (by kernel_rfl) (fa' fo132_1 rfl) rfl ?_
   refine Dx.one (i := 29) (by kernel_rfl) ?_
   refine Dstep.o0 (i := 29) rfl (stO U43 sz43 rfl rfl rfl (by show 1 < 2; omega) rfl) (fun v B' H' hΦ hB => ?_)
   obtain ⟨Y, rfl⟩ := hΦ; have E := Y.symm; subst E; clear hB v
   refine ⟨Je (Je (Je (Jt) (by kernel_rfl)) (by kernel_rfl)) (by kernel_rfl), ?_⟩
   refine Dx.done (by kernel_rfl) ?_
   refine Xx.bn ?_
   refine Xx.tn (k12 _ _ _ _ ?_)
   refine Xx.dropB bn ?_
   refine Cr <| Lx.y (mv rfl) rfl <| Lx.y (Yx.val (shrK rfl rfl (by decide) (c := 2) rfl) (show _ = i64 ((n / 2 : Nat) : Int) from by show Value.int .i64 (((n : Nat) : Int) / 2) = _; congr 1)) rfl <| Lx.y (asg rfl) rfl <| Lx.nil <| ?_
   exact Xx.againK ⟨n / 2, q.take (q.length - 2) ++ [nodeF (q.getD (q.length - 2) []) (q.getD (q.length - 1) [])], A3, c3, ⟨by omega, by omega, hq2, by rw [← hca, carry_even (by omega) he], hqa2⟩, rfl, rfl, rfl, (by rw [show (q.take (q.length - 2) ++ [nodeF (q.getD (q.length - 2) []) (q.getD (q.length - 1) [])]).length = q.length - 2 + 1 from by rw [List.length_append, List.length_singleton, List.length_take]; omega]; ac_rfl)⟩ (by omega) (Sc 6 rfl (Sc 0 rfl (Sc 1 rfl (Sc 4 rfl (Sc 5 rfl (Sc 8 rfl (Sc 9 rfl (Sc 10 rfl (Sc 11 rfl (Sc 12 rfl (Sc 13 rfl (Sc 14 rfl (Sc 15 rfl (Sc 16 rfl (Sc 17 rfl (Sc 18 rfl (Sc 19 rfl (Sc 20 rfl (Sc 21 rfl (Sc 22 rfl (Sc 23 rfl (Sc 24 rfl (Sc 25 rfl (Sc 26 rfl (Sc 27 rfl (Sc 28 rfl (Sc 29 rfl (Sc 30 rfl (Sc 31 rfl (Sc 32 rfl (Sc 33 rfl (Sc 34 rfl (Sc 35 rfl (Sc 36 rfl (Sub.nil _)))))))))))))))))))))))))))))))))))
  refine Dstep.o (i := 23) rfl (Yx.ox (ldC U9 rfl rfl (Cells.buf (b := bq) (m := 1) (str_at (show q.length - 1 < q.length by omega)) (by rw [List.length_map]; omega)))) rfl (fun v B' H' hΦ hB => ?_)
  obtain ⟨rfl, rfl, rfl⟩ := hΦ; clear hB
  refine ⟨Jy (Jy (Jy (Jt) (ld U43 rfl rfl rfl)) (ld U43 rfl rfl rfl)) (ld U43 rfl rfl rfl), ?_⟩
  refine Dx.one (i := 15) (by kernel_rfl) ?_
  refine Dstep.o (i := 15) rfl (Yx.ox (ldC U9 rfl rfl (Cells.buf (b := bq) (m := 1) (str_at (show q.length - 2 < q.length by omega)) (by rw [List.length_map]; omega)))) rfl (fun v B' H' hΦ hB => ?_)
  obtain ⟨rfl, rfl, rfl⟩ := hΦ; clear hB
  refine ⟨Jy (Jy (Jy (Jt) (ld U43 rfl rfl rfl)) (ld U43 rfl rfl rfl)) (ld U43 rfl rfl rfl), ?_⟩
  refine Dx.one (i := 24) (by kernel_rfl) ?_
  refine Dstep.o (i := 24) rfl (Ox.cb rfl rfl rfl (Node_ct _ _ _ (hgd _ (by omega)) (hgd _ (by omega)))) rfl (fun v B' H' hΦ hB => ?_)
  obtain ⟨rfl, rfl, Y⟩ := hΦ; have E := Y.symm; subst E; clear hB
  refine ⟨Jy (Jy (Jy (Jt) (ld U43 rfl rfl rfl)) (ld U43 rfl rfl rfl)) (ld U43 rfl rfl rfl), ?_⟩
  refine Dx.one (i := 25) (by kernel_rfl) ?_
  refine Dstep.o (i := 25) rfl (bsl1 U43 ti9 rfl rfl rfl (by decide)) rfl (fun v B' H' hΦ hB => ?_)
  obtain ⟨bn, rfl, Y, rfl⟩ := hΦ; have E := Y.symm; subst E; clear hB
  refine ⟨Jy (Jy (Jy (Jt) (ld U43 rfl rfl rfl)) (ld U43 rfl rfl rfl)) (ld U43 rfl rfl rfl), ?_⟩
  refine Dx.one (i := 26) (by kernel_rfl) ?_
  refine Dstep.o (i := 26) rfl (Ox.less bq (q.length - 2) (by omega) (appN (et := 9) (A := some ⟨bq, 0, none⟩) (q.length - 2 + 1) [str (nodeF (q.getD (q.length - 2) []) (q.getD (q.length - 1) []))] ((q.take (q.length - 2) ++ [nodeF (q.getD (q.length - 2) []) (q.getD (q.length - 1) [])]).map str) U43 U43 ti9 rfl rfl rfl rfl rfl (by omega) (by omega) rfl (by rw [List.map_append, List.map_take, Nat.mul_one]; rfl))) rfl (fun v B' H' hΦ hB => ?_)
  obtain ⟨A3, c3, rfl, hA3, hl3, hc3, hBB, rfl⟩ := hΦ
  have hBB2 := hBB.symm
  subst hBB2
  refine ⟨Jy (Jy (Jy (Jt) (ld U43 rfl rfl rfl)) (ld U43 rfl rfl rfl)) (ld U43 rfl rfl rfl), ?_⟩
  refine Dx.p (i := 27) rfl (by kernel_rfl) (nilc rfl) rfl ?_
  refine Dx.p (i := 28) rfl (by kernel_rfl) (fa' fo132_1 rfl) rfl ?_
  refine Dx.one (i := 29) (by kernel_rfl) ?_
  refine Dstep.o0 (i := 29) rfl (stO U43 sz43 rfl rfl rfl (by show 1 < 2; omega) rfl) (fun v B' H' hΦ hB => ?_)
  obtain ⟨Y, rfl⟩ := hΦ; have E := Y.symm; subst E; clear hB v
  refine ⟨Je (Je (Je (Jt) (by kernel_rfl)) (by kernel_rfl)) (by kernel_rfl), ?_⟩
  refine Dx.done (by kernel_rfl) ?_
  refine Xx.bn ?_
  refine Xx.tn (k12 _ _ _ _ ?_)
  refine Xx.dropB bn ?_
  refine Cr <| Lx.y (mv rfl) rfl <| Lx.y (Yx.val (shrK rfl rfl (by decide) (c := 2) rfl) (show _ = i64 ((n / 2 : Nat) : Int) from by show Value.int .i64 (((n : Nat) : Int) / 2) = _; congr 1)) rfl <| Lx.y (asg rfl) rfl <| Lx.nil <| ?_
  exact Xx.againK ⟨n / 2, q.take (q.length - 2) ++ [nodeF (q.getD (q.length - 2) []) (q.getD (q.length - 1) [])], A3, c3, ⟨by omega, by omega, hq2, by rw [← hca, carry_even (by omega) he], hqa2⟩, rfl, rfl, rfl, (by rw [show (q.take (q.length - 2) ++ [nodeF (q.getD (q.length - 2) []) (q.getD (q.length - 1) [])]).length = q.length - 2 + 1 from by rw [List.length_append, List.length_singleton, List.length_take]; omega]; ac_rfl)⟩ (by omega) (Sc 6 rfl (Sc 0 rfl (Sc 1 rfl (Sc 4 rfl (Sc 5 rfl (Sc 8 rfl (Sc 9 rfl (Sc 10 rfl (Sc 11 rfl (Sc 12 rfl (Sc 13 rfl (Sc 14 rfl (Sc 15 rfl (Sc 16 rfl (Sc 17 rfl (Sc 18 rfl (Sc 19 rfl (Sc 20 rfl (Sc 21 rfl (Sc 22 rfl (Sc 23 rfl (Sc 24 rfl (Sc 25 rfl (Sc 26 rfl (Sc 27 rfl (Sc 28 rfl (Sc 29 rfl (Sc 30 rfl (Sc 31 rfl (Sc 32 rfl (Sc 33 rfl (Sc 34 rfl (Sc 35 rfl (Sc 36 rfl (Sub.nil _)))))))))))))))))))))))))))))))))))
 ·
  have he := h11
  have he : ¬ n % 2 = 0 := by omega
  rw [carry_odd he] at hca
  refine Cx.exit <| Xx.te <| Xx.te <| Xx.bh <| ?_
  refine Xx.tn (k7 _ _ _ _ ?_)
  refine Cq (fun K14 k14 => ?_)
  refine Cr <| Lx.y (mv rfl) rfl <| Lx.y (asg rfl) rfl <| Lx.nil <| ?_
  refine Xx.tn (k14 _ _ _ _ ?_)
  refine Cx.ret ?_
  exact Xx.ret1 rfl rfl ⟨rfl, rfl, A1, c1, A2, c2, by rw [← hca]⟩ (Fl _) (by simp only [List.length_append, List.length_singleton]; ac_rfl)
end VhT
end Go.Proofs.YthlfffbcligocaaGreat
namespace Go.Proofs.YthlfffbcligocaaGreat
open Go.SL Go.RowKit
set_option maxRecDepth 100000
open VhA VhB VhC VhD VhE VhF VhG VhH VhI VhJ VhK VhL VhM VhN VhT
namespace VhU
theorem sz3 : (Tryz.prog.info? 3).map (·.size) = some 1 := by kernel_rfl
theorem sz9 : (Tryz.prog.info? 9).map (·.size) = some 1 := by kernel_rfl
theorem sz43 : (Tryz.prog.info? 43).map (·.size) = some 1 := by kernel_rfl
theorem ti9 : TI Tryz.prog 9 [str []] 1 16 := TI.of (by kernel_rfl) rfl rfl
theorem ti132 : TI Tryz.prog 132 [.slice none 0 0, .slice none 0 0] 2 48 := TI.of (by kernel_rfl) rfl rfl
theorem fo132_0 : FO Tryz.prog 132 0 0 1 false := FO.of U132 rfl rfl (by kernel_rfl) U43 rfl rfl
theorem fo132_1 : FO Tryz.prog 132 1 1 1 false := FO.of U132 rfl rfl (by kernel_rfl) U43 rfl rfl
def bkw {α : Type} (d : α) (l : List α) : Nat → List (Nat × α)
  | 0 => []
  | n + 1 => (n, l.getD n d) :: bkw d l n
theorem bkw_map {α : Type} (d : α) (l : List α) : ∀ n, n ≤ l.length → (bkw d l n).map (·.2) = (l.take n).reverse := by
  intro n
  induction n with
  | zero => intro _; simp [bkw]
  | succ n ih =>
    intro h
    rw [bkw, List.map_cons, ih (by omega), List.take_succ_eq_append_getElem (by omega), List.reverse_append]
    simp [List.getD_eq_getElem?_getD, List.getElem?_eq_getElem (show n < l.length by omega)]
def foldN (h : List UInt8) (l : List (Nat × List UInt8)) : List UInt8 := l.foldl (fun h p => nodeF p.2 h) h
theorem foldN_len {h : List UInt8} (hh : h.length ≤ 32) (l : List (Nat × List UInt8)) : (foldN h l).length ≤ 32 := by
  unfold foldN
  rcases l.eq_nil_or_concat with rfl | ⟨m, x, rfl⟩
  · exact hh
  · rw [List.concat_eq_append, List.foldl_append]
    show (nodeF x.2 _).length ≤ 32
    rw [nodeF_len]; exact Nat.le_refl _
theorem foldN_snoc (h : List UInt8) (l : List (Nat × List UInt8)) (x : Nat × List UInt8) : foldN h (l ++ [x]) = nodeF x.2 (foldN h l) := by unfold foldN; rw [List.foldl_append]; rfl
theorem foldN_top (init : List (List UInt8)) (h : List UInt8) : foldN h (bkw [] init init.length) = topF (init ++ [h]) := by
  rw [topF_snoc]
  have := bkw_map [] init init.length (Nat.le_refl _)
  rw [List.take_length] at this
  rw [← this, List.foldl_map]; rfl
theorem bkw_all (l : List (List UInt8)) : ∀ n, (∀ y ∈ l, y.length ≤ 32) → n ≤ l.length → ∀ x ∈ bkw [] l n, x.2.length ≤ 32 := by
  intro n
  induction n with
  | zero => intro _ _ x hx; cases hx
  | succ n ih =>
    intro h hn x hx
    rcases List.mem_cons.1 hx with rfl | hx
    · show (l.getD n []).length ≤ 32
      rw [List.getD_eq_getElem?_getD, List.getElem?_eq_getElem (show n < l.length by omega)]
      exact h _ (List.getElem_mem _)
    · exact ih h (by omega) x hx
set_option maxHeartbeats 1000000 in
theorem BackS_ct (A : Option Addr) (n c : Nat) (B : Frag) : Ct Tryz.prog 80 [.slice A n c] B 1 (fun v B' H' => B' = B ∧ ∃ b1, v = .func (.func 124) #[] #[.pointer (some ⟨b1, 0, none⟩)] ∧ H' = row b1 43 [.slice A n c]) := by
 refine Ct.of_body Tryz.func80 rfl (nt := 4) rfl (by kernel_rfl) rfl ?_
 intro N0 w0 R
 rw [one_star]
 refine Cq (fun K1 k1 => ?_)
 refine Cr ?_
 refine Lx.new (boxO rfl rfl) rfl (fun b1 => ?_)
 refine Lx.y (asg rfl) rfl <| Lx.nil <| ?_
 refine Xx.tn (k1 _ _ _ _ ?_)
 refine Cq (fun K2 k2 => ?_)
 refine Cr <| Lx.y (mkf rfl rfl) rfl <| Lx.y (asg rfl) rfl <| Lx.nil <| ?_
 refine Xx.tn (k2 _ _ _ _ ?_)
 refine Cx.ret ?_
 exact Xx.ret1 rfl rfl ⟨rfl, b1, rfl, rfl⟩ (Fl _) rfl
set_option maxHeartbeats 1000000 in
theorem BackS_it (l : List (List UInt8)) (A : Option Addr) (c b : Nat) (B : Frag) (hR : RoS B 1 A l.length (l.map str)) (hn : l.length ≤ 1000000000) : It Tryz.prog 124 [.pointer (some ⟨b, 0, none⟩)] (fun x : Nat × List UInt8 => [i64 (x.1 : Int), str x.2]) (bkw [] l l.length) B (row b 43 [.slice A l.length c]) := by
 refine ⟨Go.SL.enters_of Tryz.func124 rfl (by kernel_rfl), fun lp J Jx hy B1 H1 hB1 hJ0 => ?_⟩
 refine Ct.of_body Tryz.func124 rfl (nt := 19) rfl (by kernel_rfl) rfl ?_
 intro N0 w0 R
 rw [star_assoc]
 refine Cq (fun K1 k1 => ?_)
 refine Cr <| Lx.y (ld U43 rfl rfl rfl) rfl <| Lx.y (lenV (ty' := 0) U43 rfl) rfl <| Lx.y (sub rfl rfl (show IntKind.i64.wrap _ = ((l.length : Nat) : Int) - 1 from wrap64 (by omega) (by omega))) rfl <| Lx.y (asg rfl) rfl <| Lx.nil <| ?_
 refine Xx.tn (k1 _ _ _ _ ?_)
 refine Cx.block ?_
 refine Cx.loopK (Sc 0 rfl (Sc 1 rfl (Sc 4 rfl (Sc 5 rfl (Sc 6 rfl (Sub.nil _)))))) (fun m ρ' B' H' => ∃ (k : Nat) (pre : List (Nat × List UInt8)) (B2 : Frag) (H2 : HP), (bkw [] l l.length = pre ++ bkw [] l k ∧ k ≤ l.length ∧ J pre B2 H2 ∧ B1.le B2) ∧ m = k * 1 ∧ ρ' = [(3, i64 ((k : Int) - 1))] ∧ B2 = B' ∧ row b 43 [.slice A l.length c] * (H2 * R) = H') ⟨l.length, [], B1, H1, ⟨rfl, Nat.le_refl _, hJ0, Fl _⟩, rfl, rfl, rfl, rfl⟩ (Sc 3 rfl (Sc 0 rfl (Sc 1 rfl (Sc 4 rfl (Sc 5 rfl (Sc 6 rfl (Sub.nil _))))))) ?_
 rintro m ρ' B' H' ⟨k, pre, B2, H2, ⟨hxs, hk, hJ, hB2⟩, rfl, rfl, rfl, rfl⟩
 refine Cq (fun K2 k2 => ?_)
 refine Cq (fun K3 k3 => ?_)
 refine Cr <| Lx.y (mv rfl) rfl <| Lx.y (geq rfl rfl) rfl <| Lx.nil <| ?_
 refine Xx.tn (k3 _ _ _ _ ?_)
 refine Cx.condD rfl (fun h4 => ?_) (fun h4 => ?_)
 ·
  have hge := h4
  obtain ⟨k, rfl⟩ : ∃ j, k = j + 1 := ⟨k - 1, by omega⟩
  obtain ⟨b9, o9, cs9, et9, fz9, hA9, hB9, hv9⟩ := hR.at1 (show k < l.length by omega)
  rw [List.getElem?_map, List.getElem?_eq_getElem (show k < l.length by omega)] at hv9
  have hgd : l[k]'(by omega) = l.getD k [] := by rw [List.getD_eq_getElem?_getD, List.getElem?_eq_getElem (show k < l.length by omega)]; rfl
  rw [hgd] at hv9
  have hB9 := hB2 _ _ (hB1 _ _ hB9)
  have hxs2 : bkw [] l l.length = (pre ++ [(k, l.getD k [])]) ++ bkw [] l k := by rw [hxs]; simp [bkw]
  refine Cx.skip ?_
  refine Xx.tn (k2 _ _ _ _ ?_)
  refine Cq (fun K5 k5 => ?_)
  refine Cx.block ?_
  refine Cq (fun K6 k6 => ?_)
  refine Cr <| Lx.y (mv rfl) rfl <| Lx.y (Yx.val (mv rfl) (show _ = i64 ((k : Nat) : Int) from by congr 1; omega)) rfl <| Lx.y (ld U43 rfl rfl rfl) rfl <| Lx.y (Yx.val (mv rfl) (show _ = i64 ((k : Nat) : Int) from by congr 1; omega)) rfl <| Lx.y (Yx.val (ia (b := b9) (o := o9) U43 sz9 (by rw [← hA9]; rfl) rfl (Int.toNat_natCast _) (by omega) (by omega)) rfl) rfl <| Lx.y (ldB U9 rfl rfl hB9 hv9) rfl <| ?_
  refine Lx.yield rfl rfl (hy pre (k, l.getD k []) (bkw [] l k) B2 H2 (by rw [hxs]; rfl) (Fz hB1 hB2) hJ) (star_left _ _ _) rfl ?_
  rintro t B3 H3 hΦ hB3
  refine Lx.y (not' rfl) rfl <| Lx.nil <| ?_
  refine Xx.tn (k6 _ _ _ _ ?_)
  refine Cx.condB rfl (fun h7 => ?_) (fun h7 => ?_)
  ·
   obtain ⟨_, hΦ⟩ : t = false ∧ Jx (pre ++ [(k, l.getD k [])]) B3 H3 := by simpa [show t = false by simpa using h7] using hΦ
   refine Cx.ret ?_
   refine Xx.br ?_
   refine Xx.tr <| Xx.tr <| ?_
   refine Xx.br ?_
   exact Xx.ret0 rfl ⟨H3, rfl, .inr ⟨_, _, hxs2, hΦ⟩⟩ (Fz hB2 hB3) (by ac_rfl)
  ·
   obtain ⟨_, hΦ⟩ : t = true ∧ J (pre ++ [(k, l.getD k [])]) B3 H3 := by simpa [show t = true by simpa using h7] using hΦ
   refine Cx.skip <| Xx.bn <| ?_
   refine Xx.tn (k5 _ _ _ _ ?_)
   refine Cr <| Lx.y (mv rfl) rfl <| Lx.y (sub rfl rfl (show IntKind.i64.wrap _ = ((k : Nat) : Int) - 1 from (wrap64 (by omega) (by omega)).trans (by omega))) rfl <| Lx.y (asg rfl) rfl <| Lx.nil <| ?_
   exact Xx.againK ⟨k, pre ++ [(k, l.getD k [])], B3, H3, ⟨hxs2, by omega, hΦ, Fz hB2 hB3⟩, rfl, rfl, rfl, (by ac_rfl)⟩ (by omega) (Sc 3 rfl (Sc 0 rfl (Sc 1 rfl (Sc 4 rfl (Sc 5 rfl (Sc 6 rfl (Sub.nil _)))))))
 ·
  have hge := h4
  obtain rfl : k = 0 := by omega
  have hxs0 : bkw [] l l.length = pre := by rw [hxs]; simp [bkw]
  refine Cx.exit <| Xx.te <| Xx.te <| Xx.bh <| ?_
  exact Xx.end0 rfl ⟨H2, rfl, .inl (hxs0 ▸ hJ)⟩ hB2 (by ac_rfl)
set_option maxHeartbeats 1000000 in
theorem MLen_row (tb nl : Nat) (cl : Nat) (Al Ap : Option Addr) (np cp : Nat) (B : Frag) : CtC Tryz.prog 32 [.pointer (some ⟨tb, 0, none⟩)] B (row tb 132 [.slice Al nl cl, .slice Ap np cp]) (i64 (nl : Int)) (row tb 132 [.slice Al nl cl, .slice Ap np cp]) := by
  refine Ct.of_body Tryz.func32 rfl (nt := 10) rfl (by kernel_rfl) rfl ?_
  intro N0 w0 R
  refine Cq (fun K1 k1 => ?_)
  refine Cr <| Lx.y (asg rfl) rfl <| Lx.nil <| ?_
  refine Xx.tn (k1 _ _ _ _ ?_)
  refine Cq (fun K2 k2 => ?_)
  refine Cq (fun K3 k3 => ?_)
  refine Cr <| Lx.y (mv rfl) rfl <| Lx.y (Yx.ff (eqNilP U66 rfl rfl) rfl) rfl <| Lx.nil <| ?_
  refine Xx.tn (k3 _ _ _ _ ?_)
  refine Cx.condF rfl <| Cx.skip <| ?_
  refine Xx.tn (k2 _ _ _ _ ?_)
  refine Cq (fun K4 k4 => ?_)
  refine Cr <| Lx.y (mv rfl) rfl <| Lx.y (nilc rfl) rfl <| Lx.y (fa' fo132_0 rfl) rfl <| Lx.y (ld U43 rfl rfl rfl) rfl <| Lx.y (lenV (ty' := 0) U43 rfl) rfl <| Lx.y (asg rfl) rfl <| Lx.nil <| ?_
  refine Xx.tn (k4 _ _ _ _ ?_)
  refine Cx.ret ?_
  exact Xx.ret1 rfl rfl ⟨rfl, rfl, rfl⟩ (Fl _) rfl
set_option maxHeartbeats 1000000 in
theorem MRoot_0 (tb : Nat) (Al Ap : Option Addr) (cl cp : Nat) (B : Frag) : Ct Tryz.prog 40 [.pointer (some ⟨tb, 0, none⟩)] B (row tb 132 [.slice Al 0 cl, .slice Ap 0 cp]) (fun v B' H' => B' = B ∧ v = str (topF []) ∧ H' = row tb 132 [.slice Al 0 cl, .slice Ap 0 cp]) := by
 refine Ct.of_body Tryz.func40 rfl (nt := 40) rfl (by kernel_rfl) rfl ?_
 intro N0 w0 R
 refine Cq (fun K1 k1 => ?_)
 refine Cr <| Lx.y (asg rfl) rfl <| Lx.nil <| ?_
 refine Xx.tn (k1 _ _ _ _ ?_)
 refine Cq (fun K2 k2 => ?_)
 refine Cq (fun K3 k3 => ?_)
 refine Cr <| Lx.y (mv rfl) rfl <| ?_
 refine Lx.co rfl rfl rfl (MLen_row tb 0 cl Al Ap 0 cp _) (rfl) rfl ?_
 refine Lx.y (Yx.tt (eqI rfl rfl) rfl) rfl <| Lx.nil <| ?_
 refine Xx.tn (k3 _ _ _ _ ?_)
 refine Cx.condT rfl ?_
 refine Cq (fun K4 k4 => ?_)
 refine Cr ?_
 refine Lx.cp rfl rfl rfl (Sum_ct [] _ (by decide)) rfl ?_
 refine Lx.y (asg rfl) rfl <| Lx.nil <| ?_
 refine Xx.tn (k4 _ _ _ _ ?_)
 refine Cx.ret <| Xx.tr <| ?_
 exact Xx.ret1 rfl rfl ⟨rfl, rfl, rfl⟩ (Fl _) rfl
set_option maxHeartbeats 4000000 in
theorem MRoot_ro (tb nl : Nat) (Al Ap : Option Addr) (cl cp : Nat) (init : List (List UInt8)) (h0 : List UInt8) (B : Frag) (hR : RoS B 1 Ap (init.length + 1) ((init ++ [h0]).map str)) (hp : ∀ x ∈ init ++ [h0], x.length ≤ 32) (hn : 0 < nl) (hn2 : nl ≤ 1000000000) (hi : init.length ≤ 100000000) (hc : init.length + 1 ≤ cp) : Ct Tryz.prog 40 [.pointer (some ⟨tb, 0, none⟩)] B (row tb 132 [.slice Al nl cl, .slice Ap (init.length + 1) cp]) (fun v B' H' => B' = B ∧ v = str (topF (init ++ [h0])) ∧ H' = row tb 132 [.slice Al nl cl, .slice Ap (init.length + 1) cp]) := by
 obtain ⟨b9, o9, cs9, et9, fz9, hA9, hB9, hv9⟩ := hR.at1 (show init.length < init.length + 1 by omega)
 rw [List.getElem?_map, List.getElem?_append_right (Nat.le_refl _), Nat.sub_self] at hv9
 have hRi : RoS B 1 Ap init.length (init.map str) := by
  have h9 := hR.take (show init.length ≤ init.length + 1 by omega)
  rw [List.map_append, Nat.mul_one, List.take_left' (List.length_map ..)] at h9; exact h9
 have hh0 : h0.length ≤ 32 := hp h0 (by simp)
 refine Ct.of_bodyM Tryz.func40 rfl (nt := 40) rfl (by kernel_rfl) rfl ?_
 intro N0 w0 R
 refine Cq (fun K1 k1 => ?_)
 refine Cr <| Lx.y (asg rfl) rfl <| Lx.nil <| ?_
 refine Xx.tn (k1 _ _ _ _ ?_)
 refine Cq (fun K2 k2 => ?_)
 refine Cq (fun K3 k3 => ?_)
 refine Cr <| Lx.y (mv rfl) rfl <| ?_
 refine Lx.co rfl rfl rfl (MLen_row tb nl cl Al Ap (init.length + 1) cp _) (rfl) rfl ?_
 refine Lx.y (Yx.ff (eqI rfl rfl) (by simp; omega)) rfl <| Lx.nil <| ?_
 refine Xx.tn (k3 _ _ _ _ ?_)
 refine Cx.condF rfl <| Cx.skip <| ?_
 refine Xx.tn (k2 _ _ _ _ ?_)
 refine Cq (fun K4 k4 => ?_)
 refine Cx.drawn (by kernel_rfl) ?_
 refine Dx.p (i := 0) rfl (by kernel_rfl) (mv rfl) rfl ?_
 refine Dx.p (i := 1) rfl (by kernel_rfl) (nilc rfl) rfl ?_
 refine Dx.p (i := 2) rfl (by kernel_rfl) (fa' fo132_1 rfl) rfl ?_
 refine Dx.r (i := 3) rfl (by kernel_rfl) (ld U43 rfl rfl rfl) rfl ?_
 refine Dx.p (i := 4) rfl (by kernel_rfl) (mv rfl) rfl ?_
 refine Dx.p (i := 5) rfl (by kernel_rfl) (nilc rfl) rfl ?_
 refine Dx.p (i := 6) rfl (by kernel_rfl) (fa' fo132_1 rfl) rfl ?_
 refine Dx.r (i := 7) rfl (by kernel_rfl) (ld U43 rfl rfl rfl) rfl ?_
 refine Dx.p (i := 8) rfl (by kernel_rfl) (lenV (ty' := 0) U43 rfl) rfl ?_
 refine Dx.p (i := 9) rfl (by kernel_rfl) (sub rfl rfl (show IntKind.i64.wrap _ = ((init.length : Nat) : Int) from (wrap64 (by omega) (by omega)).trans (by omega))) rfl ?_
 refine Dx.p (i := 10) rfl (by kernel_rfl) (Yx.val (ia (b := b9) (o := o9) U43 sz9 (by rw [← hA9]; rfl) rfl (Int.toNat_natCast _) (by omega) (by omega)) rfl) rfl ?_
 refine Dx.r (i := 11) rfl (by kernel_rfl) (ldB U9 rfl rfl hB9 hv9) rfl ?_
 refine Dx.one (i := 12) (by kernel_rfl) ?_
 refine Dstep.o (i := 12) rfl (allocO ti9) rfl (fun v B' H' hΦ hB => ?_)
 obtain ⟨bh, rfl, Y, rfl⟩ := hΦ; have E := Y.symm; subst E; clear hB
 refine ⟨Jy (Jy (Jy (Jt) (ld U43 rfl rfl rfl)) (ld U43 rfl rfl rfl)) (ldB U9 rfl rfl hB9 hv9), ?_⟩
 refine Dx.one (i := 13) (by kernel_rfl) ?_
 refine Dstep.o0 (i := 13) rfl (stO U9 sz9 rfl rfl rfl (by show 0 < 1; omega) rfl) (fun v B' H' hΦ hB => ?_)
 obtain ⟨Y, rfl⟩ := hΦ; have E := Y.symm; subst E; clear hB v
 refine ⟨Je (Je (Je (Jt) (by kernel_rfl)) (by kernel_rfl)) (by kernel_rfl), ?_⟩
 refine Dx.done (by kernel_rfl) ?_
 refine Xx.tn (k4 _ _ _ _ ?_)
 refine Cq (fun K5 k5 => ?_)
 refine Cq (fun K6 k6 => ?_)
 refine Cx.drawn (by kernel_rfl) ?_
 refine Dx.p (i := 0) rfl (by kernel_rfl) (mv rfl) rfl ?_
 refine Dx.p (i := 1) rfl (by kernel_rfl) (nilc rfl) rfl ?_
 refine Dx.p (i := 2) rfl (by kernel_rfl) (fa' fo132_1 rfl) rfl ?_
 refine Dx.r (i := 3) rfl (by kernel_rfl) (ld U43 rfl rfl rfl) rfl ?_
 refine Dx.p (i := 4) rfl (by kernel_rfl) (mv rfl) rfl ?_
 refine Dx.p (i := 5) rfl (by kernel_rfl) (nilc rfl) rfl ?_
 refine Dx.p (i := 6) rfl (by kernel_rfl) (fa' fo132_1 rfl) rfl ?_
 refine Dx.r (i := 7) rfl (by kernel_rfl) (ld U43 rfl rfl rfl) rfl ?_
 refine Dx.p (i := 8) rfl (by kernel_rfl) (lenV (ty' := 0) U43 rfl) rfl ?_
 refine Dx.p (i := 9) rfl (by kernel_rfl) (sub rfl rfl (show IntKind.i64.wrap _ = ((init.length : Nat) : Int) from (wrap64 (by omega) (by omega)).trans (by omega))) rfl ?_
 refine Dx.p (i := 10) rfl (by kernel_rfl) (sl2V U43 sz9 rfl rfl (Int.toNat_natCast _) (by omega) (by omega)) rfl ?_
 refine Dx.one (i := 11) (by kernel_rfl) ?_
 refine Dstep.o (i := 11) rfl (Ox.call rfl rfl rfl (BackS_ct Ap init.length cp _) ((one_star _).symm)) rfl (fun v B' H' hΦ hB => ?_)
 obtain ⟨_, rfl, hΦ⟩ := hΦ
 obtain ⟨hBB, b1, rfl, rfl⟩ := hΦ
 have hBB2 := hBB.symm
 subst hBB2
 clear hB
 refine ⟨Jy (Jy (Jt) (ld U43 rfl rfl rfl)) (ld U43 rfl rfl rfl), ?_⟩
 refine Dx.done (by kernel_rfl) ?_
 refine Xx.tn (k6 _ _ _ _ ?_)
 refine Cx.block ?_
 refine Cx.rangeK (σ := _) (Sc 3 rfl (Sub.nil _)) rfl rfl (BackS_it init Ap cp b1 B hRi (by omega)) (show _ = row b1 43 [.slice Ap init.length cp] * (row bh 9 [str h0] * (row tb 132 [.slice Al nl cl, .slice Ap (init.length + 1) cp] * R)) by ac_rfl) rfl (fun _ => rfl) (fun pre B' H' => B' = B ∧ H' = row bh 9 [str (foldN h0 pre)]) (fun _ _ _ _ => False) (fun pre x B1 ρ' B' H' => ρ' = [(5, str x.2)] ∧ B1 = B ∧ B' = B ∧ x.2.length ≤ 32 ∧ H' = row bh 9 [str (foldN h0 pre)]) (⟨rfl, rfl⟩) ?_ ?_ ?_ ?_
 ·rintro lz Nz wz pre x post B1 H1 F K hxs hB1 hJ hK
  obtain ⟨hJ1, rfl⟩ := hJ
  have hxl : x.2.length ≤ 32 := bkw_all init init.length (fun y hy => hp y (by simp [hy])) (Nat.le_refl _) x (by rw [hxs]; simp)
  refine Cr <| Lx.y (asg rfl) rfl <| Lx.nil <| ?_
  refine Xx.tn ?_
  exact Xx.sub (hK _ _ _ ⟨rfl, hJ1, hJ1, hxl, rfl⟩ (Fl _)) (Sc 5 rfl (Sc 3 rfl (Sub.nil _)))
 ·rintro lz Nz wz pre x post B1 F ρ' B' H' hxs hB1 hBx hAS
  obtain ⟨rfl, hb1, hBB, hxl, rfl⟩ := hAS
  subst hBB
  refine Cx.block <| Cr <| Lx.y (mv rfl) rfl <| Lx.y (ld U9 rfl rfl rfl) rfl <| ?_
  refine Lx.cp rfl rfl rfl (Node_ct x.2 (foldN h0 pre) _ (Nat.le_trans hxl (by decide)) (Nat.le_trans (foldN_len hh0 _) (by decide))) rfl ?_
  refine Lx.st (stO U9 sz9 rfl rfl rfl (by show 0 < 1; omega) rfl) ?_
  refine Lx.nil <| Xx.bn <| ?_
  exact Xx.rqn ⟨rfl, by rw [foldN_snoc]⟩ (by rw [hb1]; exact Fl _) rfl
 ·rintro D B' H' hBx hJ
  obtain ⟨hBB, rfl⟩ := hJ
  subst hBB
  refine Xx.bn ?_
  refine Xx.tn (k5 _ _ _ _ ?_)
  refine Cq (fun K7 k7 => ?_)
  refine Cr <| Lx.y (ld U9 rfl rfl rfl) rfl <| Lx.y (asg rfl) rfl <| Lx.nil <| ?_
  refine Xx.tn (k7 _ _ _ _ ?_)
  refine Cx.ret ?_
  refine Xx.dropB bh (Xx.dropB b1 ?_)
  exact Xx.rM (Ds := [D]) (res1 rfl rfl) ⟨rfl, by rw [foldN_top], rfl⟩ (Fl _) (by rw [marks_cons, marks_nil, star_one])
 ·rintro D c pre post B' H' hxs hBx hJx
  exact hJx.elim
theorem MRoot_ct (tb : Nat) (lv : List (List UInt8)) (Al Ap : Option Addr) (cl cp : Nat) (B : Frag) (hl : lv.length ≤ 100000000) (hv : ∀ x ∈ lv, x.length ≤ 32) :
    Ct Tryz.prog 40 [.pointer (some ⟨tb, 0, none⟩)] B (mkH tb ⟨lv, pkOf lv, Al, cl, Ap, cp⟩) (fun v B' H' => B' = B ∧ v = str (topF (pkOf lv)) ∧ H' = mkH tb ⟨lv, pkOf lv, Al, cl, Ap, cp⟩) := by
  have hpl := pkOf_len _ lv rfl
  have hple := popN_le lv.length
  have hpa := pkOf_all _ lv rfl hv
  rcases snoc_cases (pkOf lv) with hpk | ⟨init, h0, hpk⟩
  · have hl0 : lv = [] := by
      rcases Nat.eq_zero_or_pos lv.length with e | e
      · exact List.length_eq_zero_iff.1 e
      · have := popN_pos e; rw [hpk] at hpl; simp at hpl; omega
    subst hl0
    have h := MRoot_0 tb Al Ap cl cp B
    refine Ct.more (F := sbuf 9 1 Al 0 cl [] * sbuf 9 1 Ap 0 cp []) h ?_ ?_
    · unfold mkH; simp only [hpk, List.length_nil, List.map_nil]
    · rintro v B' H' ⟨rfl, rfl, rfl⟩
      refine ⟨rfl, by rw [hpk], ?_⟩
      unfold mkH; simp only [hpk, List.length_nil, List.map_nil]
  · have hn : 0 < lv.length := by
      rcases Nat.eq_zero_or_pos lv.length with e | e
      · rw [hpk, e, popN_zero] at hpl; simp at hpl
      · exact e
    rw [hpk] at hpl hpa
    have hpl' : init.length + 1 = popN lv.length := by rw [← hpl]; simp
    have he := Go.SL.enters_of Tryz.func40 rfl (by kernel_rfl)
    refine Ct.more (F := sbuf 9 1 Al lv.length cl (lv.map str)) (Φ := fun v B' H' => B' = B ∧ v = str (topF (init ++ [h0])) ∧ H' = sbuf 9 1 Ap (init.length + 1) cp ((init ++ [h0]).map str) * row tb 132 [.slice Al lv.length cl, .slice Ap (init.length + 1) cp]) (pre := sbuf 9 1 Ap (init.length + 1) cp ((init ++ [h0]).map str) * row tb 132 [.slice Al lv.length cl, .slice Ap (init.length + 1) cp]) ?_ ?_ ?_
    · refine Ct.mono (Ct.lend (Φ := fun v H0 => v = str (topF (init ++ [h0])) ∧ H0 = row tb 132 [.slice Al lv.length cl, .slice Ap (init.length + 1) cp]) he (fun k hk ha => ?_)) ?_
      · refine Ct.mono (MRoot_ro tb lv.length Al Ap cl cp init h0 _ (sbuf_ro hk ha).1 hpa hn (by omega) (by omega) (sbuf_ro hk ha).2) ?_
        rintro v B' H' ⟨e1, e2, e3⟩
        exact ⟨e1, e2, e3⟩
      · rintro v B' H' ⟨e1, H0, ⟨e2, e3⟩, e4⟩
        exact ⟨e1, e2, by rw [e4, e3]⟩
    · unfold mkH; simp only [hpk, List.length_append, List.length_singleton]; ac_rfl
    · rintro v B' H' ⟨rfl, rfl, rfl⟩
      refine ⟨rfl, by rw [hpk], ?_⟩
      unfold mkH; simp only [hpk, List.length_append, List.length_singleton]; ac_rfl
end VhU
end Go.Proofs.YthlfffbcligocaaGreat
namespace Go.Proofs.YthlfffbcligocaaGreat
open Go.SL Go.RowKit
set_option maxRecDepth 100000
open VhA VhB VhC VhD VhE VhF VhG VhH VhI VhJ VhK VhL VhM VhN VhT VhU
namespace VhV
theorem sz3 : (Tryz.prog.info? 3).map (·.size) = some 1 := by kernel_rfl
theorem sz9 : (Tryz.prog.info? 9).map (·.size) = some 1 := by kernel_rfl
theorem sz22 : (Tryz.prog.info? 22).map (·.size) = some 1 := by kernel_rfl
theorem sz23 : (Tryz.prog.info? 23).map (·.size) = some 1 := by kernel_rfl
theorem sz25 : (Tryz.prog.info? 25).map (·.size) = some 4 := by kernel_rfl
theorem sz40 : (Tryz.prog.info? 40).map (·.size) = some 8 := by kernel_rfl
theorem ti40 : TI Tryz.prog 40 [.int .i64 0, str [], str [], .int .u64 0, .int .u64 0, str [], str [], .bool false] 8 96 := TI.of (by kernel_rfl) rfl rfl
theorem fo25_0 : FO Tryz.prog 25 0 0 1 false := FO.of U25 rfl rfl (by kernel_rfl) U22 rfl rfl
theorem fo25_1 : FO Tryz.prog 25 1 1 1 false := FO.of U25 rfl rfl (by kernel_rfl) U9 rfl rfl
theorem fo25_2 : FO Tryz.prog 25 2 2 1 false := FO.of U25 rfl rfl (by kernel_rfl) U22 rfl rfl
theorem fo25_3 : FO Tryz.prog 25 3 3 1 false := FO.of U25 rfl rfl (by kernel_rfl) U23 rfl rfl
theorem flatG_at {α : Type} {enc : α → List Value} {size : Nat} (he : ∀ x, (enc x).length = size) : ∀ (k : Nat) (l : List α) (h : k < l.length), ((l.flatMap enc).drop (k * size)).take size = enc l[k] := by
  intro k
  induction k with
  | zero =>
    intro l h
    cases l with
    | nil => simp at h
    | cons x l =>
      rw [Nat.zero_mul, List.drop_zero, List.flatMap_cons, List.take_append_of_le_length (by rw [he]; exact Nat.le_refl _), List.take_of_length_le (by rw [he]; exact Nat.le_refl _)]; rfl
  | succ k ih =>
    intro l h
    cases l with
    | nil => simp at h
    | cons x l =>
      have h' : k < l.length := by simpa using h
      rw [List.flatMap_cons, List.drop_append, he, List.drop_of_length_le (by rw [he, Nat.succ_mul]; omega), List.nil_append, show (k + 1) * size - size = k * size by rw [Nat.succ_mul]; omega]
      exact ih l h'
theorem flatG_len {α : Type} {enc : α → List Value} {size : Nat} (he : ∀ x, (enc x).length = size) (l : List α) : (l.flatMap enc).length = l.length * size := by
  induction l with
  | nil => simp
  | cons x l ih => rw [List.flatMap_cons, List.length_append, ih, he, List.length_cons, Nat.succ_mul]; omega
theorem flat_at {α : Type} {enc : α → List Value} {size : Nat} {B : Frag} {A : Option Addr} {l : List α} {k : Nat} (he : ∀ x, (enc x).length = size) (h : RoS B size A l.length (l.flatMap enc)) (hk : k < l.length) :
    ∃ b o cs et fz, A = some ⟨b, o, none⟩ ∧ B b = some (.cells (List.toArray cs) et fz) ∧ (cs.drop (o + k * size)).take size = enc l[k] := by
  obtain ⟨b, o, cs, et, fz, h1, h2, h3⟩ := h.at (k := k) hk
  exact ⟨b, o, cs, et, fz, h1, h2, by rw [h3, flatG_at he]⟩
theorem cell_of {cs vs : List Value} {o n : Nat} {v : Value} (h : (cs.drop o).take n = vs) (j : Nat) (hj : j < n) (hv : vs[j]? = some v) : cs[o + j]? = some v := by
  subst h
  rw [List.getElem?_take_of_lt hj, List.getElem?_drop] at hv
  exact hv
structure Bm where
  b : Bk
  A : Option Addr
  c : Nat
def bmc (bm : Bm) : List Value := [u64 bm.b.seq, str bm.b.prev, u64 bm.b.tx, .slice bm.A bm.b.revs.length bm.c]
def Bm.ro (B : Frag) (bm : Bm) : Prop := 0 < bm.b.revs.length → RoS B 8 bm.A bm.b.revs.length (bm.b.revs.flatMap rvc)
theorem Bm.ro_mono {B B' : Frag} {bm : Bm} (h : bm.ro B) (hB : B.le B') : bm.ro B' := fun h0 => (h h0).mono hB
theorem rvc_len (r : Rv) : (rvc r).length = 8 := rfl
theorem rvc_all (l : List Rv) : (l.flatMap rvc).all (·.oneCell') = true := by
  rw [List.all_eq_true]; intro v hv
  obtain ⟨x, _, hx⟩ := List.mem_flatMap.1 hv
  exact List.all_eq_true.1 (show (rvc x).all (·.oneCell') = true from rfl) v hx
def RvSm (r : Rv) : Prop := r.tab.length ≤ 1000000 ∧ r.fld.length ≤ 1000000 ∧ r.hash.length ≤ 1000000
structure BkSm (b : Bk) : Prop where
  n : b.revs.length ≤ 1000000
  prev : b.prev.length ≤ 1000000
  revs : ∀ r ∈ b.revs, RvSm r
theorem metaF_le (r : Rv) : (metaF r).length ≤ 100 + r.tab.length + r.fld.length + r.hash.length := by
  have b1 := uvL_len (BitVec.ofInt 64 (r.tab.length : Nat))
  have b2 := uvL_len (BitVec.ofInt 64 (r.fld.length : Nat))
  have b3 := uvL_len (BitVec.ofInt 64 (r.hash.length : Nat))
  have b4 := uvL_len r.doc
  have b5 := uvL_len r.ver
  unfold metaF encT
  simp only [List.length_append, List.length_singleton]
  omega
def lvB (b : Bk) : List (List UInt8) := b.revs.map fun r => leafF (metaF r)
theorem lvB_len (b : Bk) : (lvB b).length = b.revs.length := List.length_map ..
theorem lvB_all (b : Bk) : ∀ x ∈ lvB b, x.length ≤ 32 := fun x hx => by
  obtain ⟨r, _, rfl⟩ := List.mem_map.1 hx
  rw [leafF_len]; exact Nat.le_refl _
theorem headB_le (b : Bk) : (headB b).length ≤ 50 + b.prev.length := by
  have b1 := uvL_len (BitVec.ofInt 64 (b.prev.length : Nat))
  have b2 := uvL_len b.seq
  have b3 := uvL_len b.tx
  have b4 := uvL_len b.num
  unfold headB encT
  simp only [List.length_append]
  omega
theorem topF_len (pk : List (List UInt8)) (h : ∀ x ∈ pk, x.length ≤ 32) : (topF pk).length ≤ 32 := by
  rcases snoc_cases pk with rfl | ⟨l, x, rfl⟩
  · show (sumF []).length ≤ 32; rw [sumF_len]; exact Nat.le_refl _
  · rw [topF_snoc]
    have hx := h x (by simp)
    have : ∀ (l : List (List UInt8)) (y : List UInt8), y.length ≤ 32 → (l.foldl (fun h p => nodeF p h) y).length ≤ 32 := by
      intro l
      induction l with
      | nil => intro y hy; exact hy
      | cons z l ih => intro y _; exact ih _ (by rw [nodeF_len]; exact Nat.le_refl _)
    exact this _ _ hx
theorem rootB_len (b : Bk) : (rootB b).length ≤ 32 := topF_len _ (pkOf_all _ _ rfl (lvB_all b))
set_option maxHeartbeats 4000000 in
theorem Tree_ct (bm : Bm) (B : Frag) (hR : bm.ro B) (hs : BkSm bm.b) : Ct Tryz.prog 154 [.agg (bmc bm).toArray] B 1 (fun v B' H' => B' = B ∧ ∃ tb Al cl Ap cp, v = .pointer (some ⟨tb, 0, none⟩) ∧ H' = mkH tb ⟨lvB bm.b, pkOf (lvB bm.b), Al, cl, Ap, cp⟩) := by
 have hn := hs.n
 refine Ct.of_body Tryz.func154 rfl (nt := 20) rfl (by kernel_rfl) rfl ?_
 intro N0 w0 R
 rw [one_star]
 refine Cq (fun K1 k1 => ?_)
 refine Cr ?_
 refine Lx.new (boxA rfl) rfl (fun b1 => ?_)
 refine Lx.y (asg rfl) rfl <| Lx.nil <| ?_
 refine Xx.tn (k1 _ _ _ _ ?_)
 refine Cq (fun K2 k2 => ?_)
 refine Cr ?_
 refine Lx.c rfl rfl rfl (MNew_ct _) ((one_star _).symm) rfl ?_
 rintro v1 B1 H1 ⟨hBB, tb, rfl, rfl⟩ hB1
 have hBB2 := hBB.symm
 subst hBB2
 clear hB1
 refine Lx.y (asg rfl) rfl <| Lx.nil <| ?_
 refine Xx.tn (k2 _ _ _ _ ?_)
 refine Cq (fun K3 k3 => ?_)
 refine Cq (fun K4 k4 => ?_)
 refine Cr <| Lx.y (fa' fo25_3 rfl) rfl <| Lx.y (ld U23 rfl rfl rfl) rfl <| Lx.y (lenV (ty' := 0) U23 rfl) rfl <| Lx.y (mv rfl) rfl <| Lx.nil <| ?_
 refine Xx.tn (k4 _ _ _ _ ?_)
 refine Cx.block ?_
 refine Cx.loopK (Sc 0 rfl (Sc 1 rfl (Sc 2 rfl (Sc 3 rfl (Sc 6 rfl (Sc 7 rfl (Sc 8 rfl (Sc 9 rfl (Sub.nil _))))))))) (fun m ρ' B' H' => ∃ (i : Nat) (A1 : Option Addr) (c1 : Nat) (A2 : Option Addr) (c2 : Nat), (i ≤ bm.b.revs.length) ∧ m = bm.b.revs.length - i ∧ ρ' = [(10, i64 (i : Int))] ∧ B = B' ∧ mkH tb ⟨(lvB bm.b).take i, pkOf ((lvB bm.b).take i), A1, c1, A2, c2⟩ * (row b1 25 (bmc bm) * R) = H') ⟨0, none, 0, none, 0, Nat.zero_le _, rfl, rfl, rfl, (by rw [List.take_zero]; rfl)⟩ (Sc 10 rfl (Sc 0 rfl (Sc 1 rfl (Sc 2 rfl (Sc 3 rfl (Sc 6 rfl (Sc 7 rfl (Sc 8 rfl (Sc 9 rfl (Sub.nil _)))))))))) ?_
 rintro m ρ' B' H' ⟨i, A1, c1, A2, c2, hi, rfl, rfl, rfl, rfl⟩
 refine Cq (fun K5 k5 => ?_)
 refine Cr <| Lx.y (lss rfl rfl) rfl <| Lx.nil <| ?_
 refine Xx.tn (k5 _ _ _ _ ?_)
 refine Cq (fun K6 k6 => ?_)
 refine Cx.condD rfl (fun h7 => ?_) (fun h7 => ?_)
 ·
  have hlt := h7
  have hlt : i < bm.b.revs.length := by omega
  obtain ⟨b9, o9, cs9, et9, fz9, hA9, hB9, hc9⟩ := flat_at rvc_len (hR (by omega)) hlt
  obtain ⟨hr1, hr2, hr3⟩ := hs.revs _ (List.getElem_mem hlt)
  have hml := metaF_le (bm.b.revs[i]'hlt)
  have hlv : (lvB bm.b).take i ++ [leafF (metaF (bm.b.revs[i]'hlt))] = (lvB bm.b).take (i + 1) := by rw [List.take_succ_eq_append_getElem (by rw [lvB_len]; exact hlt)]; simp [lvB]
  refine Cx.skip ?_
  refine Xx.tn (k6 _ _ _ _ ?_)
  refine Cq (fun K8 k8 => ?_)
  refine Cx.block ?_
  refine Cq (fun K9 k9 => ?_)
  refine Cr <| Lx.y (Yx.val (ia (b := b9) (o := o9) U23 sz40 (by rw [← hA9]; rfl) rfl (Int.toNat_natCast _) (by omega) (by omega)) rfl) rfl <| Lx.y (ldA U40 rfl sz40 rfl (Cells.base hB9 hc9) rfl) rfl <| ?_
  refine Lx.new (allocO ti40) rfl (fun b5 => ?_)
  refine Lx.st (stA (d := .bool) sz40 rfl rfl rfl rfl (by show 0 + 8 ≤ 8; omega) rfl) ?_
  refine Lx.nil ?_
  refine Xx.tn (k9 _ _ _ _ ?_)
  refine Cr <| Lx.y (mv rfl) rfl <| Lx.y (ldA U40 rfl sz40 rfl (Co (n := 8) Pe (show ((rvc (bm.b.revs[i]'hlt)).drop 0).take 8 = rvc (bm.b.revs[i]'hlt) from rfl)) rfl) rfl <| ?_
  refine Lx.cp rfl rfl rfl (meta_ct (bm.b.revs[i]'hlt) _ hr1 hr2 hr3) rfl ?_
  refine Lx.c rfl rfl rfl (MAdd_ct tb ((lvB bm.b).take i) A1 A2 c1 c2 (metaF (bm.b.revs[i]'hlt)) _ (by omega) (by rw [List.length_take]; omega) (fun x hx => lvB_all bm.b x (List.mem_of_mem_take hx))) (Pick.eq) rfl ?_
  rintro v5 B5 H5 ⟨hBB, rfl, A3, c3, A4, c4, rfl⟩ hB5
  have hBB2 := hBB.symm
  subst hBB2
  clear hB5
  refine Lx.nil <| Xx.bn <| ?_
  refine Xx.tn (k8 _ _ _ _ ?_)
  refine Cr <| Lx.y (Yx.val (add rfl rfl (by first | exact wrap64 (by omega) (by omega) | rfl)) (show _ = i64 ((i + 1 : Nat) : Int) from rfl)) rfl <| Lx.y (mv rfl) rfl <| Lx.nil <| ?_
  refine Xx.dropB b5 ?_
  exact Xx.againK ⟨i + 1, A3, c3, A4, c4, hlt, rfl, rfl, rfl, (by rw [← hlv])⟩ (by omega) (Sc 10 rfl (Sc 0 rfl (Sc 1 rfl (Sc 2 rfl (Sc 3 rfl (Sc 6 rfl (Sc 7 rfl (Sc 8 rfl (Sc 9 rfl (Sub.nil _))))))))))
 ·
  have hge := h7
  obtain rfl : i = bm.b.revs.length := by omega
  rw [List.take_of_length_le (by rw [lvB_len]; exact Nat.le_refl _)]
  refine Cx.exit <| Xx.te <| Xx.te <| Xx.bh <| ?_
  refine Xx.tn (k3 _ _ _ _ ?_)
  refine Cq (fun K10 k10 => ?_)
  refine Cr <| Lx.y (mv rfl) rfl <| Lx.y (asg rfl) rfl <| Lx.nil <| ?_
  refine Xx.tn (k10 _ _ _ _ ?_)
  refine Cx.ret ?_
  refine Xx.dropB b1 ?_
  exact Xx.ret1 rfl rfl ⟨rfl, tb, A1, c1, A2, c2, rfl, rfl⟩ (Fl _) rfl
set_option maxHeartbeats 4000000 in
theorem Header_ct (bm : Bm) (B : Frag) (hR : bm.ro B) (hs : BkSm bm.b) : CtP Tryz.prog 126 [.agg (bmc bm).toArray] B (str (headB bm.b ++ rootB bm.b)) := by
 have hn := hs.n
 have hpv := hs.prev
 have e1 := uvL_len bm.b.seq
 have e2 := uvL_len bm.b.tx
 have e3 := uvL_len bm.b.num
 have e4 := uvL_len (BitVec.ofInt 64 (bm.b.prev.length : Nat))
 have e5 : (encT bm.b.prev).length ≤ 11 + bm.b.prev.length := by unfold encT; rw [List.length_append]; omega
 have e6 := rootB_len bm.b
 refine CtB.of_body Tryz.func126 rfl (nt := 24) rfl (by kernel_rfl) rfl ?_
 intro N0 w0 R
 refine Cq (fun K1 k1 => ?_)
 refine Cr ?_
 refine Lx.new (boxA rfl) rfl (fun b1 => ?_)
 refine Lx.y (asg rfl) rfl <| Lx.nil <| ?_
 refine Xx.tn (k1 _ _ _ _ ?_)
 refine Cq (fun K2 k2 => ?_)
 refine Cx.drawn (by kernel_rfl) ?_
 refine Dx.p (i := 0) rfl (by kernel_rfl) (fa' fo25_0 rfl) rfl ?_
 refine Dx.r (i := 1) rfl (by kernel_rfl) (ld U22 rfl rfl rfl) rfl ?_
 refine Dx.p (i := 3) rfl (by kernel_rfl) (fa' fo25_1 rfl) rfl ?_
 refine Dx.r (i := 4) rfl (by kernel_rfl) (ld U9 rfl rfl rfl) rfl ?_
 refine Dx.p (i := 7) rfl (by kernel_rfl) (fa' fo25_2 rfl) rfl ?_
 refine Dx.r (i := 8) rfl (by kernel_rfl) (ld U22 rfl rfl rfl) rfl ?_
 refine Dx.p (i := 11) rfl (by kernel_rfl) (fa' fo25_3 rfl) rfl ?_
 refine Dx.r (i := 12) rfl (by kernel_rfl) (ld U23 rfl rfl rfl) rfl ?_
 refine Dx.p (i := 13) rfl (by kernel_rfl) (lenV (ty' := 0) U23 rfl) rfl ?_
 refine Dx.p (i := 14) rfl (by kernel_rfl) (cvW64 rfl U3 U22) rfl ?_
 refine Dx.r (i := 17) rfl (by kernel_rfl) (ldA U25 rfl sz25 rfl (Co (n := 4) Pe (show ((bmc bm).drop 0).take 4 = bmc bm from rfl)) rfl) rfl ?_
 refine Dx.one (i := 2) (by kernel_rfl) ?_
 refine Dstep.o (i := 2) rfl (Ox.cb rfl rfl rfl (encUint_ct bm.b.seq _)) rfl (fun v B' H' hΦ hB => ?_)
 obtain ⟨rfl, rfl, Y⟩ := hΦ; have E := Y.symm; subst E; clear hB
 refine ⟨Jy (Jy (Jy (Jy (Je (Jt) (by kernel_rfl)) (ld U9 rfl rfl rfl)) (ld U22 rfl rfl rfl)) (ld U23 rfl rfl rfl)) (ldA U25 rfl sz25 rfl (Co (n := 4) Pe (show ((bmc bm).drop 0).take 4 = bmc bm from rfl)) rfl), ?_⟩
 refine Dx.one (i := 5) (by kernel_rfl) ?_
 refine Dstep.o (i := 5) rfl (Ox.cb rfl rfl rfl (encText_ct bm.b.prev _ (by omega))) rfl (fun v B' H' hΦ hB => ?_)
 obtain ⟨rfl, rfl, Y⟩ := hΦ; have E := Y.symm; subst E; clear hB
 refine ⟨Jy (Jy (Jy (Je (Jy (Jt) (ld U22 rfl rfl rfl)) (by kernel_rfl)) (ld U22 rfl rfl rfl)) (ld U23 rfl rfl rfl)) (ldA U25 rfl sz25 rfl (Co (n := 4) Pe (show ((bmc bm).drop 0).take 4 = bmc bm from rfl)) rfl), ?_⟩
 refine Dx.p (i := 6) rfl (by kernel_rfl) (catS (l := uvL bm.b.seq) (l2 := encT bm.b.prev) rfl rfl (by omega)) rfl ?_
 refine Dx.one (i := 9) (by kernel_rfl) ?_
 refine Dstep.o (i := 9) rfl (Ox.cb rfl rfl rfl (encUint_ct bm.b.tx _)) rfl (fun v B' H' hΦ hB => ?_)
 obtain ⟨rfl, rfl, Y⟩ := hΦ; have E := Y.symm; subst E; clear hB
 refine ⟨Jy (Jy (Je (Jy (Jy (Jt) (ld U22 rfl rfl rfl)) (ld U9 rfl rfl rfl)) (by kernel_rfl)) (ld U23 rfl rfl rfl)) (ldA U25 rfl sz25 rfl (Co (n := 4) Pe (show ((bmc bm).drop 0).take 4 = bmc bm from rfl)) rfl), ?_⟩
 refine Dx.p (i := 10) rfl (by kernel_rfl) (catS (l := uvL bm.b.seq ++ encT bm.b.prev) rfl rfl (by simp only [List.length_append]; omega)) rfl ?_
 refine Dx.one (i := 15) (by kernel_rfl) ?_
 refine Dstep.o (i := 15) rfl (Ox.cb rfl rfl rfl (encUint_ct bm.b.num _)) rfl (fun v B' H' hΦ hB => ?_)
 obtain ⟨rfl, rfl, Y⟩ := hΦ; have E := Y.symm; subst E; clear hB
 refine ⟨Jy (Jy (Jy (Jy (Jy (Jt) (ld U22 rfl rfl rfl)) (ld U9 rfl rfl rfl)) (ld U22 rfl rfl rfl)) (ld U23 rfl rfl rfl)) (ldA U25 rfl sz25 rfl (Co (n := 4) Pe (show ((bmc bm).drop 0).take 4 = bmc bm from rfl)) rfl), ?_⟩
 refine Dx.p (i := 16) rfl (by kernel_rfl) (catS (l := uvL bm.b.seq ++ encT bm.b.prev ++ uvL bm.b.tx) (l2 := uvL bm.b.num) rfl rfl (by simp only [List.length_append]; omega)) rfl ?_
 refine Dx.one (i := 18) (by kernel_rfl) ?_
 refine Dstep.o (i := 18) rfl (Ox.call rfl rfl rfl (Tree_ct bm _ hR hs) ((one_star _).symm)) rfl (fun v B' H' hΦ hB => ?_)
 obtain ⟨_, rfl, hΦ⟩ := hΦ
 obtain ⟨hBB, tb, Al, cl, Ap, cp, rfl, rfl⟩ := hΦ
 have hBB2 := hBB.symm
 subst hBB2
 clear hB
 refine ⟨Je (Jy (Jy (Jy (Jy (Jt) (ld U22 rfl rfl rfl)) (ld U9 rfl rfl rfl)) (ld U22 rfl rfl rfl)) (ld U23 rfl rfl rfl)) (by kernel_rfl), ?_⟩
 refine Dx.one (i := 19) (by kernel_rfl) ?_
 refine Dstep.o (i := 19) rfl (Ox.call rfl rfl rfl (MRoot_ct tb (lvB bm.b) Al Ap cl cp _ (by rw [lvB_len]; omega) (lvB_all bm.b)) (Pick.eq)) rfl (fun v B' H' hΦ hB => ?_)
 obtain ⟨_, rfl, hΦ⟩ := hΦ
 obtain ⟨hBB, rfl, rfl⟩ := hΦ
 have hBB2 := hBB.symm
 subst hBB2
 clear hB
 refine ⟨Jy (Jy (Jy (Jy (Jy (Jt) (ld U22 rfl rfl rfl)) (ld U9 rfl rfl rfl)) (ld U22 rfl rfl rfl)) (ld U23 rfl rfl rfl)) (ldA U25 rfl sz25 rfl (Co (n := 4) Pe (show ((bmc bm).drop 0).take 4 = bmc bm from rfl)) rfl), ?_⟩
 refine Dx.p (i := 20) rfl (by kernel_rfl) (Yx.val (catS (l := headB bm.b) (l2 := rootB bm.b) rfl rfl (by have := headB_le bm.b; omega)) rfl) rfl ?_
 refine Dx.p (i := 21) rfl (by kernel_rfl) (asg rfl) rfl ?_
 refine Dx.done (by kernel_rfl) ?_
 refine Xx.tn (k2 _ _ _ _ ?_)
 refine Cx.ret ?_
 refine Xx.drop (p := mkH tb ⟨lvB bm.b, pkOf (lvB bm.b), Al, cl, Ap, cp⟩) ?_
 refine Xx.dropB b1 ?_
 exact Xx.rB1 rfl rfl ⟨rfl, rfl⟩ (Fl _) rfl
set_option maxHeartbeats 1000000 in
theorem Hash_ct (bm : Bm) (B : Frag) (hR : bm.ro B) (hs : BkSm bm.b) : CtP Tryz.prog 84 [.agg (bmc bm).toArray] B (str (hashB bm.b)) := by
 have hpv := hs.prev
 have e5 := headB_le bm.b
 have e6 := rootB_len bm.b
 refine CtB.of_body Tryz.func84 rfl (nt := 7) rfl (by kernel_rfl) rfl ?_
 intro N0 w0 R
 refine Cq (fun K1 k1 => ?_)
 refine Cr ?_
 refine Lx.new (boxA rfl) rfl (fun b1 => ?_)
 refine Lx.y (asg rfl) rfl <| Lx.nil <| ?_
 refine Xx.tn (k1 _ _ _ _ ?_)
 refine Cq (fun K2 k2 => ?_)
 refine Cr <| Lx.y (ldA U25 rfl sz25 rfl (Co (n := 4) Pe (show ((bmc bm).drop 0).take 4 = bmc bm from rfl)) rfl) rfl <| ?_
 refine Lx.cp rfl rfl rfl (Header_ct bm _ hR hs) rfl ?_
 refine Lx.y (catS (l := [2]) (l2 := headB bm.b ++ rootB bm.b) rfl rfl (by rw [List.length_append]; simp; omega)) rfl ?_
 refine Lx.cp rfl rfl rfl (Sum_ct ([2] ++ (headB bm.b ++ rootB bm.b)) _ (by rw [List.length_append, List.length_append]; simp; omega)) rfl ?_
 refine Lx.y (asg rfl) rfl <| Lx.nil <| ?_
 refine Xx.tn (k2 _ _ _ _ ?_)
 refine Cx.ret ?_
 refine Xx.dropB b1 ?_
 exact Xx.rB1 rfl rfl ⟨rfl, rfl⟩ (Fl _) rfl
end VhV
end Go.Proofs.YthlfffbcligocaaGreat
namespace Go.Proofs.YthlfffbcligocaaGreat
open Go.SL Go.RowKit
set_option maxRecDepth 100000
open VhA VhB VhC VhD VhE VhF VhG VhH VhI VhJ VhK VhL VhM VhN VhO VhP VhQ VhR VhS VhT VhU VhV
namespace VhW
theorem sz3 : (Tryz.prog.info? 3).map (·.size) = some 1 := by kernel_rfl
theorem sz9 : (Tryz.prog.info? 9).map (·.size) = some 1 := by kernel_rfl
theorem sz22 : (Tryz.prog.info? 22).map (·.size) = some 1 := by kernel_rfl
theorem sz23 : (Tryz.prog.info? 23).map (·.size) = some 1 := by kernel_rfl
theorem sz25 : (Tryz.prog.info? 25).map (·.size) = some 4 := by kernel_rfl
theorem sz40 : (Tryz.prog.info? 40).map (·.size) = some 8 := by kernel_rfl
theorem ti3 : TI Tryz.prog 3 [.int .i64 0] 1 8 := TI.of (by kernel_rfl) rfl rfl
theorem ti40 : TI Tryz.prog 40 [.int .i64 0, str [], str [], .int .u64 0, .int .u64 0, str [], str [], .bool false] 8 96 := TI.of (by kernel_rfl) rfl rfl
theorem fo25_0 : FO Tryz.prog 25 0 0 1 false := FO.of U25 rfl rfl (by kernel_rfl) U22 rfl rfl
theorem fo25_1 : FO Tryz.prog 25 1 1 1 false := FO.of U25 rfl rfl (by kernel_rfl) U9 rfl rfl
theorem fo25_2 : FO Tryz.prog 25 2 2 1 false := FO.of U25 rfl rfl (by kernel_rfl) U22 rfl rfl
theorem fo25_3 : FO Tryz.prog 25 3 3 1 false := FO.of U25 rfl rfl (by kernel_rfl) U23 rfl rfl
theorem fo40_0 : FO Tryz.prog 40 0 0 1 false := FO.of U40 rfl rfl (by kernel_rfl) U3 rfl rfl
structure BkIn (b : Bk) : Prop where
  n : b.revs.length ≤ 4611686018427387900
  revs : ∀ r ∈ b.revs, r.body.length ≤ 4611686018427387900 ∧ r.hash.length ≤ 4611686018427387900 ∧ r.tab.length ≤ 4611686018427387900 ∧ r.fld.length ≤ 4611686018427387900
theorem fol_len {b : Bk} {n : BitVec 64} {p : List UInt8} (h : b.revs.length < 1 ∨ 64 < b.revs.length) : followsF b n p = 3 := by unfold followsF; rw [if_pos h]
theorem fol_bad {b : Bk} {n : BitVec 64} {p : List UInt8} {i : Nat} (h : ¬ (b.revs.length < 1 ∨ 64 < b.revs.length)) (hi : i < b.revs.length) (hk : ¬ okR b.revs[i] = true) : followsF b n p = 6 := by
  unfold followsF
  rw [if_neg h, if_neg fun e => hk (List.all_eq_true.1 e _ (List.getElem_mem hi))]
theorem fol_ok {b : Bk} {n : BitVec 64} {p : List UInt8} (h : ¬ (b.revs.length < 1 ∨ 64 < b.revs.length)) (hk : ∀ j (hj : j < b.revs.length), okR b.revs[j] = true) : followsF b n p = if b.seq = n ∧ b.prev = p then 0 else 90 := by
  unfold followsF
  rw [if_neg h, if_pos (List.all_eq_true.2 fun r hr => by obtain ⟨j, hj, rfl⟩ := List.getElem_of_mem hr; exact hk j hj)]
def pB (l : List Rv) (i : Nat) : Bool := (l[i]?.map fun r => bodB r.op).getD false
def bodT (l : List Rv) (i : Nat) : List Nat := (List.range i).filter (pB l)
theorem bodT_yes {l : List Rv} {i : Nat} (h : pB l i = true) : bodT l (i + 1) = bodT l i ++ [i] := by unfold bodT; rw [List.range_succ, List.filter_append]; simp [h]
theorem bodT_no {l : List Rv} {i : Nat} (h : ¬ pB l i = true) : bodT l (i + 1) = bodT l i := by unfold bodT; rw [List.range_succ, List.filter_append]; simp [h]
theorem bodT_all (l : List Rv) : bodT l l.length = bodd l := rfl
theorem bodT_len (l : List Rv) (i : Nat) : (bodT l i).length ≤ i := by
  have := List.length_filter_le (pB l) (List.range i)
  rw [List.length_range] at this; exact this
theorem pB_at {l : List Rv} {i : Nat} (h : i < l.length) : pB l i = bodB l[i].op := by unfold pB; rw [List.getElem?_eq_getElem h]; rfl
set_option maxHeartbeats 4000000 in
theorem Follows_ct (bm : Bm) (n : BitVec 64) (prev : List UInt8) (B : Frag) (hR : bm.ro B) (hs : BkIn bm.b) : CtP Tryz.prog 15 [.agg (bmc bm).toArray, u64 n, str prev] B (i64 (followsF bm.b n prev)) := by
 have hn := hs.n
 refine CtB.of_body Tryz.func15 rfl (nt := 43) rfl (by kernel_rfl) rfl ?_
 intro N0 w0 R
 refine Cq (fun K1 k1 => ?_)
 refine Cr ?_
 refine Lx.new (boxA rfl) rfl (fun b1 => ?_)
 refine Lx.y (asg rfl) rfl <| Lx.nil <| ?_
 refine Xx.tn (k1 _ _ _ _ ?_)
 refine Cq (fun K2 k2 => ?_)
 refine Cq (fun K3 k3 => ?_)
 refine Cr <| Lx.y (fa' fo25_3 rfl) rfl <| Lx.y (ld U23 rfl rfl rfl) rfl <| Lx.y (lenV (ty' := 0) U23 rfl) rfl <| Lx.y (lss rfl rfl) rfl <| Lx.y (mv rfl) rfl <| ?_
 refine Xx.ifD (t := 14) rfl (fun h4 => ?_) (fun h4 => ?_)
 ·
  have g1 := h4
  refine Lx.gF rfl rfl rfl rfl <| Lx.gF rfl rfl rfl rfl <| Lx.gF rfl rfl rfl rfl <| Lx.gF rfl rfl rfl rfl <| Lx.y (pickT rfl rfl) rfl <| Lx.nil <| ?_
  refine Xx.tn (k3 _ _ _ _ ?_)
  refine Cx.condT rfl ?_
  refine Cq (fun K5 k5 => ?_)
  refine Cr <| Lx.y (asg rfl) rfl <| Lx.nil <| ?_
  refine Xx.tn (k5 _ _ _ _ ?_)
  refine Cx.ret <| Xx.tr <| ?_
  refine Xx.dropB b1 ?_
  exact Xx.rB1 rfl rfl ⟨congrArg (fun z : Int => i64 z) (fol_len (by omega)).symm, rfl⟩ (Fl _) rfl
 ·
  have g1 := h4
  refine Lx.gT rfl rfl rfl <| Lx.y (fa' fo25_3 rfl) rfl <| Lx.gT rfl rfl rfl <| Lx.y (ld U23 rfl rfl rfl) rfl <| Lx.gT rfl rfl rfl <| Lx.y (lenV (ty' := 0) U23 rfl) rfl <| Lx.gT rfl rfl rfl <| Lx.y (gtr rfl rfl) rfl <| Lx.y (pickF rfl rfl) rfl <| Lx.nil <| ?_
  refine Xx.tn (k3 _ _ _ _ ?_)
  refine Cx.condD rfl (fun h6 => ?_) (fun h6 => ?_)
  ·
   have g2 := h6
   refine Cq (fun K7 k7 => ?_)
   refine Cr <| Lx.y (asg rfl) rfl <| Lx.nil <| ?_
   refine Xx.tn (k7 _ _ _ _ ?_)
   refine Cx.ret <| Xx.tr <| ?_
   refine Xx.dropB b1 ?_
   exact Xx.rB1 rfl rfl ⟨congrArg (fun z : Int => i64 z) (fol_len (by omega)).symm, rfl⟩ (Fl _) rfl
  ·
   have g2 := h6
   have hlen : ¬ (bm.b.revs.length < 1 ∨ 64 < bm.b.revs.length) := by omega
   refine Cx.skip ?_
   refine Xx.tn (k2 _ _ _ _ ?_)
   refine Cq (fun K8 k8 => ?_)
   refine Cq (fun K9 k9 => ?_)
   refine Cr <| Lx.y (fa' fo25_3 rfl) rfl <| Lx.y (ld U23 rfl rfl rfl) rfl <| Lx.y (lenV (ty' := 0) U23 rfl) rfl <| Lx.y (mv rfl) rfl <| Lx.nil <| ?_
   refine Xx.tn (k9 _ _ _ _ ?_)
   refine Cx.block ?_
   refine Cx.loopK (Sc 0 rfl (Sc 1 rfl (Sc 2 rfl (Sc 3 rfl (Sc 10 rfl (Sc 11 rfl (Sc 12 rfl (Sc 13 rfl (Sc 14 rfl (Sc 15 rfl (Sc 16 rfl (Sc 17 rfl (Sc 18 rfl (Sc 19 rfl (Sc 20 rfl (Sc 21 rfl (Sc 22 rfl (Sub.nil _)))))))))))))))))) (fun m ρ' B' H' => ∃ (i : Nat), (i ≤ bm.b.revs.length ∧ ∀ j (hj : j < bm.b.revs.length), j < i → okR bm.b.revs[j] = true) ∧ m = bm.b.revs.length - i ∧ ρ' = [(23, i64 (i : Int))] ∧ B = B' ∧ row b1 25 (bmc bm) * R = H') ⟨0, ⟨Nat.zero_le _, fun j _ h => absurd h (Nat.not_lt_zero j)⟩, rfl, rfl, rfl, rfl⟩ (Sc 23 rfl (Sc 0 rfl (Sc 1 rfl (Sc 2 rfl (Sc 3 rfl (Sc 10 rfl (Sc 11 rfl (Sc 12 rfl (Sc 13 rfl (Sc 14 rfl (Sc 15 rfl (Sc 16 rfl (Sc 17 rfl (Sc 18 rfl (Sc 19 rfl (Sc 20 rfl (Sc 21 rfl (Sc 22 rfl (Sub.nil _))))))))))))))))))) ?_
   rintro m ρ' B' H' ⟨i, ⟨hi, hall⟩, rfl, rfl, rfl, rfl⟩
   refine Cq (fun K10 k10 => ?_)
   refine Cr <| Lx.y (lss rfl rfl) rfl <| Lx.nil <| ?_
   refine Xx.tn (k10 _ _ _ _ ?_)
   refine Cq (fun K11 k11 => ?_)
   refine Cx.condD rfl (fun h12 => ?_) (fun h12 => ?_)
   ·
    have hlt := h12
    have hlt : i < bm.b.revs.length := by omega
    obtain ⟨b9, o9, cs9, et9, fz9, hA9, hB9, hc9⟩ := flat_at rvc_len (hR (by omega)) hlt
    obtain ⟨hr1, hr2, hr3, hr4⟩ := hs.revs _ (List.getElem_mem hlt)
    refine Cx.skip ?_
    refine Xx.tn (k11 _ _ _ _ ?_)
    refine Cq (fun K13 k13 => ?_)
    refine Cx.block ?_
    refine Cq (fun K14 k14 => ?_)
    refine Cr <| Lx.y (Yx.val (ia (b := b9) (o := o9) U23 sz40 (by rw [← hA9]; rfl) rfl (Int.toNat_natCast _) (by omega) (by omega)) rfl) rfl <| Lx.y (ldA U40 rfl sz40 rfl (Cells.base hB9 hc9) rfl) rfl <| ?_
    refine Lx.new (allocO ti40) rfl (fun b5 => ?_)
    refine Lx.st (stA (d := .bool) sz40 rfl rfl rfl rfl (by show 0 + 8 ≤ 8; omega) rfl) ?_
    refine Lx.nil ?_
    refine Xx.tn (k14 _ _ _ _ ?_)
    refine Cq (fun K15 k15 => ?_)
    refine Cr <| Lx.y (ldA U40 rfl sz40 rfl (Co (n := 8) Pe (show ((rvc (bm.b.revs[i]'hlt)).drop 0).take 8 = rvc (bm.b.revs[i]'hlt) from rfl)) rfl) rfl <| ?_
    refine Lx.cp rfl rfl rfl (Check_ct (bm.b.revs[i]'hlt) _ hr1 hr2 hr3 hr4) rfl ?_
    refine Lx.y (asg rfl) rfl <| Lx.nil <| ?_
    refine Xx.tn (k15 _ _ _ _ ?_)
    refine Cq (fun K16 k16 => ?_)
    refine Cr <| Lx.y (mv rfl) rfl <| Lx.y (neI rfl rfl) rfl <| Lx.nil <| ?_
    refine Xx.tn (k16 _ _ _ _ ?_)
    refine Cx.condN rfl (fun h17 => ?_) (fun h17 => ?_)
    ·
     have hk := h17
     have hk : ¬ okR (bm.b.revs[i]'hlt) = true := fun e => hk (if_pos e)
     refine Cq (fun K18 k18 => ?_)
     refine Cr <| Lx.y (mv rfl) rfl <| Lx.y (asg rfl) rfl <| Lx.nil <| ?_
     refine Xx.tn (k18 _ _ _ _ ?_)
     refine Cx.ret ?_
     refine Xx.br ?_
     refine Xx.tr <| Xx.tr <| ?_
     refine Xx.br ?_
     refine Xx.tr ?_
     refine Xx.dropB b5 (Xx.dropB b1 ?_)
     exact Xx.rB1 rfl rfl ⟨congrArg (fun z : Int => i64 z) (by rw [if_neg hk, fol_bad hlen hlt hk]), rfl⟩ (Fl _) rfl
    ·
     have hk := h17
     have hk : okR (bm.b.revs[i]'hlt) = true := by
      by_cases e : okR (bm.b.revs[i]'hlt) = true
      ·exact e
      ·rw [if_neg e] at hk; exact absurd hk (by decide)
     refine Cx.skip <| Xx.bn <| ?_
     refine Xx.tn (k13 _ _ _ _ ?_)
     refine Cr <| Lx.y (add rfl rfl (by first | exact wrap64 (by omega) (by omega) | rfl)) rfl <| Lx.y (mv rfl) rfl <| Lx.nil <| ?_
     refine Xx.dropB b5 ?_
     exact Xx.againK ⟨i + 1, ⟨hlt, fun j hj h => (Nat.lt_succ_iff_lt_or_eq.1 h).elim (hall j hj) fun e => by subst e; exact hk⟩, rfl, rfl, rfl, rfl⟩ (by omega) (Sc 23 rfl (Sc 0 rfl (Sc 1 rfl (Sc 2 rfl (Sc 3 rfl (Sc 10 rfl (Sc 11 rfl (Sc 12 rfl (Sc 13 rfl (Sc 14 rfl (Sc 15 rfl (Sc 16 rfl (Sc 17 rfl (Sc 18 rfl (Sc 19 rfl (Sc 20 rfl (Sc 21 rfl (Sc 22 rfl (Sub.nil _)))))))))))))))))))
   ·
    have hge := h12
    obtain rfl : i = bm.b.revs.length := by omega
    have hfo := fol_ok (n := n) (p := prev) hlen fun j hj => hall j hj hj
    refine Cx.exit <| Xx.te <| Xx.te <| Xx.bh <| ?_
    refine Xx.tn (k8 _ _ _ _ ?_)
    refine Cq (fun K19 k19 => ?_)
    refine Cq (fun K20 k20 => ?_)
    refine Cr <| Lx.y (fa' fo25_0 rfl) rfl <| Lx.y (ld U22 rfl rfl rfl) rfl <| Lx.y (mv rfl) rfl <| Lx.y (neW64 rfl rfl) rfl <| Lx.y (mv rfl) rfl <| ?_
    refine Xx.ifN (t := 37) rfl (fun h21 => ?_) (fun h21 => ?_)
    ·
     have g3 := h21
     refine Lx.gF rfl rfl rfl rfl <| Lx.gF rfl rfl rfl rfl <| Lx.gF rfl rfl rfl rfl <| Lx.gF rfl rfl rfl rfl <| Lx.y (pickT rfl rfl) rfl <| Lx.nil <| ?_
     refine Xx.tn (k20 _ _ _ _ ?_)
     refine Cx.condT rfl ?_
     refine Cq (fun K22 k22 => ?_)
     refine Cr <| Lx.y (asg rfl) rfl <| Lx.nil <| ?_
     refine Xx.tn (k22 _ _ _ _ ?_)
     refine Cx.ret <| Xx.tr <| ?_
     refine Xx.dropB b1 ?_
     exact Xx.rB1 rfl rfl ⟨congrArg (fun z : Int => i64 z) (by rw [hfo, if_neg fun e => g3 e.1]), rfl⟩ (Fl _) rfl
    ·
     have g3 := h21
     refine Lx.gT rfl rfl rfl <| Lx.y (fa' fo25_1 rfl) rfl <| Lx.gT rfl rfl rfl <| Lx.y (ld U9 rfl rfl rfl) rfl <| Lx.gT rfl rfl rfl <| Lx.y (mv rfl) rfl <| Lx.gT rfl rfl rfl <| Lx.y (neS rfl rfl) rfl <| Lx.y (pickF rfl rfl) rfl <| Lx.nil <| ?_
     refine Xx.tn (k20 _ _ _ _ ?_)
     refine Cx.condN rfl (fun h23 => ?_) (fun h23 => ?_)
     ·
      have g4 := h23
      refine Cq (fun K24 k24 => ?_)
      refine Cr <| Lx.y (asg rfl) rfl <| Lx.nil <| ?_
      refine Xx.tn (k24 _ _ _ _ ?_)
      refine Cx.ret <| Xx.tr <| ?_
      refine Xx.dropB b1 ?_
      exact Xx.rB1 rfl rfl ⟨congrArg (fun z : Int => i64 z) (by rw [hfo, if_neg fun e => g4 e.2]), rfl⟩ (Fl _) rfl
     ·
      have g4 := h23
      refine Cx.skip ?_
      refine Xx.tn (k19 _ _ _ _ ?_)
      refine Cq (fun K25 k25 => ?_)
      refine Cr <| Lx.y (asg rfl) rfl <| Lx.nil <| ?_
      refine Xx.tn (k25 _ _ _ _ ?_)
      refine Cx.ret ?_
      refine Xx.dropB b1 ?_
      exact Xx.rB1 rfl rfl ⟨congrArg (fun z : Int => i64 z) (by rw [hfo, if_pos ⟨g3, g4⟩]), rfl⟩ (Fl _) rfl
set_option maxHeartbeats 4000000 in
theorem Frame_ct (bm : Bm) (B : Frag) (hR : bm.ro B) (hs : BkSm bm.b) : CtP Tryz.prog 46 [.agg (bmc bm).toArray] B (str (frameB bm.b)) := by
 have hn := hs.n
 have hpv := hs.prev
 have e1 := uvL_len bm.b.seq
 have e2 := uvL_len bm.b.tx
 have e3 := uvL_len bm.b.num
 have e4 := uvL_len (BitVec.ofInt 64 (bm.b.prev.length : Nat))
 have e5 : (encT bm.b.prev).length ≤ 11 + bm.b.prev.length := by unfold encT; rw [List.length_append]; omega
 have e6 := headB_le bm.b
 have hfl : ∀ i, ((bm.b.revs.take i).flatMap metaF).length ≤ 3100000000000 := fun i => by
  have h1 := flat_len metaF 3000100 (bm.b.revs.take i) fun r hr => by
   obtain ⟨q1, q2, q3⟩ := hs.revs r (List.mem_of_mem_take hr)
   have := metaF_le r
   omega
  have h2 : (bm.b.revs.take i).length * 3000100 ≤ 1000000 * 3000100 := Nat.mul_le_mul_right _ (by rw [List.length_take]; omega)
  omega
 refine CtB.of_body Tryz.func46 rfl (nt := 36) rfl (by kernel_rfl) rfl ?_
 intro N0 w0 R
 refine Cq (fun K1 k1 => ?_)
 refine Cr ?_
 refine Lx.new (boxA rfl) rfl (fun b1 => ?_)
 refine Lx.y (asg rfl) rfl <| Lx.nil <| ?_
 refine Xx.tn (k1 _ _ _ _ ?_)
 refine Cq (fun K2 k2 => ?_)
 refine Cx.drawn (by kernel_rfl) ?_
 refine Dx.p (i := 0) rfl (by kernel_rfl) (fa' fo25_0 rfl) rfl ?_
 refine Dx.r (i := 1) rfl (by kernel_rfl) (ld U22 rfl rfl rfl) rfl ?_
 refine Dx.p (i := 3) rfl (by kernel_rfl) (fa' fo25_1 rfl) rfl ?_
 refine Dx.r (i := 4) rfl (by kernel_rfl) (ld U9 rfl rfl rfl) rfl ?_
 refine Dx.p (i := 7) rfl (by kernel_rfl) (fa' fo25_2 rfl) rfl ?_
 refine Dx.r (i := 8) rfl (by kernel_rfl) (ld U22 rfl rfl rfl) rfl ?_
 refine Dx.p (i := 11) rfl (by kernel_rfl) (fa' fo25_3 rfl) rfl ?_
 refine Dx.r (i := 12) rfl (by kernel_rfl) (ld U23 rfl rfl rfl) rfl ?_
 refine Dx.p (i := 13) rfl (by kernel_rfl) (lenV (ty' := 0) U23 rfl) rfl ?_
 refine Dx.p (i := 14) rfl (by kernel_rfl) (cvW64 rfl U3 U22) rfl ?_
 refine Dx.one (i := 2) (by kernel_rfl) ?_
 refine Dstep.o (i := 2) rfl (Ox.cb rfl rfl rfl (encUint_ct bm.b.seq _)) rfl (fun v B' H' hΦ hB => ?_)
 obtain ⟨rfl, rfl, Y⟩ := hΦ; have E := Y.symm; subst E; clear hB
 refine ⟨Jy (Jy (Jy (Je (Jt) (by kernel_rfl)) (ld U9 rfl rfl rfl)) (ld U22 rfl rfl rfl)) (ld U23 rfl rfl rfl), ?_⟩
 refine Dx.one (i := 5) (by kernel_rfl) ?_
 refine Dstep.o (i := 5) rfl (Ox.cb rfl rfl rfl (encText_ct bm.b.prev _ (by omega))) rfl (fun v B' H' hΦ hB => ?_)
 obtain ⟨rfl, rfl, Y⟩ := hΦ; have E := Y.symm; subst E; clear hB
 refine ⟨Jy (Jy (Je (Jy (Jt) (ld U22 rfl rfl rfl)) (by kernel_rfl)) (ld U22 rfl rfl rfl)) (ld U23 rfl rfl rfl), ?_⟩
 refine Dx.p (i := 6) rfl (by kernel_rfl) (catS (l := uvL bm.b.seq) (l2 := encT bm.b.prev) rfl rfl (by omega)) rfl ?_
 refine Dx.one (i := 9) (by kernel_rfl) ?_
 refine Dstep.o (i := 9) rfl (Ox.cb rfl rfl rfl (encUint_ct bm.b.tx _)) rfl (fun v B' H' hΦ hB => ?_)
 obtain ⟨rfl, rfl, Y⟩ := hΦ; have E := Y.symm; subst E; clear hB
 refine ⟨Jy (Je (Jy (Jy (Jt) (ld U22 rfl rfl rfl)) (ld U9 rfl rfl rfl)) (by kernel_rfl)) (ld U23 rfl rfl rfl), ?_⟩
 refine Dx.p (i := 10) rfl (by kernel_rfl) (catS (l := uvL bm.b.seq ++ encT bm.b.prev) rfl rfl (by simp only [List.length_append]; omega)) rfl ?_
 refine Dx.one (i := 15) (by kernel_rfl) ?_
 refine Dstep.o (i := 15) rfl (Ox.cb rfl rfl rfl (encUint_ct bm.b.num _)) rfl (fun v B' H' hΦ hB => ?_)
 obtain ⟨rfl, rfl, Y⟩ := hΦ; have E := Y.symm; subst E; clear hB
 refine ⟨Jy (Jy (Jy (Jy (Jt) (ld U22 rfl rfl rfl)) (ld U9 rfl rfl rfl)) (ld U22 rfl rfl rfl)) (ld U23 rfl rfl rfl), ?_⟩
 refine Dx.p (i := 16) rfl (by kernel_rfl) (Yx.val (catS (l := uvL bm.b.seq ++ encT bm.b.prev ++ uvL bm.b.tx) (l2 := uvL bm.b.num) rfl rfl (by simp only [List.length_append]; omega)) (show _ = str (headB bm.b) from rfl)) rfl ?_
 refine Dx.p (i := 17) rfl (by kernel_rfl) (asg rfl) rfl ?_
 refine Dx.done (by kernel_rfl) ?_
 refine Xx.tn (k2 _ _ _ _ ?_)
 refine Cq (fun K3 k3 => ?_)
 refine Cq (fun K4 k4 => ?_)
 refine Cr <| Lx.y (fa' fo25_3 rfl) rfl <| Lx.y (ld U23 rfl rfl rfl) rfl <| Lx.y (lenV (ty' := 0) U23 rfl) rfl <| Lx.y (mv rfl) rfl <| Lx.nil <| ?_
 refine Xx.tn (k4 _ _ _ _ ?_)
 refine Cx.block ?_
 refine Cx.loopK (Sc 0 rfl (Sc 1 rfl (Sc 2 rfl (Sc 6 rfl (Sc 7 rfl (Sc 8 rfl (Sc 9 rfl (Sc 10 rfl (Sc 11 rfl (Sc 12 rfl (Sc 13 rfl (Sc 14 rfl (Sc 15 rfl (Sc 16 rfl (Sc 17 rfl (Sc 18 rfl (Sc 19 rfl (Sc 20 rfl (Sc 21 rfl (Sc 22 rfl (Sc 23 rfl (Sc 24 rfl (Sc 25 rfl (Sub.nil _)))))))))))))))))))))))) (fun m ρ' B' H' => ∃ (i : Nat), (i ≤ bm.b.revs.length) ∧ m = bm.b.revs.length - i ∧ ρ' = [(3, str (headB bm.b ++ (bm.b.revs.take i).flatMap metaF)), (26, i64 (i : Int))] ∧ B = B' ∧ row b1 25 (bmc bm) * R = H') ⟨0, Nat.zero_le _, rfl, rfl, rfl, rfl⟩ (Sub.consE (s := 3) rfl (by rw [List.take_zero, List.flatMap_nil, List.append_nil]) (Sc 26 rfl (Sc 0 rfl (Sc 1 rfl (Sc 2 rfl (Sc 6 rfl (Sc 7 rfl (Sc 8 rfl (Sc 9 rfl (Sc 10 rfl (Sc 11 rfl (Sc 12 rfl (Sc 13 rfl (Sc 14 rfl (Sc 15 rfl (Sc 16 rfl (Sc 17 rfl (Sc 18 rfl (Sc 19 rfl (Sc 20 rfl (Sc 21 rfl (Sc 22 rfl (Sc 23 rfl (Sc 24 rfl (Sc 25 rfl (Sub.nil _)))))))))))))))))))))))))) ?_
 rintro m ρ' B' H' ⟨i, hi, rfl, rfl, rfl, rfl⟩
 refine Cq (fun K5 k5 => ?_)
 refine Cr <| Lx.y (lss rfl rfl) rfl <| Lx.nil <| ?_
 refine Xx.tn (k5 _ _ _ _ ?_)
 refine Cq (fun K6 k6 => ?_)
 refine Cx.condD rfl (fun h7 => ?_) (fun h7 => ?_)
 ·
  have hlt := h7
  have hlt : i < bm.b.revs.length := by omega
  obtain ⟨b9, o9, cs9, et9, fz9, hA9, hB9, hc9⟩ := flat_at rvc_len (hR (by omega)) hlt
  obtain ⟨hr1, hr2, hr3⟩ := hs.revs _ (List.getElem_mem hlt)
  have hml := metaF_le (bm.b.revs[i]'hlt)
  have hfi := hfl i
  refine Cx.skip ?_
  refine Xx.tn (k6 _ _ _ _ ?_)
  refine Cq (fun K8 k8 => ?_)
  refine Cx.block ?_
  refine Cq (fun K9 k9 => ?_)
  refine Cr <| Lx.y (Yx.val (ia (b := b9) (o := o9) U23 sz40 (by rw [← hA9]; rfl) rfl (Int.toNat_natCast _) (by omega) (by omega)) rfl) rfl <| Lx.y (ldA U40 rfl sz40 rfl (Cells.base hB9 hc9) rfl) rfl <| ?_
  refine Lx.new (allocO ti40) rfl (fun b5 => ?_)
  refine Lx.st (stA (d := .bool) sz40 rfl rfl rfl rfl (by show 0 + 8 ≤ 8; omega) rfl) ?_
  refine Lx.nil ?_
  refine Xx.tn (k9 _ _ _ _ ?_)
  refine Cr <| Lx.y (mv rfl) rfl <| Lx.y (ldA U40 rfl sz40 rfl (Co (n := 8) Pe (show ((rvc (bm.b.revs[i]'hlt)).drop 0).take 8 = rvc (bm.b.revs[i]'hlt) from rfl)) rfl) rfl <| ?_
  refine Lx.cp rfl rfl rfl (meta_ct (bm.b.revs[i]'hlt) _ hr1 hr2 hr3) rfl ?_
  refine Lx.y (catS rfl rfl (by rw [List.length_append]; omega)) rfl <| Lx.y (asg rfl) rfl <| Lx.nil <| Xx.bn <| ?_
  refine Xx.tn (k8 _ _ _ _ ?_)
  refine Cr <| Lx.y (Yx.val (add rfl rfl (by first | exact wrap64 (by omega) (by omega) | rfl)) (show _ = i64 ((i + 1 : Nat) : Int) from rfl)) rfl <| Lx.y (mv rfl) rfl <| Lx.nil <| ?_
  refine Xx.dropB b5 ?_
  exact Xx.againK ⟨i + 1, hlt, rfl, rfl, rfl, rfl⟩ (by omega) (Sub.consE (s := 3) rfl (by rw [List.take_succ_eq_append_getElem hlt, List.flatMap_append, ← List.append_assoc]; simp) (Sc 26 rfl (Sc 0 rfl (Sc 1 rfl (Sc 2 rfl (Sc 6 rfl (Sc 7 rfl (Sc 8 rfl (Sc 9 rfl (Sc 10 rfl (Sc 11 rfl (Sc 12 rfl (Sc 13 rfl (Sc 14 rfl (Sc 15 rfl (Sc 16 rfl (Sc 17 rfl (Sc 18 rfl (Sc 19 rfl (Sc 20 rfl (Sc 21 rfl (Sc 22 rfl (Sc 23 rfl (Sc 24 rfl (Sc 25 rfl (Sub.nil _))))))))))))))))))))))))))
 ·
  have hge := h7
  obtain rfl : i = bm.b.revs.length := by omega
  rw [List.take_length]
  refine Cx.exit <| Xx.te <| Xx.te <| Xx.bh <| ?_
  refine Xx.tn (k3 _ _ _ _ ?_)
  refine Cq (fun K10 k10 => ?_)
  refine Cr <| Lx.y (mv rfl) rfl <| Lx.y (asg rfl) rfl <| Lx.nil <| ?_
  refine Xx.tn (k10 _ _ _ _ ?_)
  refine Cx.ret ?_
  refine Xx.dropB b1 ?_
  exact Xx.rB1 rfl rfl ⟨rfl, rfl⟩ (Fl _) rfl
set_option maxHeartbeats 4000000 in
theorem bodied2_ct (bm : Bm) (B : Frag) (hR : bm.ro B) (hn : bm.b.revs.length ≤ 1000000) : CtB Tryz.prog 47 [.agg (bmc bm).toArray] B (fun v B' => ∃ A c, v = .slice A (bodd bm.b.revs).length c ∧ RoS B' 1 A (bodd bm.b.revs).length ((bodd bm.b.revs).map fun k : Nat => i64 (k : Int))) := by
 refine CtB.of_body Tryz.func47 rfl (nt := 28) rfl (by kernel_rfl) rfl ?_
 intro N0 w0 R
 refine Cq (fun K1 k1 => ?_)
 refine Cr ?_
 refine Lx.new (boxA rfl) rfl (fun b1 => ?_)
 refine Lx.y (asg rfl) rfl <| Lx.nil <| ?_
 refine Xx.tn (k1 _ _ _ _ ?_)
 refine Cq (fun K2 k2 => ?_)
 refine Cr <| Lx.y (asg rfl) rfl <| Lx.nil <| ?_
 refine Xx.tn (k2 _ _ _ _ ?_)
 refine Cq (fun K3 k3 => ?_)
 refine Cq (fun K4 k4 => ?_)
 refine Cr <| Lx.y (fa' fo25_3 rfl) rfl <| Lx.y (ld U23 rfl rfl rfl) rfl <| Lx.y (lenV (ty' := 0) U23 rfl) rfl <| Lx.y (mv rfl) rfl <| Lx.nil <| ?_
 refine Xx.tn (k4 _ _ _ _ ?_)
 refine Cx.block ?_
 refine Cx.loopK (Sc 0 rfl (Sc 1 rfl (Sc 2 rfl (Sc 6 rfl (Sc 7 rfl (Sc 8 rfl (Sub.nil _))))))) (fun m ρ' B' H' => ∃ (i : Nat) (A2 : Option Addr) (c2 : Nat), (i ≤ bm.b.revs.length) ∧ m = bm.b.revs.length - i ∧ ρ' = [(3, .slice A2 (bodT bm.b.revs i).length c2), (9, i64 (i : Int))] ∧ B = B' ∧ sbuf 3 1 A2 (bodT bm.b.revs i).length c2 (((bodT bm.b.revs i)).map fun k : Nat => i64 (k : Int)) * (row b1 25 (bmc bm) * R) = H') ⟨0, none, 0, Nat.zero_le _, rfl, rfl, rfl, (by show sbuf 3 1 none 0 0 [] * _ = _; rw [sbuf_nil, one_star])⟩ (Sc 3 rfl (Sc 9 rfl (Sc 0 rfl (Sc 1 rfl (Sc 2 rfl (Sc 6 rfl (Sc 7 rfl (Sc 8 rfl (Sub.nil _))))))))) ?_
 rintro m ρ' B' H' ⟨i, A2, c2, hi, rfl, rfl, rfl, rfl⟩
 refine Cq (fun K5 k5 => ?_)
 refine Cr <| Lx.y (lss rfl rfl) rfl <| Lx.nil <| ?_
 refine Xx.tn (k5 _ _ _ _ ?_)
 refine Cq (fun K6 k6 => ?_)
 refine Cx.condD rfl (fun h7 => ?_) (fun h7 => ?_)
 ·
  have hlt := h7
  have hlt : i < bm.b.revs.length := by omega
  obtain ⟨b9, o9, cs9, et9, fz9, hA9, hB9, hc9⟩ := flat_at rvc_len (hR (by omega)) hlt
  have hpb := pB_at hlt
  have hbl := bodT_len bm.b.revs i
  refine Cx.skip ?_
  refine Xx.tn (k6 _ _ _ _ ?_)
  refine Cq (fun K8 k8 => ?_)
  refine Cx.block ?_
  refine Cq (fun K9 k9 => ?_)
  refine Cr <| Lx.y (mv rfl) rfl <| Lx.y (Yx.val (ia (b := b9) (o := o9) U23 sz40 (by rw [← hA9]; rfl) rfl (Int.toNat_natCast _) (by omega) (by omega)) rfl) rfl <| Lx.y (ldA U40 rfl sz40 rfl (Cells.base hB9 hc9) rfl) rfl <| ?_
  refine Lx.new (allocO ti40) rfl (fun b5 => ?_)
  refine Lx.y (asg rfl) rfl ?_
  refine Lx.st (stA (d := .bool) sz40 rfl rfl rfl rfl (by show 0 + 8 ≤ 8; omega) rfl) ?_
  refine Lx.nil ?_
  refine Xx.tn (k9 _ _ _ _ ?_)
  refine Cq (fun K10 k10 => ?_)
  refine Cr <| Lx.y (fa' fo40_0 rfl) rfl <| Lx.y (ld U3 rfl rfl rfl) rfl <| Lx.y (eqI rfl rfl) rfl <| Lx.y (mv rfl) rfl <| ?_
  refine Xx.ifD (t := 17) rfl (fun h11 => ?_) (fun h11 => ?_)
  ·
   have g := h11
   have hbT := bodT_yes (hpb.trans (bodB_iff.2 (.inl g)))
   refine Lx.gF rfl rfl rfl rfl <| Lx.gF rfl rfl rfl rfl <| Lx.gF rfl rfl rfl rfl <| Lx.y (pickT rfl rfl) rfl <| Lx.nil <| ?_
   refine Xx.tn (k10 _ _ _ _ ?_)
   refine Cx.condT rfl <| Cr <| Lx.y (mv rfl) rfl <| Lx.y (mv rfl) rfl <| ?_
   refine Lx.bsl (bsl1 U26 ti3 rfl rfl rfl (by decide)) rfl (fun bv => ?_)
   refine Lx.o (appN (et := 3) (A := A2) ((bodT bm.b.revs i).length + 1) [i64 (i : Int)] (((bodT bm.b.revs i) ++ [i]).map fun k : Nat => i64 (k : Int)) U26 U26 ti3 rfl rfl rfl rfl rfl (by omega) (by omega) rfl (by rw [List.map_append]; rfl)) rfl (fun v B' H' hΦ hB => ?_)
   obtain ⟨A3, c3, rfl, hA3, hl3, hc3, hBB, rfl⟩ := hΦ
   have hBB2 := hBB.symm
   subst hBB2
   refine Xx.dropB bv ?_
   clear hB
   refine Lx.y (asg rfl) rfl <| Lx.nil <| Xx.bn <| ?_
   refine Xx.tn (k8 _ _ _ _ ?_)
   refine Cr <| Lx.y (Yx.val (add rfl rfl (by first | exact wrap64 (by omega) (by omega) | rfl)) (show _ = i64 ((i + 1 : Nat) : Int) from rfl)) rfl <| Lx.y (mv rfl) rfl <| Lx.nil <| ?_
   refine Xx.dropB b5 ?_
   exact Xx.againK ⟨i + 1, A3, c3, hlt, rfl, rfl, rfl, (by rw [hbT, List.length_append, List.length_singleton])⟩ (by omega) (Sub.consE (s := 3) rfl (by rw [hbT, List.length_append, List.length_singleton]) (Sc 9 rfl (Sc 0 rfl (Sc 1 rfl (Sc 2 rfl (Sc 6 rfl (Sc 7 rfl (Sc 8 rfl (Sub.nil _)))))))))
  ·
   have g := h11
   refine Lx.gT rfl rfl rfl <| Lx.y (fa' fo40_0 rfl) rfl <| Lx.gT rfl rfl rfl <| Lx.y (ld U3 rfl rfl rfl) rfl <| Lx.gT rfl rfl rfl <| Lx.y (eqI rfl rfl) rfl <| Lx.y (pickF rfl rfl) rfl <| Lx.nil <| ?_
   refine Xx.tn (k10 _ _ _ _ ?_)
   refine Cx.condD rfl (fun h12 => ?_) (fun h12 => ?_)
   ·
    have g2 := h12
    have hbT := bodT_yes (hpb.trans (bodB_iff.2 (.inr g2)))
    refine Cr <| Lx.y (mv rfl) rfl <| Lx.y (mv rfl) rfl <| ?_
    refine Lx.bsl (bsl1 U26 ti3 rfl rfl rfl (by decide)) rfl (fun bv => ?_)
    refine Lx.o (appN (et := 3) (A := A2) ((bodT bm.b.revs i).length + 1) [i64 (i : Int)] (((bodT bm.b.revs i) ++ [i]).map fun k : Nat => i64 (k : Int)) U26 U26 ti3 rfl rfl rfl rfl rfl (by omega) (by omega) rfl (by rw [List.map_append]; rfl)) rfl (fun v B' H' hΦ hB => ?_)
    obtain ⟨A3, c3, rfl, hA3, hl3, hc3, hBB, rfl⟩ := hΦ
    have hBB2 := hBB.symm
    subst hBB2
    refine Xx.dropB bv ?_
    clear hB
    refine Lx.y (asg rfl) rfl <| Lx.nil <| Xx.bn <| ?_
    refine Xx.tn (k8 _ _ _ _ ?_)
    refine Cr <| Lx.y (Yx.val (add rfl rfl (by first | exact wrap64 (by omega) (by omega) | rfl)) (show _ = i64 ((i + 1 : Nat) : Int) from rfl)) rfl <| Lx.y (mv rfl) rfl <| Lx.nil <| ?_
    refine Xx.dropB b5 ?_
    exact Xx.againK ⟨i + 1, A3, c3, hlt, rfl, rfl, rfl, (by rw [hbT, List.length_append, List.length_singleton])⟩ (by omega) (Sub.consE (s := 3) rfl (by rw [hbT, List.length_append, List.length_singleton]) (Sc 9 rfl (Sc 0 rfl (Sc 1 rfl (Sc 2 rfl (Sc 6 rfl (Sc 7 rfl (Sc 8 rfl (Sub.nil _)))))))))
   ·
    have g2 := h12
    have hbT := bodT_no (fun e => (bodB_iff.1 (hpb.symm.trans e)).elim g g2)
    refine Cx.skip <| Xx.bn <| ?_
    refine Xx.tn (k8 _ _ _ _ ?_)
    refine Cr <| Lx.y (Yx.val (add rfl rfl (by first | exact wrap64 (by omega) (by omega) | rfl)) (show _ = i64 ((i + 1 : Nat) : Int) from rfl)) rfl <| Lx.y (mv rfl) rfl <| Lx.nil <| ?_
    refine Xx.dropB b5 ?_
    exact Xx.againK ⟨i + 1, A2, c2, hlt, rfl, rfl, rfl, (by rw [hbT])⟩ (by omega) (Sub.consE (s := 3) rfl (by rw [hbT]) (Sc 9 rfl (Sc 0 rfl (Sc 1 rfl (Sc 2 rfl (Sc 6 rfl (Sc 7 rfl (Sc 8 rfl (Sub.nil _)))))))))
 ·
  have hge := h7
  obtain rfl : i = bm.b.revs.length := by omega
  rw [bodT_all]
  refine Cx.exit <| Xx.te <| Xx.te <| Xx.bh <| ?_
  refine Xx.tn (k3 _ _ _ _ ?_)
  refine Cq (fun K13 k13 => ?_)
  refine Cr <| Lx.y (mv rfl) rfl <| Lx.y (asg rfl) rfl <| Lx.nil <| ?_
  refine Xx.tn (k13 _ _ _ _ ?_)
  refine Cx.ret ?_
  refine Xx.freezeT A2 fun B3 hB3 hRo hnc _ => ?_
  refine Xx.dropB b1 ?_
  exact Xx.rB1 rfl rfl ⟨A2, c2, rfl, hRo⟩ hB3 rfl
end VhW
end Go.Proofs.YthlfffbcligocaaGreat
namespace Go.Proofs.YthlfffbcligocaaGreat
open Go.SL Go.RowKit
set_option maxRecDepth 100000
open VhA VhB VhC VhD VhE VhF VhG VhH VhI VhJ VhK VhL VhM VhN VhO VhP VhQ VhR VhS VhT VhU VhV VhW
namespace VhX
theorem sz3 : (Tryz.prog.info? 3).map (·.size) = some 1 := by kernel_rfl
theorem sz4 : (Tryz.prog.info? 4).map (·.size) = some 1 := by kernel_rfl
theorem sz5 : (Tryz.prog.info? 5).map (·.size) = some 1 := by kernel_rfl
theorem sz9 : (Tryz.prog.info? 9).map (·.size) = some 1 := by kernel_rfl
theorem sz22 : (Tryz.prog.info? 22).map (·.size) = some 1 := by kernel_rfl
theorem sz23 : (Tryz.prog.info? 23).map (·.size) = some 1 := by kernel_rfl
theorem sz25 : (Tryz.prog.info? 25).map (·.size) = some 4 := by kernel_rfl
theorem sz40 : (Tryz.prog.info? 40).map (·.size) = some 8 := by kernel_rfl
theorem ti25 : TI Tryz.prog 25 [.int .u64 0, str [], .int .u64 0, .slice none 0 0] 4 56 := TI.of (by kernel_rfl) rfl rfl
theorem ti40 : TI Tryz.prog 40 [.int .i64 0, str [], str [], .int .u64 0, .int .u64 0, str [], str [], .bool false] 8 96 := TI.of (by kernel_rfl) rfl rfl
theorem fo25_3 : FO Tryz.prog 25 3 3 1 false := FO.of U25 rfl rfl (by kernel_rfl) U23 rfl rfl
theorem fo40_0 : FO Tryz.prog 40 0 0 1 false := FO.of U40 rfl rfl (by kernel_rfl) U3 rfl rfl
theorem fo40_1 : FO Tryz.prog 40 1 1 1 false := FO.of U40 rfl rfl (by kernel_rfl) U9 rfl rfl
theorem fo40_2 : FO Tryz.prog 40 2 2 1 false := FO.of U40 rfl rfl (by kernel_rfl) U9 rfl rfl
theorem fo40_3 : FO Tryz.prog 40 3 3 1 false := FO.of U40 rfl rfl (by kernel_rfl) U22 rfl rfl
theorem fo40_4 : FO Tryz.prog 40 4 4 1 false := FO.of U40 rfl rfl (by kernel_rfl) U22 rfl rfl
theorem fo40_5 : FO Tryz.prog 40 5 5 1 false := FO.of U40 rfl rfl (by kernel_rfl) U9 rfl rfl
theorem fo40_7 : FO Tryz.prog 40 7 7 1 false := FO.of U40 rfl rfl (by kernel_rfl) U4 rfl rfl
theorem pl25 : PL Tryz.prog 25 [(0, 1), (1, 1), (2, 1), (3, 1)] := PL.of U25 (by kernel_rfl)
theorem pl40 : PL Tryz.prog 40 [(0, 1), (1, 1), (2, 1), (3, 1), (4, 1), (5, 1), (6, 1), (7, 1)] := PL.of U40 (by kernel_rfl)
theorem bytes_le (c : Cu) (k : Nat) : (c.bytes k).2.length ≤ c.s.length := by
  unfold Cu.bytes
  split
  · exact Nat.zero_le _
  · split
    · exact Nat.zero_le _
    · show ((c.s.drop c.at').take k).length ≤ _
      rw [List.length_take, List.length_drop]; omega
theorem text_le (c : Cu) (k : Nat) : (c.text k).2.length ≤ c.s.length := by
  have h := bytes_le (c.count k).1 (c.count k).2
  rw [c.count_s] at h
  exact h
def RvLe (n : Nat) (r : Rv) : Prop := r.body.length ≤ n ∧ r.hash.length ≤ n ∧ r.tab.length ≤ n ∧ r.fld.length ≤ n
theorem take_s (c : Cu) : (takeRv c).1.s = c.s := by unfold takeRv; simp only [Cu.text_s, Cu.uint_s, Cu.bytes_s]
theorem take_ok {c : Cu} (h : c.ok) : (takeRv c).1.ok := Cu.text_ok (Cu.uint_ok (Cu.uint_ok (Cu.text_ok (Cu.text_ok (Cu.bytes_ok h 1) 16) 16))) 32
theorem take_le (c : Cu) : RvLe c.s.length (takeRv c).2 := by
  refine ⟨Nat.zero_le _, ?_, ?_, ?_⟩
  · have h := text_le ((((c.bytes 1).1.text 16).1.text 16).1.uint.1.uint.1) 32
    simp only [Cu.text_s, Cu.uint_s, Cu.bytes_s] at h; exact h
  · have h := text_le (c.bytes 1).1 16
    simp only [Cu.bytes_s] at h; exact h
  · have h := text_le ((c.bytes 1).1.text 16).1 16
    simp only [Cu.text_s, Cu.bytes_s] at h; exact h
theorem rd_zero {s : List UInt8} (h : ¬ (rdB s).1.fin.e = 0) : readB s = (zeroB, (rdB s).1.fin.e) := by unfold readB; rw [if_pos h]
theorem rd_bad {s : List UInt8} {i : Nat} (h : (rdB s).1.fin.e = 0) (hi : i < (rdB s).2.length) (hk : ¬ okR (rdB s).2[i] = true) : readB s = (zeroB, 6) := by
  unfold readB; rw [if_neg (fun e => e h), if_neg fun e => hk (List.all_eq_true.1 e _ (List.getElem_mem hi))]
theorem rd_ok {s : List UInt8} (h : (rdB s).1.fin.e = 0) (hk : ∀ j (hj : j < (rdB s).2.length), okR (rdB s).2[j] = true) : readB s = (⟨BitVec.ofNat 64 (⟨s, 0, 0⟩ : Cu).uint.2, ((⟨s, 0, 0⟩ : Cu).uint.1.text 32).2, BitVec.ofNat 64 ((⟨s, 0, 0⟩ : Cu).uint.1.text 32).1.uint.2, (rdB s).2⟩, 0) := by
  unfold readB
  rw [if_neg (fun e => e h), if_pos (List.all_eq_true.2 fun r hr => by obtain ⟨j, hj, rfl⟩ := List.getElem_of_mem hr; exact hk j hj)]
  rfl
set_option maxHeartbeats 4000000 in
theorem takeRev_ct (c : Cu) (b : Nat) (B : Frag) (h : c.ok) : CtC Tryz.prog 165 [.pointer (some ⟨b, 0, none⟩)] B (crow b c) (.agg (rvc (takeRv c).2).toArray) (crow b (takeRv c).1) := by
 have q1 := Cu.bytes_ok h 1
 have q2 := Cu.text_ok q1 16
 have q3 := Cu.text_ok q2 16
 have q4 := Cu.uint_ok q3
 have q5 := Cu.uint_ok q4
 refine Ct.of_body Tryz.func165 rfl (nt := 31) rfl (by kernel_rfl) rfl ?_
 intro N0 w0 R
 refine Cq (fun K1 k1 => ?_)
 refine Cr ?_
 refine Lx.new (allocO ti40) rfl (fun br => ?_)
 refine Lx.nil ?_
 refine Xx.tn (k1 _ _ _ _ ?_)
 refine Cq (fun K2 k2 => ?_)
 refine Cr <| Lx.y (mv rfl) rfl <| ?_
 refine Lx.co rfl rfl rfl (Bytes_ct c b _ 1 h (by decide)) (Pick.eq) rfl ?_
 refine Lx.y (asg rfl) rfl <| Lx.nil <| ?_
 refine Xx.tn (k2 _ _ _ _ ?_)
 refine Cq (fun K3 k3 => ?_)
 refine Cr <| Lx.y (bld ti40 pl40 rfl rfl) rfl <| ?_
 refine Lx.new (allocO ti40) rfl (fun b4 => ?_)
 refine Lx.st (stA (d := .bool) sz40 rfl rfl rfl rfl (by show 0 + 8 ≤ 8; omega) rfl) ?_
 refine Lx.nil ?_
 refine Xx.tn (k3 _ _ _ _ ?_)
 refine Cx.cutK (ds' := []) (Sc 0 rfl (Sc 2 rfl (Sc 3 rfl (Sc 4 rfl (Sc 5 rfl (Sc 6 rfl (Sc 7 rfl (Sub.nil _)))))))) (fun ρ' B' H' => ρ' = [] ∧ B = B' ∧ row b4 40 [i64 (if (c.bytes 1).1.e = 0 then (((c.bytes 1).2.getD 0 0).toNat : Int) else 0), str [], str [], .int .u64 0, .int .u64 0, str [], str [], .bool false] * (crow b (c.bytes 1).1 * (row br 40 [i64 0, str [], str [], .int .u64 0, .int .u64 0, str [], str [], .bool false] * R)) = H') ?_ ?_
 ·
  refine Cq (fun K4 k4 => ?_)
  refine Cr <| Lx.y (mv rfl) rfl <| ?_
  refine Lx.co rfl rfl rfl (Err_ct (c.bytes 1).1 b _) (Pick.eq) rfl ?_
  refine Lx.y (eqI rfl rfl) rfl <| Lx.nil <| ?_
  refine Xx.tn (k4 _ _ _ _ ?_)
  refine Cx.condD rfl (fun h5 => ?_) (fun h5 => ?_)
  ·
   have he := h5
   have hl := Cu.bytes_len he
   have hbt := ((c.bytes 1).2.getD 0 0).toNat_lt
   refine Cr <| Lx.y (mv rfl) rfl <| Lx.y (ixS U9 rfl rfl (show Int.toNat _ = 0 from rfl) (by omega) (by omega)) rfl <| Lx.y (cvI rfl U5 U3 (wrap64 (by omega) (by omega))) rfl <| Lx.y (fa' fo40_0 rfl) rfl <| ?_
   refine Lx.st (stO U3 sz3 rfl rfl rfl (by show 0 < 8; omega) rfl) ?_
   refine Lx.nil ?_
   exact Xx.mkK (⟨rfl, rfl, by first | (rw [if_pos he]; ac_rfl) | rw [if_pos he]⟩) (Sc 0 rfl (Sc 2 rfl (Sc 3 rfl (Sc 4 rfl (Sc 5 rfl (Sc 6 rfl (Sc 7 rfl (Sub.nil _))))))))
  ·
   have he := h5
   refine Cx.skip ?_
   exact Xx.mkK (⟨rfl, rfl, by first | (rw [if_neg he]; ac_rfl) | rw [if_neg he]⟩) (Sc 0 rfl (Sc 2 rfl (Sc 3 rfl (Sc 4 rfl (Sc 5 rfl (Sc 6 rfl (Sc 7 rfl (Sub.nil _))))))))
 ·rintro ρ' B' H' ⟨rfl, rfl, rfl⟩
  refine Cq (fun K6 k6 => ?_)
  refine Cr <| Lx.y (mv rfl) rfl <| ?_
  refine Lx.co rfl rfl rfl (Text_ct (c.bytes 1).1 b _ 16 q1 (by decide)) (Pick.eq) rfl ?_
  refine Lx.y (mv rfl) rfl ?_
  refine Lx.co rfl rfl rfl (Text_ct ((c.bytes 1).1.text 16).1 b _ 16 q2 (by decide)) (Pick.eq) rfl ?_
  refine Lx.y (fa' fo40_1 rfl) rfl ?_
  refine Lx.st (stO U9 sz9 rfl rfl rfl (by show 1 < 8; omega) rfl) ?_
  refine Lx.y (fa' fo40_2 rfl) rfl ?_
  refine Lx.st (stO U9 sz9 rfl rfl rfl (by show 2 < 8; omega) rfl) ?_
  refine Lx.nil ?_
  refine Xx.tn (k6 _ _ _ _ ?_)
  refine Cq (fun K7 k7 => ?_)
  refine Cr <| Lx.y (mv rfl) rfl <| ?_
  refine Lx.co rfl rfl rfl (Uint_ct (((c.bytes 1).1.text 16).1.text 16).1 b _ q3) (Pick.eq) rfl ?_
  refine Lx.y (mv rfl) rfl ?_
  refine Lx.co rfl rfl rfl (Uint_ct (((c.bytes 1).1.text 16).1.text 16).1.uint.1 b _ q4) (Pick.eq) rfl ?_
  refine Lx.y (fa' fo40_3 rfl) rfl ?_
  refine Lx.st (stO U22 sz22 rfl rfl rfl (by show 3 < 8; omega) rfl) ?_
  refine Lx.y (fa' fo40_4 rfl) rfl ?_
  refine Lx.st (stO U22 sz22 rfl rfl rfl (by show 4 < 8; omega) rfl) ?_
  refine Lx.nil ?_
  refine Xx.tn (k7 _ _ _ _ ?_)
  refine Cq (fun K8 k8 => ?_)
  refine Cr <| Lx.y (mv rfl) rfl <| ?_
  refine Lx.co rfl rfl rfl (Text_ct (((c.bytes 1).1.text 16).1.text 16).1.uint.1.uint.1 b _ 32 q5 (by decide)) (Pick.eq) rfl ?_
  refine Lx.y (fa' fo40_5 rfl) rfl ?_
  refine Lx.st (stO U9 sz9 rfl rfl rfl (by show 5 < 8; omega) rfl) ?_
  refine Lx.nil ?_
  refine Xx.tn (k8 _ _ _ _ ?_)
  refine Cq (fun K9 k9 => ?_)
  refine Cr <| Lx.y (ldA U40 rfl sz40 rfl (Co (n := 8) Pe rfl) rfl) rfl <| ?_
  refine Lx.st (stA (d := .bool) sz40 rfl rfl rfl rfl (by show 0 + 8 ≤ 8; omega) rfl) ?_
  refine Lx.nil ?_
  refine Xx.tn (k9 _ _ _ _ ?_)
  refine Cx.ret ?_
  refine Xx.dropB b4 ?_
  exact Xx.retA rfl U40 rfl sz40 rfl rfl ⟨rfl, rfl, rfl⟩ (Fl _) (by ac_rfl)
set_option maxHeartbeats 8000000 in
theorem Read_ct (s : List UInt8) (B : Frag) (hs : s.length ≤ 1000000) : CtB Tryz.prog 139 [str s] B (fun v B' => ∃ A c, v = .tuple #[.agg (bmc ⟨(readB s).1, A, c⟩).toArray, i64 (readB s).2] ∧ Bm.ro B' ⟨(readB s).1, A, c⟩) := by
 have q0 : (⟨s, 0, 0⟩ : Cu).ok := ⟨Nat.zero_le _, by show s.length ≤ _; omega⟩
 have q1 := Cu.uint_ok q0
 have q2 := Cu.text_ok q1 32
 have q3 := Cu.uint_ok q2
 have q4 := Cu.count_ok q3 64
 have q5 : (((⟨s, 0, 0⟩ : Cu).uint.1.text 32).1.uint.1.count 64).1.s = s := by simp only [Cu.count_s, Cu.text_s, Cu.uint_s]
 have q6 : (((⟨s, 0, 0⟩ : Cu).uint.1.text 32).1.uint.1.count 64).2 ≤ 64 := by
  unfold Cu.count
  split
  ·exact Nat.zero_le _
  ·show (if _ then _ else _) ≤ _
   split
   ·exact Nat.zero_le _
   ·rename_i h3; exact cnt_err (by simpa using h3)
 have hrd0 : rdB s = readRvs (((⟨s, 0, 0⟩ : Cu).uint.1.text 32).1.uint.1.count 64).2 (((⟨s, 0, 0⟩ : Cu).uint.1.text 32).1.uint.1.count 64).1 [] := rfl
 refine CtB.of_body Tryz.func139 rfl (nt := 65) rfl (by kernel_rfl) rfl ?_
 intro N0 w0 R
 refine Cq (fun K1 k1 => ?_)
 refine Cr ?_
 refine Lx.new (allocO ti25) rfl (fun br => ?_)
 refine Lx.y (asg rfl) rfl <| Lx.nil <| ?_
 refine Xx.tn (k1 _ _ _ _ ?_)
 refine Cq (fun K2 k2 => ?_)
 refine Cr <| Lx.y (mv rfl) rfl <| ?_
 refine Lx.c rfl rfl rfl (At_ct s _) ((one_star _).symm) rfl ?_
 rintro v1 B1 H1 ⟨b, rfl, hBB, rfl⟩ hB1
 have hBB2 := hBB.symm
 subst hBB2
 clear hB1
 refine Lx.y (asg rfl) rfl <| Lx.nil <| ?_
 refine Xx.tn (k2 _ _ _ _ ?_)
 refine Cq (fun K3 k3 => ?_)
 refine Cr <| Lx.y (mv rfl) rfl <| ?_
 refine Lx.co rfl rfl rfl (Uint_ct (⟨s, 0, 0⟩ : Cu) b _ q0) (Pick.eq) rfl ?_
 refine Lx.y (mv rfl) rfl ?_
 refine Lx.co rfl rfl rfl (Text_ct (⟨s, 0, 0⟩ : Cu).uint.1 b _ 32 q1 (by decide)) (Pick.eq) rfl ?_
 refine Lx.y (mv rfl) rfl ?_
 refine Lx.co rfl rfl rfl (Uint_ct ((⟨s, 0, 0⟩ : Cu).uint.1.text 32).1 b _ q2) (Pick.eq) rfl ?_
 refine Lx.y (bld ti25 pl25 rfl rfl) rfl ?_
 refine Lx.new (allocO ti25) rfl (fun b5 => ?_)
 refine Lx.st (stA (d := .bool) sz25 rfl rfl rfl rfl (by show 0 + 4 ≤ 4; omega) rfl) ?_
 refine Lx.nil ?_
 refine Xx.tn (k3 _ _ _ _ ?_)
 refine Cx.cutK (ds' := []) (Sc 0 rfl (Sc 2 rfl (Sc 3 rfl (Sc 4 rfl (Sc 5 rfl (Sc 12 rfl (Sc 13 rfl (Sc 14 rfl (Sc 15 rfl (Sc 16 rfl (Sc 17 rfl (Sc 18 rfl (Sc 19 rfl (Sc 20 rfl (Sub.nil _))))))))))))))) (fun ρ' B' H' => ∃ (c : Cu) (l : List Rv) (A : Option Addr) (c2 : Nat), ρ' = [] ∧ B = B' ∧ crow b c * (sbuf 40 8 A l.length c2 (l.flatMap rvc) * (row b5 25 [u64 (BitVec.ofNat 64 (⟨s, 0, 0⟩ : Cu).uint.2), str ((⟨s, 0, 0⟩ : Cu).uint.1.text 32).2, u64 (BitVec.ofNat 64 ((⟨s, 0, 0⟩ : Cu).uint.1.text 32).1.uint.2), .slice A l.length c2] * (row br 25 [u64 0#64, str [], u64 0#64, .slice none 0 0] * R))) = H' ∧ rdB s = (c, l) ∧ c.ok ∧ l.length ≤ 64 ∧ ∀ r ∈ l, RvLe s.length r) ?_ ?_
 ·
  refine Cq (fun K4 k4 => ?_)
  refine Cr <| Lx.y (mv rfl) rfl <| ?_
  refine Lx.co rfl rfl rfl (Count_ct ((⟨s, 0, 0⟩ : Cu).uint.1.text 32).1.uint.1 b _ 64 q3 (by decide)) (Pick.eq) rfl ?_
  refine Lx.y (asg rfl) rfl <| Lx.nil <| ?_
  refine Xx.tn (k4 _ _ _ _ ?_)
  refine Cx.block ?_
  refine Cx.loopK (Sc 0 rfl (Sc 2 rfl (Sc 3 rfl (Sc 4 rfl (Sc 5 rfl (Sc 12 rfl (Sc 13 rfl (Sc 14 rfl (Sc 15 rfl (Sc 16 rfl (Sc 17 rfl (Sc 18 rfl (Sc 19 rfl (Sc 20 rfl (Sc 21 rfl (Sc 22 rfl (Sub.nil _))))))))))))))))) (fun m ρ' B' H' => ∃ (k : Nat) (c : Cu) (l : List Rv) (A : Option Addr) (c2 : Nat), (rdB s = readRvs k c l ∧ c.ok ∧ c.s = s ∧ l.length + k ≤ 64 ∧ ∀ r ∈ l, RvLe s.length r) ∧ m = k * 1 ∧ ρ' = [(6, i64 (k : Int))] ∧ B = B' ∧ crow b c * (sbuf 40 8 A l.length c2 (l.flatMap rvc) * (row b5 25 [u64 (BitVec.ofNat 64 (⟨s, 0, 0⟩ : Cu).uint.2), str ((⟨s, 0, 0⟩ : Cu).uint.1.text 32).2, u64 (BitVec.ofNat 64 ((⟨s, 0, 0⟩ : Cu).uint.1.text 32).1.uint.2), .slice A l.length c2] * (row br 25 [u64 0#64, str [], u64 0#64, .slice none 0 0] * R))) = H') ⟨(((⟨s, 0, 0⟩ : Cu).uint.1.text 32).1.uint.1.count 64).2, (((⟨s, 0, 0⟩ : Cu).uint.1.text 32).1.uint.1.count 64).1, [], none, 0, ⟨hrd0, q4, q5, by simpa using q6, fun r hr => by cases hr⟩, rfl, rfl, rfl, by show _ * (sbuf 40 8 none 0 0 [] * _) = _; rw [sbuf_nil, one_star]; ac_rfl⟩ (Sc 6 rfl (Sc 0 rfl (Sc 2 rfl (Sc 3 rfl (Sc 4 rfl (Sc 5 rfl (Sc 12 rfl (Sc 13 rfl (Sc 14 rfl (Sc 15 rfl (Sc 16 rfl (Sc 17 rfl (Sc 18 rfl (Sc 19 rfl (Sc 20 rfl (Sc 21 rfl (Sc 22 rfl (Sub.nil _)))))))))))))))))) ?_
  rintro m ρ' B' H' ⟨k, c, l, A, c2, ⟨hrd, hcok, hcs, hlk, hle⟩, rfl, rfl, rfl, rfl⟩
  refine Cq (fun K5 k5 => ?_)
  refine Cq (fun K6 k6 => ?_)
  refine Cr <| Lx.y (mv rfl) rfl <| Lx.y (gtr rfl rfl) rfl <| Lx.y (mv rfl) rfl <| ?_
  refine Xx.ifD (t := 25) rfl (fun h7 => ?_) (fun h7 => ?_)
  ·
   have hk0 := h7
   obtain ⟨k, rfl⟩ : ∃ j, k = j + 1 := ⟨k - 1, by omega⟩
   refine Lx.gT rfl rfl rfl <| Lx.y (mv rfl) rfl <| Lx.gT rfl rfl rfl <| ?_
   refine Lx.co rfl rfl rfl (Err_ct c b _) (Pick.eq) rfl ?_
   refine Lx.gT rfl rfl rfl <| Lx.y (eqI rfl rfl) rfl <| Lx.y (pickT rfl rfl) rfl <| Lx.nil <| ?_
   refine Xx.tn (k6 _ _ _ _ ?_)
   refine Cx.condD rfl (fun h8 => ?_) (fun h8 => ?_)
   ·
    have he := h8
    have hrd2 : rdB s = readRvs k (takeRv c).1 (l ++ [{ (takeRv c).2 with gone := bodB (takeRv c).2.op }]) := by rw [hrd, readRvs, if_neg (fun e => e he)]
    refine Cx.skip ?_
    refine Xx.tn (k5 _ _ _ _ ?_)
    refine Cq (fun K9 k9 => ?_)
    refine Cx.block ?_
    refine Cq (fun K10 k10 => ?_)
    refine Cr <| Lx.y (mv rfl) rfl <| ?_
    refine Lx.co rfl rfl rfl (takeRev_ct c b _ hcok) (Pick.eq) rfl ?_
    refine Lx.new (allocO ti40) rfl (fun b7 => ?_)
    refine Lx.st (stA (d := .bool) sz40 rfl rfl rfl rfl (by show 0 + 8 ≤ 8; omega) rfl) ?_
    refine Lx.nil ?_
    refine Xx.tn (k10 _ _ _ _ ?_)
    refine Cq (fun K11 k11 => ?_)
    refine Cr <| Lx.y (fa' fo40_0 rfl) rfl <| Lx.y (ld U3 rfl rfl rfl) rfl <| ?_
    refine Lx.cp rfl rfl rfl (bodied_ct (takeRv c).2.op _) rfl ?_
    refine Lx.y (fa' fo40_7 rfl) rfl ?_
    refine Lx.st (stO U4 sz4 rfl rfl rfl (by show 7 < 8; omega) rfl) ?_
    refine Lx.nil ?_
    refine Xx.tn (k11 _ _ _ _ ?_)
    refine Cr <| Lx.y (fa' fo25_3 rfl) rfl <| Lx.y (ld U23 rfl rfl rfl) rfl <| Lx.y (ldA U40 rfl sz40 rfl (Co (n := 8) (vs := rvc { (takeRv c).2 with gone := bodB (takeRv c).2.op }) Pe rfl) rfl) rfl <| ?_
    refine Lx.bsl (bslA U23 ti40 rfl rfl (by decide)) rfl (fun bv => ?_)
    refine Lx.o (appN (et := 40) (A := A) (l.length + 1) (rvc { (takeRv c).2 with gone := bodB (takeRv c).2.op }) ((l ++ [{ (takeRv c).2 with gone := bodB (takeRv c).2.op }]).flatMap rvc) U23 U23 ti40 rfl rfl rfl rfl rfl (by omega) (by omega) rfl (by simp only [List.flatMap_append, List.flatMap_cons, List.flatMap_nil, List.append_nil])) rfl (fun v B' H' hΦ hB => ?_)
    obtain ⟨A2, c3, rfl, hA2, hl2, hc3, hBB, rfl⟩ := hΦ
    have hBB2 := hBB.symm
    subst hBB2
    refine Xx.dropB bv ?_
    clear hB
    refine Lx.y (fa' fo25_3 rfl) rfl ?_
    refine Lx.st (stO U23 sz23 rfl rfl rfl (by show 3 < 4; omega) rfl) ?_
    refine Lx.nil <| Xx.bn <| ?_
    refine Xx.tn (k9 _ _ _ _ ?_)
    refine Cr <| Lx.y (mv rfl) rfl <| Lx.y (sub rfl rfl (show IntKind.i64.wrap _ = ((k : Nat) : Int) from (wrap64 (by omega) (by omega)).trans (by omega))) rfl <| Lx.y (asg rfl) rfl <| Lx.nil <| ?_
    refine Xx.dropB b7 ?_
    exact Xx.againK ⟨k, (takeRv c).1, l ++ [{ (takeRv c).2 with gone := bodB (takeRv c).2.op }], A2, c3, ⟨hrd2, take_ok hcok, (take_s c).trans hcs, by rw [List.length_append, List.length_singleton]; omega, fun r hr => (List.mem_append.1 hr).elim (hle r) fun e => by rw [List.mem_singleton.1 e]; have h9 := take_le c; rw [hcs] at h9; exact h9⟩, rfl, rfl, rfl, (by rw [List.length_append, List.length_singleton]; ac_rfl)⟩ (by omega) (Sc 6 rfl (Sc 0 rfl (Sc 2 rfl (Sc 3 rfl (Sc 4 rfl (Sc 5 rfl (Sc 12 rfl (Sc 13 rfl (Sc 14 rfl (Sc 15 rfl (Sc 16 rfl (Sc 17 rfl (Sc 18 rfl (Sc 19 rfl (Sc 20 rfl (Sc 21 rfl (Sc 22 rfl (Sub.nil _))))))))))))))))))
   ·
    have he := h8
    have hrd3 : rdB s = (c, l) := by rw [hrd, readRvs, if_pos he]
    refine Cx.exit <| Xx.te <| Xx.te <| Xx.bh <| ?_
    exact Xx.mkK (⟨c, l, A, c2, rfl, rfl, by ac_rfl, hrd3, hcok, by omega, hle⟩) (Sc 0 rfl (Sc 2 rfl (Sc 3 rfl (Sc 4 rfl (Sc 5 rfl (Sc 12 rfl (Sc 13 rfl (Sc 14 rfl (Sc 15 rfl (Sc 16 rfl (Sc 17 rfl (Sc 18 rfl (Sc 19 rfl (Sc 20 rfl (Sub.nil _)))))))))))))))
  ·
   have hk0 := h7
   obtain rfl : k = 0 := by omega
   have hrd3 : rdB s = (c, l) := hrd
   refine Lx.gF rfl rfl rfl rfl <| Lx.gF rfl rfl rfl rfl <| Lx.gF rfl rfl rfl rfl <| Lx.y (pickF rfl rfl) rfl <| Lx.nil <| ?_
   refine Xx.tn (k6 _ _ _ _ ?_)
   refine Cx.condF rfl <| Cx.exit <| Xx.te <| Xx.te <| Xx.bh <| ?_
   exact Xx.mkK (⟨c, l, A, c2, rfl, rfl, by ac_rfl, hrd3, hcok, by omega, hle⟩) (Sc 0 rfl (Sc 2 rfl (Sc 3 rfl (Sc 4 rfl (Sc 5 rfl (Sc 12 rfl (Sc 13 rfl (Sc 14 rfl (Sc 15 rfl (Sc 16 rfl (Sc 17 rfl (Sc 18 rfl (Sc 19 rfl (Sc 20 rfl (Sub.nil _)))))))))))))))
 ·rintro ρ' B' H' ⟨c, l, A, c2, rfl, rfl, rfl, hrd, hcok, hl64, hle⟩
  refine Cq (fun K12 k12 => ?_)
  refine Cq (fun K13 k13 => ?_)
  have hfin : (rdB s).1.fin.e = c.fin.e := by rw [hrd]
  have hrl : (rdB s).2 = l := by rw [hrd]
  refine Xx.freezeT A fun B3 hB3 hRo hnc _ => ?_
  refine Cr <| Lx.y (mv rfl) rfl <| ?_
  refine Lx.co rfl rfl rfl (End_ct c b _ hcok) (Pick.eq) rfl ?_
  refine Lx.y (asg rfl) rfl <| Lx.nil <| ?_
  refine Xx.tn (k13 _ _ _ _ ?_)
  refine Cq (fun K14 k14 => ?_)
  refine Cr <| Lx.y (mv rfl) rfl <| Lx.y (neI rfl rfl) rfl <| Lx.nil <| ?_
  refine Xx.tn (k14 _ _ _ _ ?_)
  refine Cx.condN rfl (fun h15 => ?_) (fun h15 => ?_)
  ·
   have he := h15
   have hz := rd_zero (s := s) (by rw [hfin]; exact he)
   refine Cq (fun K16 k16 => ?_)
   refine Cr <| Lx.y (bld ti25 pl25 rfl rfl) rfl <| Lx.y (mv rfl) rfl <| ?_
   refine Lx.st (stA (d := .bool) sz25 rfl rfl rfl rfl (by show 0 + 4 ≤ 4; omega) rfl) ?_
   refine Lx.y (asg rfl) rfl <| Lx.nil <| ?_
   refine Xx.tn (k16 _ _ _ _ ?_)
   refine Cx.ret <| Xx.tr <| ?_
   refine Xx.dropB b (Xx.dropB b5 ?_)
   exact Xx.rBc rfl U25 rfl sz25 rfl rfl rfl ⟨none, 0, by rw [hz, ← hfin]; rfl, fun h0 => absurd h0 (by rw [hz]; exact Nat.lt_irrefl 0)⟩ hB3
  ·
   have he := h15
   have he : (rdB s).1.fin.e = 0 := hfin.trans he
   refine Cx.skip ?_
   refine Xx.tn (k12 _ _ _ _ ?_)
   refine Cq (fun K17 k17 => ?_)
   refine Cq (fun K18 k18 => ?_)
   refine Cr <| Lx.y (fa' fo25_3 rfl) rfl <| Lx.y (ld U23 rfl rfl rfl) rfl <| Lx.y (lenV (ty' := 0) U23 rfl) rfl <| Lx.y (mv rfl) rfl <| Lx.nil <| ?_
   refine Xx.tn (k18 _ _ _ _ ?_)
   refine Cx.block ?_
   refine Cx.loopK (Sc 0 rfl (Sc 2 rfl (Sc 4 rfl (Sc 5 rfl (Sc 8 rfl (Sc 12 rfl (Sc 13 rfl (Sc 14 rfl (Sc 15 rfl (Sc 16 rfl (Sc 17 rfl (Sc 18 rfl (Sc 19 rfl (Sc 20 rfl (Sc 44 rfl (Sc 45 rfl (Sc 46 rfl (Sc 47 rfl (Sc 50 rfl (Sc 51 rfl (Sc 52 rfl (Sub.nil _)))))))))))))))))))))) (fun m ρ' B' H' => ∃ (i : Nat), (i ≤ l.length ∧ ∀ j (hj : j < l.length), j < i → okR l[j] = true) ∧ m = l.length - i ∧ ρ' = [(53, i64 (i : Int))] ∧ B3 = B' ∧ crow b c.fin * (row b5 25 [u64 (BitVec.ofNat 64 (⟨s, 0, 0⟩ : Cu).uint.2), str ((⟨s, 0, 0⟩ : Cu).uint.1.text 32).2, u64 (BitVec.ofNat 64 ((⟨s, 0, 0⟩ : Cu).uint.1.text 32).1.uint.2), .slice A l.length c2] * (row br 25 [u64 0#64, str [], u64 0#64, .slice none 0 0] * R)) = H') ⟨0, ⟨Nat.zero_le _, fun j _ h => absurd h (Nat.not_lt_zero j)⟩, rfl, rfl, rfl, by ac_rfl⟩ (Sc 53 rfl (Sc 0 rfl (Sc 2 rfl (Sc 4 rfl (Sc 5 rfl (Sc 8 rfl (Sc 12 rfl (Sc 13 rfl (Sc 14 rfl (Sc 15 rfl (Sc 16 rfl (Sc 17 rfl (Sc 18 rfl (Sc 19 rfl (Sc 20 rfl (Sc 44 rfl (Sc 45 rfl (Sc 46 rfl (Sc 47 rfl (Sc 50 rfl (Sc 51 rfl (Sc 52 rfl (Sub.nil _))))))))))))))))))))))) ?_
   rintro m ρ' B' H' ⟨i, ⟨hi, hall⟩, rfl, rfl, rfl, rfl⟩
   refine Cq (fun K19 k19 => ?_)
   refine Cr <| Lx.y (lss rfl rfl) rfl <| Lx.nil <| ?_
   refine Xx.tn (k19 _ _ _ _ ?_)
   refine Cq (fun K20 k20 => ?_)
   refine Cx.condD rfl (fun h21 => ?_) (fun h21 => ?_)
   ·
    have hlt := h21
    have hlt : i < l.length := by omega
    obtain ⟨b9, o9, cs9, et9, fz9, hA9, hB9, hc9⟩ := flat_at rvc_len hRo hlt
    obtain ⟨hr1, hr2, hr3, hr4⟩ := hle _ (List.getElem_mem hlt)
    refine Cx.skip ?_
    refine Xx.tn (k20 _ _ _ _ ?_)
    refine Cq (fun K22 k22 => ?_)
    refine Cx.block ?_
    refine Cq (fun K23 k23 => ?_)
    refine Cr <| Lx.y (Yx.val (ia (b := b9) (o := o9) U23 sz40 (by rw [← hA9]; rfl) rfl (Int.toNat_natCast _) (by omega) (by omega)) rfl) rfl <| Lx.y (ldA U40 rfl sz40 rfl (Cells.base hB9 hc9) rfl) rfl <| ?_
    refine Lx.new (allocO ti40) rfl (fun b10 => ?_)
    refine Lx.st (stA (d := .bool) sz40 rfl rfl rfl rfl (by show 0 + 8 ≤ 8; omega) rfl) ?_
    refine Lx.nil ?_
    refine Xx.tn (k23 _ _ _ _ ?_)
    refine Cq (fun K24 k24 => ?_)
    refine Cr <| Lx.y (ldA U40 rfl sz40 rfl (Co (n := 8) Pe (show ((rvc (l[i]'hlt)).drop 0).take 8 = rvc (l[i]'hlt) from rfl)) rfl) rfl <| ?_
    refine Lx.cp rfl rfl rfl (Check_ct (l[i]'hlt) _ (by omega) (by omega) (by omega) (by omega)) rfl ?_
    refine Lx.y (asg rfl) rfl <| Lx.nil <| ?_
    refine Xx.tn (k24 _ _ _ _ ?_)
    refine Cq (fun K25 k25 => ?_)
    refine Cr <| Lx.y (mv rfl) rfl <| Lx.y (neI rfl rfl) rfl <| Lx.nil <| ?_
    refine Xx.tn (k25 _ _ _ _ ?_)
    refine Cx.condN rfl (fun h26 => ?_) (fun h26 => ?_)
    ·
     have hk := h26
     have hk : ¬ okR (l[i]'hlt) = true := fun e => hk (if_pos e)
     have hz : readB s = (zeroB, 6) := rd_bad (i := i) he (by rw [hrl]; exact hlt) (by simp only [hrl]; exact hk)
     refine Cq (fun K27 k27 => ?_)
     refine Cr <| Lx.y (bld ti25 pl25 rfl rfl) rfl <| Lx.y (mv rfl) rfl <| ?_
     refine Lx.st (stA (d := .bool) sz25 rfl rfl rfl rfl (by show 0 + 4 ≤ 4; omega) rfl) ?_
     refine Lx.y (asg rfl) rfl <| Lx.nil <| ?_
     refine Xx.tn (k27 _ _ _ _ ?_)
     refine Cx.ret ?_
     refine Xx.br ?_
     refine Xx.tr <| Xx.tr <| ?_
     refine Xx.br ?_
     refine Xx.tr ?_
     refine Xx.dropB b10 ?_
     refine Xx.dropB b (Xx.dropB b5 ?_)
     exact Xx.rBc rfl U25 rfl sz25 rfl rfl rfl ⟨none, 0, by rw [hz, if_neg hk]; rfl, fun h0 => absurd h0 (by rw [hz]; exact Nat.lt_irrefl 0)⟩ hB3
    ·
     have hk := h26
     have hk : okR (l[i]'hlt) = true := by
      by_cases e : okR (l[i]'hlt) = true
      ·exact e
      ·rw [if_neg e] at hk; exact absurd hk (by decide)
     refine Cx.skip <| Xx.bn <| ?_
     refine Xx.tn (k22 _ _ _ _ ?_)
     refine Cr <| Lx.y (Yx.val (add rfl rfl (by first | exact wrap64 (by omega) (by omega) | rfl)) (show _ = i64 ((i + 1 : Nat) : Int) from rfl)) rfl <| Lx.y (mv rfl) rfl <| Lx.nil <| ?_
     refine Xx.dropB b10 ?_
     exact Xx.againK ⟨i + 1, ⟨hlt, fun j hj h => (Nat.lt_succ_iff_lt_or_eq.1 h).elim (hall j hj) fun e => by subst e; exact hk⟩, rfl, rfl, rfl, rfl⟩ (by omega) (Sc 53 rfl (Sc 0 rfl (Sc 2 rfl (Sc 4 rfl (Sc 5 rfl (Sc 8 rfl (Sc 12 rfl (Sc 13 rfl (Sc 14 rfl (Sc 15 rfl (Sc 16 rfl (Sc 17 rfl (Sc 18 rfl (Sc 19 rfl (Sc 20 rfl (Sc 44 rfl (Sc 45 rfl (Sc 46 rfl (Sc 47 rfl (Sc 50 rfl (Sc 51 rfl (Sc 52 rfl (Sub.nil _)))))))))))))))))))))))
   ·
    have hge := h21
    obtain rfl : i = l.length := by omega
    have hz := rd_ok (s := s) he (by rw [hrl]; exact fun j hj => hall j hj hj)
    rw [hrl] at hz
    refine Cx.exit <| Xx.te <| Xx.te <| Xx.bh <| ?_
    refine Xx.tn (k17 _ _ _ _ ?_)
    refine Cq (fun K28 k28 => ?_)
    refine Cr <| Lx.y (ldA U25 rfl sz25 rfl (Co (n := 4) Pe rfl) rfl) rfl <| ?_
    refine Lx.st (stA (d := .bool) sz25 rfl rfl rfl rfl (by show 0 + 4 ≤ 4; omega) rfl) ?_
    refine Lx.y (asg rfl) rfl <| Lx.nil <| ?_
    refine Xx.tn (k28 _ _ _ _ ?_)
    refine Cx.ret ?_
    refine Xx.dropB b (Xx.dropB b5 ?_)
    exact Xx.rBc rfl U25 rfl sz25 rfl rfl rfl ⟨A, c2, by rw [hz]; rfl, fun h0 => by rw [hz]; exact hRo⟩ hB3
end VhX
end Go.Proofs.YthlfffbcligocaaGreat
namespace Go.Proofs.YthlfffbcligocaaGreat
open Go.SL Go.RowKit
set_option maxRecDepth 100000
open VhA VhB VhC VhD VhE VhF VhG VhH VhI VhJ VhK VhL VhM VhN VhO VhP VhQ VhR VhS VhT VhU VhV VhW VhX
namespace VhY
theorem sz3 : (Tryz.prog.info? 3).map (·.size) = some 1 := by kernel_rfl
theorem sz4 : (Tryz.prog.info? 4).map (·.size) = some 1 := by kernel_rfl
theorem sz5 : (Tryz.prog.info? 5).map (·.size) = some 1 := by kernel_rfl
theorem sz9 : (Tryz.prog.info? 9).map (·.size) = some 1 := by kernel_rfl
theorem sz22 : (Tryz.prog.info? 22).map (·.size) = some 1 := by kernel_rfl
theorem sz23 : (Tryz.prog.info? 23).map (·.size) = some 1 := by kernel_rfl
theorem sz25 : (Tryz.prog.info? 25).map (·.size) = some 4 := by kernel_rfl
theorem sz40 : (Tryz.prog.info? 40).map (·.size) = some 8 := by kernel_rfl
theorem ti25 : TI Tryz.prog 25 [.int .u64 0, str [], .int .u64 0, .slice none 0 0] 4 56 := TI.of (by kernel_rfl) rfl rfl
theorem ti40 : TI Tryz.prog 40 [.int .i64 0, str [], str [], .int .u64 0, .int .u64 0, str [], str [], .bool false] 8 96 := TI.of (by kernel_rfl) rfl rfl
theorem fo25_3 : FO Tryz.prog 25 3 3 1 false := FO.of U25 rfl rfl (by kernel_rfl) U23 rfl rfl
theorem fo40_0 : FO Tryz.prog 40 0 0 1 false := FO.of U40 rfl rfl (by kernel_rfl) U3 rfl rfl
theorem fo40_5 : FO Tryz.prog 40 5 5 1 false := FO.of U40 rfl rfl (by kernel_rfl) U9 rfl rfl
theorem fo40_6 : FO Tryz.prog 40 6 6 1 false := FO.of U40 rfl rfl (by kernel_rfl) U9 rfl rfl
theorem fo40_7 : FO Tryz.prog 40 7 7 1 false := FO.of U40 rfl rfl (by kernel_rfl) U4 rfl rfl
theorem With_none {b : Bk} {i : Nat} {s : List UInt8} (h : b.revs.length ≤ i) : withF b i s = (b, 1) := by unfold withF; rw [List.getElem?_eq_none h]
theorem With_no {b : Bk} {i : Nat} {s : List UInt8} (h : i < b.revs.length) (h2 : ¬ (bodB b.revs[i].op = true ∧ b.revs[i].hash = leafF s ∧ s.length ≤ 1024)) : withF b i s = (b, 1) := by
  unfold withF; rw [List.getElem?_eq_getElem h]; simp only; rw [if_neg h2]
theorem With_yes {b : Bk} {i : Nat} {s : List UInt8} (h : i < b.revs.length) (h2 : bodB b.revs[i].op = true ∧ b.revs[i].hash = leafF s ∧ s.length ≤ 1024) : withF b i s = ({ b with revs := b.revs.set i { b.revs[i] with body := s, gone := false } }, 0) := by
  unfold withF; rw [List.getElem?_eq_getElem h]; simp only; rw [if_pos h2]
def withoutF (b : Bk) (i : Nat) : Bk × Int := match b.revs[i]? with
  | none => (b, 1)
  | some r => if bodB r.op = true ∧ r.gone = false then ({ b with revs := b.revs.set i { r with body := [], gone := true } }, 0) else (b, 1)
theorem rvc_set2 : ∀ (l : List Rv) (i : Nat) (h : i < l.length) {s : List UInt8} {g : Bool}, ((l.flatMap rvc).set (i * 8 + 6) (str s)).set (i * 8 + 7) (.bool g) = (l.set i { l[i] with body := s, gone := g }).flatMap rvc := by
  intro l
  induction l with
  | nil => intro i h; simp at h
  | cons x l ih =>
    intro i h s g
    cases i with
    | zero => rfl
    | succ i =>
      have h' : i < l.length := by simpa using h
      rw [List.flatMap_cons, List.set_cons_succ, List.flatMap_cons, List.getElem_cons_succ, ← ih i h', List.set_append_right _ _ (by rw [rvc_len]; omega), List.set_append_right _ _ (by rw [rvc_len]; omega), rvc_len, show (i + 1) * 8 + 6 - 8 = i * 8 + 6 by omega, show (i + 1) * 8 + 7 - 8 = i * 8 + 7 by omega]
set_option maxHeartbeats 4000000 in
theorem With_ct (bm : Bm) (i : Nat) (s : List UInt8) (B : Frag) (hR : bm.ro B) (hi : i ≤ 1000000) (hn : bm.b.revs.length ≤ 1000000) (hs : s.length ≤ 4611686018427387900) : CtB Tryz.prog 140 [.agg (bmc bm).toArray, i64 (i : Int), str s] B (fun v B' => ∃ A c, v = .tuple #[.agg (bmc ⟨(withF bm.b i s).1, A, c⟩).toArray, i64 (withF bm.b i s).2] ∧ Bm.ro B' ⟨(withF bm.b i s).1, A, c⟩) := by
 refine CtB.of_body Tryz.func140 rfl (nt := 60) rfl (by kernel_rfl) rfl ?_
 intro N0 w0 R
 refine Cq (fun K1 k1 => ?_)
 refine Cr ?_
 refine Lx.new (boxA rfl) rfl (fun b1 => ?_)
 refine Lx.new (allocO ti25) rfl (fun br => ?_)
 refine Lx.y (asg rfl) rfl <| Lx.nil <| ?_
 refine Xx.tn (k1 _ _ _ _ ?_)
 refine Cq (fun K2 k2 => ?_)
 refine Cq (fun K3 k3 => ?_)
 refine Cx.drawn (by kernel_rfl) ?_
 refine Dx.p (i := 0) rfl (by kernel_rfl) (mv rfl) rfl ?_
 refine Dx.p (i := 1) rfl (by kernel_rfl) (lss rfl rfl) rfl ?_
 refine Dx.p (i := 2) rfl (by kernel_rfl) (mv rfl) rfl ?_
 refine Xx.ifD (t := 10) rfl (fun h4 => ?_) (fun h4 => ?_)
 ·
  exact absurd h4 (by omega)
 ·
  refine Dx.pT (i := 3) rfl rfl rfl rfl (by kernel_rfl) (mv rfl) rfl ?_
  refine Dx.pT (i := 4) rfl rfl rfl rfl (by kernel_rfl) (fa' fo25_3 rfl) rfl ?_
  refine Dx.rT (i := 5) rfl rfl rfl rfl (by kernel_rfl) (ld U23 rfl rfl rfl) rfl ?_
  refine Dx.pT (i := 6) rfl rfl rfl rfl (by kernel_rfl) (lenV (ty' := 0) U23 rfl) rfl ?_
  refine Dx.pT (i := 7) rfl rfl rfl rfl (by kernel_rfl) (geq rfl rfl) rfl ?_
  refine Dx.p (i := 8) rfl (by kernel_rfl) (pickF rfl rfl) rfl ?_
  refine Dx.p (i := 9) rfl (by kernel_rfl) (mv rfl) rfl ?_
  refine Xx.ifD (t := 17) rfl (fun h5 => ?_) (fun h5 => ?_)
  ·
   have g1 := h5
   have hz : withF bm.b i s = (bm.b, 1) := With_none (by omega)
   refine Dx.pF (i := 10) rfl (fun _ h => by cases h) rfl rfl rfl (by kernel_rfl) rfl ?_
   refine Dx.pF (i := 11) rfl (fun _ h => by cases h) rfl rfl rfl (by kernel_rfl) rfl ?_
   refine Dx.pF (i := 12) rfl (fun _ h => by cases h) rfl rfl rfl (by kernel_rfl) rfl ?_
   refine Dx.pF (i := 13) rfl (fun _ h => by cases h) rfl rfl rfl (by kernel_rfl) rfl ?_
   refine Dx.pF (i := 14) rfl (fun _ h => by cases h) rfl rfl rfl (by kernel_rfl) rfl ?_
   refine Dx.pF (i := 15) rfl (fun _ h => by cases h) rfl rfl rfl (by kernel_rfl) rfl ?_
   refine Dx.pF (i := 16) rfl (fun _ h => by cases h) rfl rfl rfl (by kernel_rfl) rfl ?_
   refine Dx.pF (i := 17) rfl (fun _ h => by cases h) rfl rfl rfl (by kernel_rfl) rfl ?_
   refine Dx.p (i := 18) rfl (by kernel_rfl) (pickT rfl rfl) rfl ?_
   refine Dx.p (i := 19) rfl (by kernel_rfl) (mv rfl) rfl ?_
   refine Dx.pF (i := 20) rfl (fun _ h => by cases h) rfl rfl rfl (by kernel_rfl) rfl ?_
   refine Dx.pF (i := 21) rfl (fun _ h => by cases h) rfl rfl rfl (by kernel_rfl) rfl ?_
   refine Dx.pF (i := 22) rfl (fun _ h => by cases h) rfl rfl rfl (by kernel_rfl) rfl ?_
   refine Dx.pF (i := 23) rfl (fun _ h => by cases h) rfl rfl rfl (by kernel_rfl) rfl ?_
   refine Dx.pF (i := 24) rfl (fun _ h => by cases h) rfl rfl rfl (by kernel_rfl) rfl ?_
   refine Dx.pF (i := 25) rfl (fun _ h => by cases h) rfl rfl rfl (by kernel_rfl) rfl ?_
   refine Dx.pF (i := 26) rfl (fun _ h => by cases h) rfl rfl rfl (by kernel_rfl) rfl ?_
   refine Dx.pF (i := 27) rfl (fun _ h => by cases h) rfl rfl rfl (by kernel_rfl) rfl ?_
   refine Dx.pF (i := 28) rfl (fun _ h => by cases h) rfl rfl rfl (by kernel_rfl) rfl ?_
   refine Dx.p (i := 29) rfl (by kernel_rfl) (pickT rfl rfl) rfl ?_
   refine Dx.p (i := 30) rfl (by kernel_rfl) (mv rfl) rfl ?_
   refine Dx.pF (i := 31) rfl (fun _ h => by cases h) rfl rfl rfl (by kernel_rfl) rfl ?_
   refine Dx.pF (i := 32) rfl (fun _ h => by cases h) rfl rfl rfl (by kernel_rfl) rfl ?_
   refine Dx.pF (i := 33) rfl (fun _ h => by cases h) rfl rfl rfl (by kernel_rfl) rfl ?_
   refine Dx.p (i := 34) rfl (by kernel_rfl) (pickT rfl rfl) rfl ?_
   refine Dx.done (by kernel_rfl) ?_
   refine Xx.tn (k3 _ _ _ _ ?_)
   refine Cx.condT rfl ?_
   refine Cq (fun K6 k6 => ?_)
   refine Cr <| Lx.y (ldA U25 rfl sz25 rfl (Co (n := 4) Pe (show ((bmc bm).drop 0).take 4 = bmc bm from rfl)) rfl) rfl <| ?_
   refine Lx.st (stA (d := .bool) sz25 rfl rfl rfl rfl (by show 0 + 4 ≤ 4; omega) rfl) ?_
   refine Lx.y (asg rfl) rfl <| Lx.nil <| ?_
   refine Xx.tn (k6 _ _ _ _ ?_)
   refine Cx.ret <| Xx.tr <| ?_
   refine Xx.dropB b1 ?_
   exact Xx.rBc rfl U25 rfl sz25 rfl rfl rfl ⟨bm.A, bm.c, by rw [hz]; rfl, by rw [hz]; exact hR⟩ (Fl _)
  ·
   have g1 := h5
   have hlt : i < bm.b.revs.length := by omega
   obtain ⟨b9, o9, cs9, et9, fz9, hA9, hB9, hc9⟩ := flat_at rvc_len (hR (by omega)) hlt
   have hR0 := hR (by omega)
   refine Dx.pT (i := 10) rfl rfl rfl rfl (by kernel_rfl) (fa' fo25_3 rfl) rfl ?_
   refine Dx.rT (i := 11) rfl rfl rfl rfl (by kernel_rfl) (ld U23 rfl rfl rfl) rfl ?_
   refine Dx.pT (i := 12) rfl rfl rfl rfl (by kernel_rfl) (mv rfl) rfl ?_
   refine Dx.pT (i := 13) rfl rfl rfl rfl (by kernel_rfl) (Yx.val (ia (b := b9) (o := o9) U23 sz40 (by rw [← hA9]; rfl) rfl (Int.toNat_natCast _) (by omega) (by omega)) rfl) rfl ?_
   refine Dx.pT (i := 14) rfl rfl rfl rfl (by kernel_rfl) (fa' fo40_0 rfl) rfl ?_
   refine Dx.rT (i := 15) rfl rfl rfl rfl (by kernel_rfl) (ldB U3 rfl rfl hB9 (cell_of hc9 0 (by omega) rfl)) rfl ?_
   refine Dx.one (i := 16) (by kernel_rfl) ?_
   refine Dstep.oT (i := 16) rfl rfl rfl rfl (Ox.cb rfl rfl rfl (bodied_ct _ _)) rfl (fun v B' H' hΦ hB => ?_)
   obtain ⟨rfl, rfl, Y⟩ := hΦ; have E := Y.symm; subst E; clear hB
   refine ⟨Je (Jy (Jy (Jt) (ld U23 rfl rfl rfl)) (ld U23 rfl rfl rfl)) (by kernel_rfl), ?_⟩
   refine Dx.pT (i := 17) rfl rfl rfl rfl (by kernel_rfl) (not' rfl) rfl ?_
   refine Dx.p (i := 18) rfl (by kernel_rfl) (pickF rfl rfl) rfl ?_
   refine Dx.p (i := 19) rfl (by kernel_rfl) (mv rfl) rfl ?_
   refine Xx.ifB (t := 27) rfl (fun h7 => ?_) (fun h7 => ?_)
   ·
    have g2 := h7
    have hz : withF bm.b i s = (bm.b, 1) := With_no hlt (fun e => by simp_all)
    refine Dx.pF (i := 20) rfl (fun _ h => by cases h) rfl rfl rfl (by kernel_rfl) rfl ?_
    refine Dx.pF (i := 21) rfl (fun _ h => by cases h) rfl rfl rfl (by kernel_rfl) rfl ?_
    refine Dx.pF (i := 22) rfl (fun _ h => by cases h) rfl rfl rfl (by kernel_rfl) rfl ?_
    refine Dx.pF (i := 23) rfl (fun _ h => by cases h) rfl rfl rfl (by kernel_rfl) rfl ?_
    refine Dx.pF (i := 24) rfl (fun _ h => by cases h) rfl rfl rfl (by kernel_rfl) rfl ?_
    refine Dx.pF (i := 25) rfl (fun _ h => by cases h) rfl rfl rfl (by kernel_rfl) rfl ?_
    refine Dx.pF (i := 26) rfl (fun _ h => by cases h) rfl rfl rfl (by kernel_rfl) rfl ?_
    refine Dx.pF (i := 27) rfl (fun _ h => by cases h) rfl rfl rfl (by kernel_rfl) rfl ?_
    refine Dx.pF (i := 28) rfl (fun _ h => by cases h) rfl rfl rfl (by kernel_rfl) rfl ?_
    refine Dx.p (i := 29) rfl (by kernel_rfl) (pickT rfl rfl) rfl ?_
    refine Dx.p (i := 30) rfl (by kernel_rfl) (mv rfl) rfl ?_
    refine Dx.pF (i := 31) rfl (fun _ h => by cases h) rfl rfl rfl (by kernel_rfl) rfl ?_
    refine Dx.pF (i := 32) rfl (fun _ h => by cases h) rfl rfl rfl (by kernel_rfl) rfl ?_
    refine Dx.pF (i := 33) rfl (fun _ h => by cases h) rfl rfl rfl (by kernel_rfl) rfl ?_
    refine Dx.p (i := 34) rfl (by kernel_rfl) (pickT rfl rfl) rfl ?_
    refine Dx.done (by kernel_rfl) ?_
    refine Xx.tn (k3 _ _ _ _ ?_)
    refine Cx.condT rfl ?_
    refine Cq (fun K8 k8 => ?_)
    refine Cr <| Lx.y (ldA U25 rfl sz25 rfl (Co (n := 4) Pe (show ((bmc bm).drop 0).take 4 = bmc bm from rfl)) rfl) rfl <| ?_
    refine Lx.st (stA (d := .bool) sz25 rfl rfl rfl rfl (by show 0 + 4 ≤ 4; omega) rfl) ?_
    refine Lx.y (asg rfl) rfl <| Lx.nil <| ?_
    refine Xx.tn (k8 _ _ _ _ ?_)
    refine Cx.ret <| Xx.tr <| ?_
    refine Xx.dropB b1 ?_
    exact Xx.rBc rfl U25 rfl sz25 rfl rfl rfl ⟨bm.A, bm.c, by rw [hz]; rfl, by rw [hz]; exact hR⟩ (Fl _)
   ·
    have g2 := h7
    have g2 : bodB (bm.b.revs[i]'hlt).op = true := by simpa using g2
    refine Dx.pT (i := 20) rfl rfl rfl rfl (by kernel_rfl) (fa' fo25_3 rfl) rfl ?_
    refine Dx.rT (i := 21) rfl rfl rfl rfl (by kernel_rfl) (ld U23 rfl rfl rfl) rfl ?_
    refine Dx.pT (i := 22) rfl rfl rfl rfl (by kernel_rfl) (mv rfl) rfl ?_
    refine Dx.pT (i := 23) rfl rfl rfl rfl (by kernel_rfl) (Yx.val (ia (b := b9) (o := o9) U23 sz40 (by rw [← hA9]; rfl) rfl (Int.toNat_natCast _) (by omega) (by omega)) rfl) rfl ?_
    refine Dx.pT (i := 24) rfl rfl rfl rfl (by kernel_rfl) (fa' fo40_5 rfl) rfl ?_
    refine Dx.rT (i := 25) rfl rfl rfl rfl (by kernel_rfl) (ldB U9 rfl rfl hB9 (cell_of hc9 5 (by omega) rfl)) rfl ?_
    refine Dx.pT (i := 26) rfl rfl rfl rfl (by kernel_rfl) (mv rfl) rfl ?_
    refine Dx.one (i := 27) (by kernel_rfl) ?_
    refine Dstep.oT (i := 27) rfl rfl rfl rfl (Ox.cb rfl rfl rfl (Leaf_ct s _ hs)) rfl (fun v B' H' hΦ hB => ?_)
    obtain ⟨rfl, rfl, Y⟩ := hΦ; have E := Y.symm; subst E; clear hB
    refine ⟨Jy (Jy (Jy (Jy (Jy (Jt) (ld U23 rfl rfl rfl)) (ld U23 rfl rfl rfl)) (ldB U3 rfl rfl hB9 (cell_of hc9 0 (by omega) rfl))) (ld U23 rfl rfl rfl)) (ldB U9 rfl rfl hB9 (cell_of hc9 5 (by omega) rfl)), ?_⟩
    refine Dx.pT (i := 28) rfl rfl rfl rfl (by kernel_rfl) (neS rfl rfl) rfl ?_
    refine Dx.p (i := 29) rfl (by kernel_rfl) (pickF rfl rfl) rfl ?_
    refine Dx.p (i := 30) rfl (by kernel_rfl) (mv rfl) rfl ?_
    refine Xx.ifN (t := 38) rfl (fun h9 => ?_) (fun h9 => ?_)
    ·
     have g3 := h9
     have hz : withF bm.b i s = (bm.b, 1) := With_no hlt (fun e => g3 e.2.1)
     refine Dx.pF (i := 31) rfl (fun _ h => by cases h) rfl rfl rfl (by kernel_rfl) rfl ?_
     refine Dx.pF (i := 32) rfl (fun _ h => by cases h) rfl rfl rfl (by kernel_rfl) rfl ?_
     refine Dx.pF (i := 33) rfl (fun _ h => by cases h) rfl rfl rfl (by kernel_rfl) rfl ?_
     refine Dx.p (i := 34) rfl (by kernel_rfl) (pickT rfl rfl) rfl ?_
     refine Dx.done (by kernel_rfl) ?_
     refine Xx.tn (k3 _ _ _ _ ?_)
     refine Cx.condT rfl ?_
     refine Cq (fun K10 k10 => ?_)
     refine Cr <| Lx.y (ldA U25 rfl sz25 rfl (Co (n := 4) Pe (show ((bmc bm).drop 0).take 4 = bmc bm from rfl)) rfl) rfl <| ?_
     refine Lx.st (stA (d := .bool) sz25 rfl rfl rfl rfl (by show 0 + 4 ≤ 4; omega) rfl) ?_
     refine Lx.y (asg rfl) rfl <| Lx.nil <| ?_
     refine Xx.tn (k10 _ _ _ _ ?_)
     refine Cx.ret <| Xx.tr <| ?_
     refine Xx.dropB b1 ?_
     exact Xx.rBc rfl U25 rfl sz25 rfl rfl rfl ⟨bm.A, bm.c, by rw [hz]; rfl, by rw [hz]; exact hR⟩ (Fl _)
    ·
     have g3 := h9
     refine Dx.pT (i := 31) rfl rfl rfl rfl (by kernel_rfl) (mv rfl) rfl ?_
     refine Dx.pT (i := 32) rfl rfl rfl rfl (by kernel_rfl) (lenS U9 rfl) rfl ?_
     refine Dx.pT (i := 33) rfl rfl rfl rfl (by kernel_rfl) (gtr rfl rfl) rfl ?_
     refine Dx.p (i := 34) rfl (by kernel_rfl) (pickF rfl rfl) rfl ?_
     refine Dx.done (by kernel_rfl) ?_
     refine Xx.tn (k3 _ _ _ _ ?_)
     refine Cx.condD rfl (fun h11 => ?_) (fun h11 => ?_)
     ·
      have g4 := h11
      have hz : withF bm.b i s = (bm.b, 1) := With_no hlt (fun e => by have := e.2.2; omega)
      refine Cq (fun K12 k12 => ?_)
      refine Cr <| Lx.y (ldA U25 rfl sz25 rfl (Co (n := 4) Pe (show ((bmc bm).drop 0).take 4 = bmc bm from rfl)) rfl) rfl <| ?_
      refine Lx.st (stA (d := .bool) sz25 rfl rfl rfl rfl (by show 0 + 4 ≤ 4; omega) rfl) ?_
      refine Lx.y (asg rfl) rfl <| Lx.nil <| ?_
      refine Xx.tn (k12 _ _ _ _ ?_)
      refine Cx.ret <| Xx.tr <| ?_
      refine Xx.dropB b1 ?_
      exact Xx.rBc rfl U25 rfl sz25 rfl rfl rfl ⟨bm.A, bm.c, by rw [hz]; rfl, by rw [hz]; exact hR⟩ (Fl _)
     ·
      have g4 := h11
      refine Cx.skip ?_
      refine Xx.tn (k2 _ _ _ _ ?_)
      refine Cq (fun K13 k13 => ?_)
      refine Xx.perm (H' := sbuf 40 8 none 0 0 [] * (row br 25 [u64 0#64, str [], u64 0#64, .slice none 0 0] * (row b1 25 (bmc bm) * R))) ?_ (by rw [sbuf_nil, one_star]; rfl)
      refine Cr <| Lx.y (fa' fo25_3 rfl) rfl <| Lx.y (ld U23 rfl rfl rfl) rfl <| ?_
      refine Lx.o (appB (et := 40) (A := none) bm.b.revs.length (bm.b.revs.flatMap rvc) U23 U23 ti40 rfl rfl hR0 (rvc_all _) (by omega) (by omega) (by omega) (List.nil_append _)) rfl (fun v B' H' hΦ hB => ?_)
      obtain ⟨A1, c1, rfl, hA1, hc1, hBB, rfl⟩ := hΦ
      have hBB2 := hBB.symm
      subst hBB2
      clear hB
      refine Lx.y (fa' fo25_3 rfl) rfl ?_
      refine Lx.st (stO U23 sz23 rfl rfl rfl (by show 3 < 4; omega) rfl) ?_
      refine Lx.nil ?_
      refine Xx.tn (k13 _ _ _ _ ?_)
      refine Cq (fun K14 k14 => ?_)
      refine Xx.openT A1 (by omega) (fun bA sp hA hxl hnc hcl => ?_)
      refine Cx.drawn (by kernel_rfl) ?_
      refine Dx.p (i := 0) rfl (by kernel_rfl) (fa' fo25_3 rfl) rfl ?_
      refine Dx.r (i := 1) rfl (by kernel_rfl) (Yx.val (ld U23 rfl rfl rfl) (show _ = Value.slice (some ⟨bA, 0, none⟩) bm.b.revs.length c1 from by rw [← hA])) rfl ?_
      refine Dx.p (i := 2) rfl (by kernel_rfl) (mv rfl) rfl ?_
      refine Dx.p (i := 3) rfl (by kernel_rfl) (fa' fo25_3 rfl) rfl ?_
      refine Dx.r (i := 4) rfl (by kernel_rfl) (Yx.val (ld U23 rfl rfl rfl) (show _ = Value.slice (some ⟨bA, 0, none⟩) bm.b.revs.length c1 from by rw [← hA])) rfl ?_
      refine Dx.p (i := 5) rfl (by kernel_rfl) (mv rfl) rfl ?_
      refine Dx.p (i := 6) rfl (by kernel_rfl) (mv rfl) rfl ?_
      refine Dx.p (i := 7) rfl (by kernel_rfl) (ia (j := i) U23 sz40 rfl rfl (Int.toNat_natCast _) (by omega) (by omega)) rfl ?_
      refine Dx.p (i := 8) rfl (by kernel_rfl) (fa' fo40_6 rfl) rfl ?_
      refine Dx.one (i := 9) (by kernel_rfl) ?_
      refine Dstep.o0 (i := 9) rfl (stO U9 sz9 rfl rfl rfl (by rw [List.length_append, flatG_len rvc_len]; omega) (frc_gen _ _)) (fun v B' H' hΦ hB => ?_)
      obtain ⟨Y, rfl⟩ := hΦ; have E := Y.symm; subst E; clear hB v
      refine ⟨Jy (Je (Jt) (by kernel_rfl)) (Yx.val (ld U23 rfl rfl rfl) (show _ = Value.slice (some ⟨bA, 0, none⟩) bm.b.revs.length c1 from by rw [← hA])), ?_⟩
      refine Dx.p (i := 10) rfl (by kernel_rfl) (ia (j := i) U23 sz40 rfl rfl (Int.toNat_natCast _) (by omega) (by omega)) rfl ?_
      refine Dx.p (i := 11) rfl (by kernel_rfl) (fa' fo40_7 rfl) rfl ?_
      refine Dx.one (i := 12) (by kernel_rfl) ?_
      refine Dstep.o0 (i := 12) rfl (stO U4 sz4 rfl rfl rfl (by rw [List.length_set, List.length_append, flatG_len rvc_len]; omega) (frc_gen _ _)) (fun v B' H' hΦ hB => ?_)
      obtain ⟨Y, rfl⟩ := hΦ; have E := Y.symm; subst E; clear hB v
      refine ⟨Je (Je (Jt) (by kernel_rfl)) (by kernel_rfl), ?_⟩
      refine Dx.done (by kernel_rfl) ?_
      refine Xx.tn (k14 _ _ _ _ ?_)
      refine Cq (fun K15 k15 => ?_)
      refine Xx.closeT bA ((bm.b.revs.set i { (bm.b.revs[i]'hlt) with body := s, gone := false }).flatMap rvc) sp 8 bm.b.revs.length c1 (by rw [Nat.zero_add, List.set_append_left _ _ (by rw [flatG_len rvc_len]; omega), List.set_append_left _ _ (by rw [List.length_set, flatG_len rvc_len]; omega), rvc_set2 _ _ hlt]) (by rw [flatG_len rvc_len, List.length_set]) hnc (by rw [List.length_append, flatG_len rvc_len, List.length_set]; rw [List.length_append, flatG_len rvc_len] at hcl; exact hcl) ?_
      refine Xx.freezeT (some ⟨bA, 0, none⟩) fun B3 hB3 hRo hnc3 _ => ?_
      refine Cr <| Lx.y (ldA U25 rfl sz25 rfl (Co (n := 4) Pe rfl) rfl) rfl <| ?_
      refine Lx.st (stA (d := .bool) sz25 rfl rfl rfl rfl (by show 0 + 4 ≤ 4; omega) rfl) ?_
      refine Lx.y (asg rfl) rfl <| Lx.nil <| ?_
      refine Xx.tn (k15 _ _ _ _ ?_)
      refine Cx.ret ?_
      refine Xx.dropB b1 ?_
      have hz : withF bm.b i s = ({ bm.b with revs := (bm.b.revs.set i { (bm.b.revs[i]'hlt) with body := s, gone := false }) }, 0) := With_yes hlt ⟨g2, by simpa using g3, by omega⟩
      exact Xx.rBc rfl U25 rfl sz25 rfl rfl rfl ⟨A1, c1, by rw [hz]; show _ = Value.tuple #[.agg #[u64 bm.b.seq, str bm.b.prev, u64 bm.b.tx, .slice A1 (bm.b.revs.set i { (bm.b.revs[i]'hlt) with body := s, gone := false }).length c1], i64 0]; rw [List.length_set], fun _ => by rw [hz]; show RoS B3 8 A1 (bm.b.revs.set i { (bm.b.revs[i]'hlt) with body := s, gone := false }).length ((bm.b.revs.set i { (bm.b.revs[i]'hlt) with body := s, gone := false }).flatMap rvc); rw [List.length_set, hA]; exact hRo⟩ hB3
end VhY
end Go.Proofs.YthlfffbcligocaaGreat
