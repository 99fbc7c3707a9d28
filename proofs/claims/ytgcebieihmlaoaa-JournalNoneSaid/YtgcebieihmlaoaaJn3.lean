/-
  Records are added to a journal: the walk.
-/
import Derived.Test.YtgcebieihmlaoaaProg
import Derived.Test.YtgcebieihmlaoaaSlj
import Derived.Test.YtgcebieihmlaoaaJn2
namespace Go.Proofs.Ytgcebieihmlaoaa
open Go.SL Go.RowKit
set_option linter.unusedVariables false
set_option linter.unusedSimpArgs false
set_option maxRecDepth 100000
open DkA DkB DkC DkD DkE DkF DkG DkH DkI DkJ DkK DkL DkM DkN Fr1 Jn1 Jn2
namespace Jn3
theorem sz3 : (Try.prog.info? 3).map (·.size) = some 1 := by kernel_rfl
theorem sz4 : (Try.prog.info? 4).map (·.size) = some 1 := by kernel_rfl
theorem sz9 : (Try.prog.info? 9).map (·.size) = some 1 := by kernel_rfl
theorem sz74 : (Try.prog.info? 74).map (·.size) = some 4 := by kernel_rfl
theorem sz113 : (Try.prog.info? 113).map (·.size) = some 1 := by kernel_rfl
theorem sz115 : (Try.prog.info? 115).map (·.size) = some 5 := by kernel_rfl
theorem sz122 : (Try.prog.info? 122).map (·.size) = some 2 := by kernel_rfl
theorem ti5 : TI Try.prog 5 [.int .u8 0] 1 1 := TI.of (by kernel_rfl) rfl rfl
theorem ti74 : TI Try.prog 74 [.int .i64 0, .int .i64 0, str [], .bool false] 4 40 := TI.of (by kernel_rfl) rfl rfl
theorem ti115 : TI Try.prog 115 [.pointer none, .int .i64 0, .int .i64 0, .int .i64 0, .slice none 0 0] 5 56 := TI.of (by kernel_rfl) rfl rfl
theorem ti122 : TI Try.prog 122 [.pointer none, .slice none 0 0] 2 32 := TI.of (by kernel_rfl) rfl rfl
theorem fo74_1 : FO Try.prog 74 1 1 1 false := FO.of Try.underlying74 rfl rfl (by kernel_rfl) Try.underlying3 rfl rfl
theorem fo115_0 : FO Try.prog 115 0 0 1 false := FO.of Try.underlying115 rfl rfl (by kernel_rfl) Try.underlying26 rfl rfl
theorem fo115_1 : FO Try.prog 115 1 1 1 false := FO.of Try.underlying115 rfl rfl (by kernel_rfl) Try.underlying3 rfl rfl
theorem fo115_2 : FO Try.prog 115 2 2 1 false := FO.of Try.underlying115 rfl rfl (by kernel_rfl) Try.underlying3 rfl rfl
theorem fo115_3 : FO Try.prog 115 3 3 1 false := FO.of Try.underlying115 rfl rfl (by kernel_rfl) Try.underlying3 rfl rfl
theorem fo115_4 : FO Try.prog 115 4 4 1 false := FO.of Try.underlying115 rfl rfl (by kernel_rfl) Try.underlying113 rfl rfl
theorem pl74 : PL Try.prog 74 [(0, 1), (1, 1), (2, 1), (3, 1)] := PL.of Try.underlying74 (by kernel_rfl)

/-- frames one behind the other -/
def allF (bodies : List (List UInt8)) : List UInt8 := (bodies.map fun s => headL s ++ s).flatten
theorem allF_snoc (xs : List (List UInt8)) (s : List UInt8) : allF (xs ++ [s]) = allF xs ++ (headL s ++ s) := by simp [allF]
theorem allF_len_take (xs : List (List UInt8)) (i : Nat) : (allF (xs.take i)).length ≤ (allF xs).length := by
  conv => rhs; rw [← List.take_append_drop i xs]
  unfold allF
  rw [List.map_append, List.flatten_append, List.length_append]; omega
def fileOf (j : Jn) : Nat := max j.last 1 + if j.most ≤ (j.long : Int) then 1 else 0
def recsAt (file a : Nat) : List (List UInt8) → List Rc
  | [] => []
  | s :: ss => ⟨file, a + 12, s, true⟩ :: recsAt file (a + 12 + s.length) ss
theorem headL_len' (l : List UInt8) : (headL l).length = 12 := headL_len l
theorem recsAt_snoc (file : Nat) : ∀ (xs : List (List UInt8)) (a : Nat) (s : List UInt8), recsAt file a (xs ++ [s]) = recsAt file a xs ++ [(⟨file, a + (allF xs).length + 12, s, true⟩ : Rc)] := by
  intro xs
  induction xs with
  | nil => intro a s; rfl
  | cons x xs ih =>
    intro a s
    rw [List.cons_append]
    simp only [recsAt]
    rw [ih, List.cons_append]
    have : (allF (x :: xs)).length = 12 + x.length + (allF xs).length := by
      show ((headL x ++ x) ++ allF xs).length = _
      rw [List.length_append, List.length_append, headL_len]
    rw [this, show a + (12 + x.length + (allF xs).length) + 12 = a + 12 + x.length + (allF xs).length + 12 by omega]
theorem recsAt_len (file : Nat) : ∀ (xs : List (List UInt8)) (a : Nat), (recsAt file a xs).length = xs.length := by
  intro xs
  induction xs with
  | nil => intro a; rfl
  | cons x xs ih => intro a; simp [recsAt, ih]
def shR (a : Nat) (r : Rc) : Rc := { r with at_ := r.at_ + a }
theorem recsAt_sh (file : Nat) : ∀ (xs : List (List UInt8)) (a b : Nat), (recsAt file b xs).map (shR a) = recsAt file (b + a) xs := by
  intro xs
  induction xs with
  | nil => intro a b; rfl
  | cons x xs ih =>
    intro a b
    simp only [recsAt, List.map_cons, ih]
    congr 1
    · unfold shR; simp only; congr 1; omega
    · rw [show b + 12 + x.length + a = b + a + 12 + x.length by omega]
/-- the first i records at their places in the file, the others at those in the text -/
def mixF (a : Nat) (l : List Rc) (i : Nat) : List Rc := (l.take i).map (shR a) ++ l.drop i
theorem mix_len (a : Nat) (l : List Rc) (i : Nat) : (mixF a l i).length = l.length := by
  unfold mixF; rw [List.length_append, List.length_map, List.length_take, List.length_drop]; omega
theorem mix_at (a : Nat) (l : List Rc) {i : Nat} (h : i < l.length) : (mixF a l i)[i]'(by rw [mix_len]; exact h) = l[i] := by
  unfold mixF
  rw [List.getElem_append_right (by rw [List.length_map, List.length_take]; omega)]
  simp [List.length_take, Nat.min_eq_left (Nat.le_of_lt h)]
theorem mix_set (a : Nat) (l : List Rc) {i : Nat} (h : i < l.length) : (mixF a l i).set i (shR a l[i]) = mixF a l (i + 1) := by
  unfold mixF
  rw [List.set_append_right _ _ (by rw [List.length_map, List.length_take]; omega), List.length_map, List.length_take, Nat.min_eq_left (Nat.le_of_lt h), Nat.sub_self, List.take_succ_eq_append_getElem h, List.map_append, List.append_assoc]
  congr 1
  rw [List.drop_eq_getElem_cons h]; rfl
theorem rcc_set : ∀ (l : List Rc) (i : Nat) (h : i < l.length) (v : Nat), (l.flatMap rcc).set (i * 4 + 1) (i64 (v : Int)) = (l.set i { l[i] with at_ := v }).flatMap rcc := by
  intro l
  induction l with
  | nil => intro i h; simp at h
  | cons x l ih =>
    intro i h v
    cases i with
    | zero => rfl
    | succ i =>
      have h' : i < l.length := by simpa using h
      rw [List.flatMap_cons, List.set_cons_succ, List.flatMap_cons, List.getElem_cons_succ, ← ih i h' v, List.set_append_right _ _ (by rw [rcc_len]; omega), rcc_len, show (i + 1) * 4 + 1 - 4 = i * 4 + 1 by omega]
theorem mix_all (a : Nat) (l : List Rc) : mixF a l l.length = l.map (shR a) := by unfold mixF; simp
theorem rcc_at (l : List Rc) {i : Nat} (h : i < l.length) : (l.flatMap rcc)[i * 4 + 1]? = some (i64 ((l[i].at_ : Nat) : Int)) := by
  have h1 := DkF.flatG_at rcc_len i l h
  have h2 : ((l.flatMap rcc).drop (i * 4))[1]? = some (i64 ((l[i].at_ : Nat) : Int)) := by
    have h3 : (((l.flatMap rcc).drop (i * 4)).take 4)[1]? = some (i64 ((l[i].at_ : Nat) : Int)) := by rw [h1]; rfl
    rwa [List.getElem?_take_of_lt (by decide)] at h3
  rwa [List.getElem?_drop] at h2
theorem append_at {D : Dm} {n : Int} {s : List UInt8} (h : (appendD D n s).2.2 = 0) : (appendD D n s).2.1 = (((fileM n D.fs).now.length : Nat) : Int) := by
  unfold appendD at h ⊢
  split at h
  · cases h
  · rename_i h1
    rw [if_neg h1]
    split at h
    · cases h
    · rename_i h2
      rw [if_neg h2]
      split at h
      · cases h
      · rename_i h3
        rw [if_neg h3]
        split at h
        · cases h
        · rename_i h4
          rw [if_neg h4]
/-- what adding does to the disk: the disk behind it, the error -/
def addD (D : Dm) (file : Nat) (all : List UInt8) : Dm × Int :=
  if (appendD D (file : Int) all).2.2 ≠ 0 then ((appendD D (file : Int) all).1, (appendD D (file : Int) all).2.2)
  else syncD (appendD D (file : Int) all).1 (file : Int)
theorem max_val (n : Nat) : (if (1 : Int) > (n : Int) then (1 : Int) else (n : Int)) = ((max n 1 : Nat) : Int) := by split <;> omega

theorem rec_bound (file : Nat) : ∀ (xs : List (List UInt8)) (a i : Nat) (h : i < (recsAt file a xs).length), (recsAt file a xs)[i].at_ ≤ a + (allF xs).length := by
  intro xs
  induction xs with
  | nil => intro a i h; simp [recsAt] at h
  | cons x xs ih =>
    intro a i h
    have hl : (allF (x :: xs)).length = 12 + x.length + (allF xs).length := by
      show ((headL x ++ x) ++ allF xs).length = _
      rw [List.length_append, List.length_append, headL_len]
    rw [hl]
    cases i with
    | zero => show a + 12 ≤ _; omega
    | succ i =>
      have := ih (a + 12 + x.length) i (by simpa [recsAt] using h)
      show ((recsAt file (a + 12 + x.length) xs)[i]'(by simpa [recsAt] using h)).at_ ≤ _
      omega

set_option maxHeartbeats 8000000 in
theorem JAdd_ct (jb : Nat) (j : Jn) (d : Dk) (bodies : List (List UInt8)) (Ab : Option Addr) (cb K L C : Nat) (B : Frag) (hRb : RoS B 1 Ab bodies.length (bodies.map str)) (hc : DkN.Calm K L C d.abs) (hK : K ≤ 900000) (hL : L ≤ 10000000000) (hC : C ≤ 1000000000) (hbs : ∀ s ∈ bodies, s.length ≤ 65536) (hall : (allF bodies).length ≤ 10000000000) (hbl : bodies.length ≤ 1000000) (hjl : j.l.length ≤ 1000000000) (hjf : j.last ≤ 1000000000) : Ct Try.prog 38 [.pointer (some ⟨jb, 0, none⟩), .slice Ab bodies.length cb] B (jnH jb j * dkH j.db d) (fun v B' H' => ∃ d' : Dk, d'.abs = (addD d.abs (fileOf j) (allF bodies)).1 ∧ (((addD d.abs (fileOf j) (allF bodies)).2 ≠ 0 ∧ v = .tuple #[i64 0, i64 (addD d.abs (fileOf j) (allF bodies)).2] ∧ H' = jnH jb j * dkH j.db d') ∨ ((addD d.abs (fileOf j) (allF bodies)).2 = 0 ∧ v = .tuple #[i64 (j.l.length : Int), i64 0] ∧ ∃ Al cl, H' = jnH jb { j with last := fileOf j, long := (fileM ((fileOf j : Nat) : Int) d.abs.fs).now.length + (allF bodies).length, l := j.l ++ recsAt (fileOf j) (fileM ((fileOf j : Nat) : Int) d.abs.fs).now.length bodies, Al := Al, cl := cl } * dkH j.db d'))) := by
  have hF := hc.fit (by omega) (by omega) (by omega)
  have hc1 := hc.append ((fileOf j : Nat) : Int) (allF bodies)
  have hF1 := hc1.fit (by omega) (by omega) (by omega)
  have hnow := (hc.file ((fileOf j : Nat) : Int)).2.2.1
  have hfo : fileOf j ≤ 1000000002 := by unfold fileOf; split <;> omega
  refine Ct.of_body Try.func38 rfl (nt := 123) rfl (by kernel_rfl) rfl ?_
  intro N0 w0 R
  unfold jnH
  simp only [star_assoc]
  refine Cx.seq (fun K1 k1 => ?_)
  refine Cx.region ?_
  refine Lx.y (asg rfl) rfl ?_
  refine Lx.y (asg rfl) rfl ?_
  refine Lx.nil ?_
  refine Xx.tn (k1 _ _ _ _ ?_)
  refine Cx.seq (fun K2 k2 => ?_)
  refine Cx.seq (fun K3 k3 => ?_)
  refine Cx.region ?_
  refine Lx.y (mv rfl) rfl ?_
  refine Lx.y (Yx.ff (eqNilP Try.underlying70 rfl rfl) rfl) rfl ?_
  refine Lx.nil ?_
  refine Xx.tn (k3 _ _ _ _ ?_)
  refine Cx.condF rfl ?_
  refine Cx.skip ?_
  refine Xx.tn (k2 _ _ _ _ ?_)
  refine Cx.seq (fun K4 k4 => ?_)
  refine Cx.region ?_
  refine Lx.y (mv rfl) rfl ?_
  refine Lx.y (nilc rfl) rfl ?_
  refine Lx.y (fa' fo115_2 rfl) rfl ?_
  refine Lx.y (ld Try.underlying3 rfl rfl rfl) rfl ?_
  refine Lx.y (Yx.val (maxI rfl rfl) (show _ = i64 ((max j.last 1 : Nat) : Int) from by rw [max_val])) rfl ?_
  refine Lx.y (asg rfl) rfl ?_
  refine Lx.nil ?_
  refine Xx.tn (k4 _ _ _ _ ?_)
  refine Cx.cutK (ds' := []) (Sub.cons (s := 0) rfl (Sub.cons (s := 1) rfl (Sub.cons (s := 4) rfl (Sub.cons (s := 5) rfl (Sub.cons (s := 18) rfl (Sub.cons (s := 19) rfl (Sub.cons (s := 20) rfl (Sub.cons (s := 21) rfl (Sub.cons (s := 22) rfl (Sub.cons (s := 23) rfl (Sub.cons (s := 24) rfl (Sub.nil _)))))))))))) (fun ρ' B' H' => ρ' = [(6, i64 ((fileOf j : Nat) : Int))] ∧ B = B' ∧ row jb 115 (jcs j) * (sbuf 74 4 j.Al j.l.length j.cl (j.l.flatMap rcc) * (dkH j.db d * R)) = H') ?_ ?_
  · skip
    refine Cx.seq (fun K5 k5 => ?_)
    refine Cx.drawn (by kernel_rfl) ?_
    refine Dx.p (i := 0) rfl (by kernel_rfl) (mv rfl) rfl ?_
    refine Dx.p (i := 1) rfl (by kernel_rfl) (nilc rfl) rfl ?_
    refine Dx.p (i := 2) rfl (by kernel_rfl) (fa' fo115_3 rfl) rfl ?_
    refine Dx.r (i := 3) rfl (by kernel_rfl) (ld Try.underlying3 rfl rfl rfl) rfl ?_
    refine Dx.p (i := 4) rfl (by kernel_rfl) (mv rfl) rfl ?_
    refine Dx.p (i := 5) rfl (by kernel_rfl) (nilc rfl) rfl ?_
    refine Dx.p (i := 6) rfl (by kernel_rfl) (fa' fo115_1 rfl) rfl ?_
    refine Dx.r (i := 7) rfl (by kernel_rfl) (ld Try.underlying3 rfl rfl rfl) rfl ?_
    refine Dx.p (i := 8) rfl (by kernel_rfl) (geq rfl rfl) rfl ?_
    refine Dx.done (by kernel_rfl) ?_
    refine Xx.tn (k5 _ _ _ _ ?_)
    refine Cx.condD rfl (fun h6 => ?_) (fun h6 => ?_)
    · skip
      have hm := h6
      have hfile : fileOf j = max j.last 1 + 1 := by unfold fileOf; rw [if_pos hm]
      refine Cx.region ?_
      refine Lx.y (mv rfl) rfl ?_
      refine Lx.y (Yx.val (add rfl rfl (by first | exact wrap64 (by omega) (by omega) | rfl)) (show _ = i64 ((fileOf j : Nat) : Int) from by rw [hfile]; rfl)) rfl ?_
      refine Lx.y (asg rfl) rfl ?_
      refine Lx.nil ?_
      exact Xx.mkK (⟨rfl, rfl, by ac_rfl⟩) (Sub.cons (s := 6) rfl (Sub.cons (s := 0) rfl (Sub.cons (s := 1) rfl (Sub.cons (s := 4) rfl (Sub.cons (s := 5) rfl (Sub.cons (s := 18) rfl (Sub.cons (s := 19) rfl (Sub.cons (s := 20) rfl (Sub.cons (s := 21) rfl (Sub.cons (s := 22) rfl (Sub.cons (s := 23) rfl (Sub.cons (s := 24) rfl (Sub.nil _)))))))))))))
    · skip
      have hm := h6
      have hfile : fileOf j = max j.last 1 := by unfold fileOf; rw [if_neg hm]; rfl
      refine Cx.skip ?_
      exact Xx.mkK (⟨rfl, rfl, by ac_rfl⟩) (Sub.consE (s := 6) rfl (by rw [hfile]) (Sub.cons (s := 0) rfl (Sub.cons (s := 1) rfl (Sub.cons (s := 4) rfl (Sub.cons (s := 5) rfl (Sub.cons (s := 18) rfl (Sub.cons (s := 19) rfl (Sub.cons (s := 20) rfl (Sub.cons (s := 21) rfl (Sub.cons (s := 22) rfl (Sub.cons (s := 23) rfl (Sub.cons (s := 24) rfl (Sub.nil _)))))))))))))
  · rintro ρ' B' H' ⟨rfl, rfl, rfl⟩
    refine Cx.seq (fun K7 k7 => ?_)
    refine Cx.region ?_
    refine Lx.new (allocO ti122) rfl (fun b7 => ?_)
    refine Lx.nil ?_
    refine Xx.tn (k7 _ _ _ _ ?_)
    refine Cx.seq (fun K8 k8 => ?_)
    refine Cx.region ?_
    refine Lx.y (asg rfl) rfl ?_
    refine Lx.nil ?_
    refine Xx.tn (k8 _ _ _ _ ?_)
    refine Cx.seq (fun K9 k9 => ?_)
    refine Cx.seq (fun K10 k10 => ?_)
    refine Cx.region ?_
    refine Lx.y (mv rfl) rfl ?_
    refine Lx.y (lenV (ty' := 0) Try.underlying62 rfl) rfl ?_
    refine Lx.y (mv rfl) rfl ?_
    refine Lx.nil ?_
    refine Xx.tn (k10 _ _ _ _ ?_)
    refine Cx.block ?_
    refine Cx.loopK (Sub.cons (s := 0) rfl (Sub.cons (s := 1) rfl (Sub.cons (s := 6) rfl (Sub.cons (s := 7) rfl (Sub.cons (s := 18) rfl (Sub.cons (s := 19) rfl (Sub.cons (s := 20) rfl (Sub.cons (s := 21) rfl (Sub.cons (s := 22) rfl (Sub.cons (s := 23) rfl (Sub.cons (s := 24) rfl (Sub.cons (s := 36) rfl (Sub.cons (s := 37) rfl (Sub.nil _)))))))))))))) (fun m ρ' B' H' => ∃ (i : Nat) (u : Bool) (A3 : Option Addr) (c3 : Nat) (A : Option Addr) (c : Nat), (i ≤ bodies.length ∧ (A3 = none ∨ c3 ≠ 0)) ∧ m = bodies.length - i ∧ ρ' = [(8, .slice A i c), (38, i64 (i : Int))] ∧ B = B' ∧ row jb 115 (jcs j) * (sbuf 74 4 j.Al j.l.length j.cl (j.l.flatMap rcc) * (dkH j.db d * (row b7 122 (bcell b7 u A3 (allF (bodies.take i)).length c3) * (sbuf 5 1 A3 (allF (bodies.take i)).length c3 (u8s (allF (bodies.take i))) * (sbuf 74 4 A i c ((recsAt (fileOf j) 0 (bodies.take i)).flatMap rcc) * R))))) = H') ⟨0, false, none, 0, none, 0, ⟨Nat.zero_le _, .inl rfl⟩, rfl, rfl, rfl, by rw [List.take_zero]; show _ = row b7 _ (bcell b7 false none 0 0) * _; rw [show allF [] = [] from rfl, show recsAt (fileOf j) 0 [] = [] from rfl, show u8s [] = [] from rfl, List.length_nil, List.flatMap_nil, sbuf_nil, sbuf_nil, one_star, one_star]; ac_rfl⟩ (Sub.cons (s := 8) rfl (Sub.cons (s := 38) rfl (Sub.cons (s := 0) rfl (Sub.cons (s := 1) rfl (Sub.cons (s := 6) rfl (Sub.cons (s := 7) rfl (Sub.cons (s := 18) rfl (Sub.cons (s := 19) rfl (Sub.cons (s := 20) rfl (Sub.cons (s := 21) rfl (Sub.cons (s := 22) rfl (Sub.cons (s := 23) rfl (Sub.cons (s := 24) rfl (Sub.cons (s := 36) rfl (Sub.cons (s := 37) rfl (Sub.nil _)))))))))))))))) ?_
    rintro m ρ' B' H' ⟨i, u, A3, c3, A, c, ⟨hi, hz⟩, rfl, rfl, rfl, rfl⟩
    refine Cx.seq (fun K11 k11 => ?_)
    refine Cx.region ?_
    refine Lx.y (lss rfl rfl) rfl ?_
    refine Lx.nil ?_
    refine Xx.tn (k11 _ _ _ _ ?_)
    refine Cx.seq (fun K12 k12 => ?_)
    refine Cx.condD rfl (fun h13 => ?_) (fun h13 => ?_)
    · skip
      have hlt := h13
      have hlt : i < bodies.length := by omega
      obtain ⟨b0, o0, cs0, et0, fz0, hA0, hB0, hv0⟩ := hRb.at1 hlt
      obtain ⟨s, hs⟩ : ∃ s, s = bodies[i] := ⟨_, rfl⟩
      rw [List.getElem?_map, List.getElem?_eq_getElem hlt, ← hs] at hv0
      have hsl : s.length ≤ 65536 := by rw [hs]; exact hbs _ (List.getElem_mem hlt)
      have hat : (allF (bodies.take i)) ++ (headL s ++ s) = (allF (bodies.take (i + 1))) := by rw [List.take_succ_eq_append_getElem hlt, allF_snoc, hs]
      have hrt : (recsAt (fileOf j) 0 (bodies.take (i + 1))) = (recsAt (fileOf j) 0 (bodies.take i)) ++ [(⟨fileOf j, (allF (bodies.take i)).length + 12, s, true⟩ : Rc)] := by rw [List.take_succ_eq_append_getElem hlt, recsAt_snoc, Nat.zero_add, hs]
      have hal := allF_len_take bodies i
      have hal2 := allF_len_take bodies (i + 1)
      rw [← hat, List.length_append, List.length_append, headL_len] at hal2
      refine Cx.skip ?_
      refine Xx.tn (k12 _ _ _ _ ?_)
      refine Cx.seq (fun K14 k14 => ?_)
      refine Cx.block ?_
      refine Cx.seq (fun K15 k15 => ?_)
      refine Cx.region ?_
      refine Lx.y (Yx.val (ia (b := b0) (o := o0) Try.underlying62 sz9 (by rw [← hA0]; rfl) rfl (Int.toNat_natCast _) (by omega) (by omega)) rfl) rfl ?_
      refine Lx.y (ldB Try.underlying9 rfl rfl hB0 hv0) rfl ?_
      refine Lx.y (asg rfl) rfl ?_
      refine Lx.nil ?_
      refine Xx.tn (k15 _ _ _ _ ?_)
      refine Cx.seq (fun K16 k16 => ?_)
      refine Cx.region ?_
      refine Lx.y (mv rfl) rfl ?_
      refine Lx.cp rfl rfl rfl (Fr7.MakeY_ct s _ hsl) rfl ?_
      refine Lx.y (mv rfl) rfl ?_
      refine Lx.y (ext rfl rfl) rfl ?_
      refine Lx.y (ext rfl rfl) rfl ?_
      refine Lx.y (asg rfl) rfl ?_
      refine Lx.y (asg rfl) rfl ?_
      refine Lx.nil ?_
      refine Xx.tn (k16 _ _ _ _ ?_)
      refine Cx.seq (fun K17 k17 => ?_)
      refine Cx.seq (fun K18 k18 => ?_)
      refine Cx.region ?_
      refine Lx.y (mv rfl) rfl ?_
      refine Lx.y (Yx.ff (neI rfl rfl) rfl) rfl ?_
      refine Lx.nil ?_
      refine Xx.tn (k18 _ _ _ _ ?_)
      refine Cx.condF rfl ?_
      refine Cx.skip ?_
      refine Xx.tn (k17 _ _ _ _ ?_)
      refine Cx.seq (fun K19 k19 => ?_)
      refine Cx.region ?_
      refine Lx.y (mv rfl) rfl ?_
      refine Lx.y (mv rfl) rfl ?_
      refine Lx.co rfl rfl rfl (BLen_ct b7 u A3 (allF (bodies.take i)).length c3 _) (PickB.eq) rfl ?_
      refine Lx.y (Yx.val (add rfl rfl (by first | exact wrap64 (by omega) (by omega) | rfl)) (show _ = i64 (((allF (bodies.take i)).length + 12 : Nat) : Int) from rfl)) rfl ?_
      refine Lx.y (mv rfl) rfl ?_
      refine Lx.y (bld ti74 pl74 rfl rfl) rfl ?_
      refine Lx.bsl (bslA Try.underlying113 ti74 rfl rfl (by decide)) rfl (fun bv => ?_)
      refine Lx.o (appN (et := 74) (A := A) (i + 1) (rcc ⟨fileOf j, (allF (bodies.take i)).length + 12, s, true⟩) ((recsAt (fileOf j) 0 (bodies.take (i + 1))).flatMap rcc) Try.underlying113 Try.underlying113 ti74 rfl rfl rfl rfl rfl (by omega) (by omega) rfl (by rw [hrt]; simp only [List.flatMap_append, List.flatMap_cons, List.flatMap_nil, List.append_nil])) rfl (fun v B' H' hΦ hB => ?_)
      obtain ⟨A2, c2, rfl, hA2, hl2, hc2, hBB, rfl⟩ := hΦ
      have hBB2 := hBB.symm
      subst hBB2
      refine Xx.dropB bv ?_
      clear hB
      refine Lx.y (asg rfl) rfl ?_
      refine Lx.nil ?_
      refine Xx.tn (k19 _ _ _ _ ?_)
      refine Cx.region ?_
      refine Lx.y (mv rfl) rfl ?_
      refine Lx.c rfl rfl rfl (BWrite_ct b7 u A3 (allF (bodies.take i)) (headL s ++ s) c3 _ (by rw [List.length_append, headL_len]; omega)) (pickTwo) rfl ?_
      rintro v4 B4 H4 ⟨hBB, rfl, A4, c4, hc4, rfl⟩ hB4
      have hBB2 := hBB.symm
      subst hBB2
      clear hB4
      simp only [star_assoc]
      refine Lx.nil ?_
      refine Xx.bn ?_
      refine Xx.tn (k14 _ _ _ _ ?_)
      refine Cx.region ?_
      refine Lx.y (Yx.val (add rfl rfl (by first | exact wrap64 (by omega) (by omega) | rfl)) (show _ = i64 ((i + 1 : Nat) : Int) from rfl)) rfl ?_
      refine Lx.y (mv rfl) rfl ?_
      refine Lx.nil ?_
      exact Xx.againK ⟨i + 1, true, A4, c4, A2, c2, ⟨hlt, .inr (hc4 (by rw [List.length_append, List.length_append, headL_len]; omega))⟩, rfl, rfl, rfl, (by rw [hrt, ← hat]; ac_rfl)⟩ (by omega) (Sub.cons (s := 8) rfl (Sub.cons (s := 38) rfl (Sub.cons (s := 0) rfl (Sub.cons (s := 1) rfl (Sub.cons (s := 6) rfl (Sub.cons (s := 7) rfl (Sub.cons (s := 18) rfl (Sub.cons (s := 19) rfl (Sub.cons (s := 20) rfl (Sub.cons (s := 21) rfl (Sub.cons (s := 22) rfl (Sub.cons (s := 23) rfl (Sub.cons (s := 24) rfl (Sub.cons (s := 36) rfl (Sub.cons (s := 37) rfl (Sub.nil _))))))))))))))))
    · skip
      have hge := h13
      obtain rfl : i = bodies.length := by omega
      rw [List.take_length]
      refine Cx.exit ?_
      refine Xx.te ?_
      refine Xx.te ?_
      refine Xx.bh ?_
      refine Xx.tn (k9 _ _ _ _ ?_)
      refine Cx.seq (fun K20 k20 => ?_)
      refine Cx.drawn (by kernel_rfl) ?_
      refine Dx.p (i := 0) rfl (by kernel_rfl) (mv rfl) rfl ?_
      refine Dx.p (i := 1) rfl (by kernel_rfl) (nilc rfl) rfl ?_
      refine Dx.p (i := 2) rfl (by kernel_rfl) (fa' fo115_0 rfl) rfl ?_
      refine Dx.r (i := 3) rfl (by kernel_rfl) (ld Try.underlying26 rfl rfl rfl) rfl ?_
      refine Dx.p (i := 4) rfl (by kernel_rfl) (mv rfl) rfl ?_
      refine Dx.one (i := 5) (by kernel_rfl) ?_
      refine Dstep.o (i := 5) rfl (Ox.co rfl rfl rfl (BString_ct b7 u A3 (allF bodies) c3 _ hz (by omega)) (pickTwo)) rfl (fun v B' H' hΦ hB => ?_)
      obtain ⟨rfl, hBB, rfl⟩ := hΦ; have hBB2 := hBB.symm; subst hBB2; clear hB
      refine ⟨JOk.yes (JOk.top) (ld Try.underlying26 rfl rfl rfl), ?_⟩
      refine Dx.one (i := 6) (by kernel_rfl) ?_
      refine Dstep.o (i := 6) rfl (Ox.call rfl rfl rfl (Append_ct d j.db ((fileOf j : Nat) : Int) (allF bodies) _ hF (by omega)) (Pick.eq)) rfl (fun v B' H' hΦ hB => ?_)
      obtain ⟨_, rfl, hΦ⟩ := hΦ
      obtain ⟨rfl, d1, hd1, rfl⟩ := hΦ
      have hB2 := hB
      refine ⟨JOk.edge (JOk.top) (by kernel_rfl), ?_⟩
      refine Dx.p (i := 7) rfl (by kernel_rfl) (mv rfl) rfl ?_
      refine Dx.p (i := 8) rfl (by kernel_rfl) (ext rfl rfl) rfl ?_
      refine Dx.p (i := 9) rfl (by kernel_rfl) (ext rfl rfl) rfl ?_
      refine Dx.p (i := 10) rfl (by kernel_rfl) (asg rfl) rfl ?_
      refine Dx.p (i := 11) rfl (by kernel_rfl) (asg rfl) rfl ?_
      refine Dx.done (by kernel_rfl) ?_
      refine Xx.tn (k20 _ _ _ _ ?_)
      refine Cx.seq (fun K21 k21 => ?_)
      refine Cx.seq (fun K22 k22 => ?_)
      refine Cx.region ?_
      refine Lx.y (mv rfl) rfl ?_
      refine Lx.y (neI rfl rfl) rfl ?_
      refine Lx.nil ?_
      refine Xx.tn (k22 _ _ _ _ ?_)
      refine Cx.condN rfl (fun h23 => ?_) (fun h23 => ?_)
      · skip
        have he1 := h23
        have had : addD d.abs (fileOf j) (allF bodies) = ((appendD d.abs ((fileOf j : Nat) : Int) (allF bodies)).1, (appendD d.abs ((fileOf j : Nat) : Int) (allF bodies)).2.2) := by unfold addD; rw [if_pos he1]
        refine Cx.seq (fun K24 k24 => ?_)
        refine Cx.region ?_
        refine Lx.y (mv rfl) rfl ?_
        refine Lx.y (asg rfl) rfl ?_
        refine Lx.y (asg rfl) rfl ?_
        refine Lx.nil ?_
        refine Xx.tn (k24 _ _ _ _ ?_)
        refine Cx.ret ?_
        refine Xx.tr ?_
        refine Xx.dropB b7 (Xx.dropT A ?_)
        exact Xx.ret2 rfl rfl rfl ⟨d1, by rw [had]; exact hd1, .inl ⟨by rw [had]; exact he1, by rw [had]; rfl, rfl⟩⟩ hB2 (by ac_rfl)
      · skip
        have he1 := h23
        have had : addD d.abs (fileOf j) (allF bodies) = syncD (appendD d.abs ((fileOf j : Nat) : Int) (allF bodies)).1 ((fileOf j : Nat) : Int) := by unfold addD; rw [if_neg (fun h => h he1)]
        have hapat := append_at he1
        refine Cx.skip ?_
        refine Xx.tn (k21 _ _ _ _ ?_)
        refine Cx.seq (fun K25 k25 => ?_)
        refine Cx.seq (fun K26 k26 => ?_)
        refine Cx.region ?_
        refine Lx.y (mv rfl) rfl ?_
        refine Lx.y (nilc rfl) rfl ?_
        refine Lx.y (fa' fo115_0 rfl) rfl ?_
        refine Lx.y (ld Try.underlying26 rfl rfl rfl) rfl ?_
        refine Lx.y (mv rfl) rfl ?_
        refine Lx.c rfl rfl rfl (Sync_ct d1 j.db ((fileOf j : Nat) : Int) _ (by rw [hd1]; exact hF1)) (rfl) rfl ?_
        rintro v3 B3 H3 ⟨rfl, d2, hd2, rfl⟩ hB3
        rw [hd1] at hd2 ⊢
        rw [← had] at hd2 ⊢
        refine Lx.y (asg rfl) rfl ?_
        refine Lx.nil ?_
        refine Xx.tn (k26 _ _ _ _ ?_)
        refine Cx.seq (fun K27 k27 => ?_)
        refine Cx.region ?_
        refine Lx.y (mv rfl) rfl ?_
        refine Lx.y (neI rfl rfl) rfl ?_
        refine Lx.nil ?_
        refine Xx.tn (k27 _ _ _ _ ?_)
        refine Cx.condN rfl (fun h28 => ?_) (fun h28 => ?_)
        · skip
          have he2 := h28
          refine Cx.seq (fun K29 k29 => ?_)
          refine Cx.region ?_
          refine Lx.y (mv rfl) rfl ?_
          refine Lx.y (asg rfl) rfl ?_
          refine Lx.y (asg rfl) rfl ?_
          refine Lx.nil ?_
          refine Xx.tn (k29 _ _ _ _ ?_)
          refine Cx.ret ?_
          refine Xx.tr ?_
          refine Xx.dropB b7 (Xx.dropT A ?_)
          exact Xx.ret2 rfl rfl rfl ⟨d2, hd2, .inl ⟨he2, rfl, rfl⟩⟩ (Frag.le_trans hB2 hB3) (by ac_rfl)
        · skip
          have he2 := h28
          refine Cx.skip ?_
          refine Xx.tn (k25 _ _ _ _ ?_)
          refine Cx.seq (fun K30 k30 => ?_)
          refine Cx.seq (fun K31 k31 => ?_)
          refine Cx.region ?_
          refine Lx.y (mv rfl) rfl ?_
          refine Lx.y (lenV (ty' := 0) Try.underlying113 rfl) rfl ?_
          refine Lx.y (mv rfl) rfl ?_
          refine Lx.nil ?_
          refine Xx.tn (k31 _ _ _ _ ?_)
          refine Cx.block ?_
          refine Cx.loopK (Sub.cons (s := 0) rfl (Sub.cons (s := 1) rfl (Sub.cons (s := 6) rfl (Sub.cons (s := 7) rfl (Sub.cons (s := 8) rfl (Sub.cons (s := 13) rfl (Sub.cons (s := 14) rfl (Sub.cons (s := 15) rfl (Sub.cons (s := 18) rfl (Sub.cons (s := 19) rfl (Sub.cons (s := 20) rfl (Sub.cons (s := 21) rfl (Sub.cons (s := 22) rfl (Sub.cons (s := 23) rfl (Sub.cons (s := 24) rfl (Sub.cons (s := 36) rfl (Sub.cons (s := 37) rfl (Sub.cons (s := 38) rfl (Sub.cons (s := 39) rfl (Sub.cons (s := 61) rfl (Sub.cons (s := 62) rfl (Sub.cons (s := 63) rfl (Sub.cons (s := 64) rfl (Sub.cons (s := 65) rfl (Sub.cons (s := 66) rfl (Sub.cons (s := 67) rfl (Sub.cons (s := 68) rfl (Sub.cons (s := 69) rfl (Sub.cons (s := 70) rfl (Sub.cons (s := 71) rfl (Sub.cons (s := 72) rfl (Sub.cons (s := 74) rfl (Sub.cons (s := 75) rfl (Sub.cons (s := 76) rfl (Sub.cons (s := 77) rfl (Sub.cons (s := 78) rfl (Sub.cons (s := 79) rfl (Sub.cons (s := 80) rfl (Sub.cons (s := 81) rfl (Sub.cons (s := 83) rfl (Sub.cons (s := 84) rfl (Sub.nil _)))))))))))))))))))))))))))))))))))))))))) (fun m ρ' B' H' => ∃ (i : Nat), (i ≤ bodies.length) ∧ m = bodies.length - i ∧ ρ' = [(85, i64 (i : Int))] ∧ B3 = B' ∧ row jb 115 (jcs j) * (sbuf 74 4 j.Al j.l.length j.cl (j.l.flatMap rcc) * (dkH j.db d2 * (row b7 122 (bcell b7 u A3 (allF bodies).length c3) * (sbuf 74 4 A bodies.length c ((mixF (fileM ((fileOf j : Nat) : Int) d.abs.fs).now.length (recsAt (fileOf j) 0 bodies) i).flatMap rcc) * R)))) = H') ⟨0, Nat.zero_le _, rfl, rfl, rfl, (by show _ * (_ * (_ * (_ * (sbuf _ 4 A bodies.length c (((recsAt (fileOf j) 0 bodies)).flatMap rcc) * R)))) = _; ac_rfl)⟩ (Sub.cons (s := 85) rfl (Sub.cons (s := 0) rfl (Sub.cons (s := 1) rfl (Sub.cons (s := 6) rfl (Sub.cons (s := 7) rfl (Sub.cons (s := 8) rfl (Sub.cons (s := 13) rfl (Sub.cons (s := 14) rfl (Sub.cons (s := 15) rfl (Sub.cons (s := 18) rfl (Sub.cons (s := 19) rfl (Sub.cons (s := 20) rfl (Sub.cons (s := 21) rfl (Sub.cons (s := 22) rfl (Sub.cons (s := 23) rfl (Sub.cons (s := 24) rfl (Sub.cons (s := 36) rfl (Sub.cons (s := 37) rfl (Sub.cons (s := 38) rfl (Sub.cons (s := 39) rfl (Sub.cons (s := 61) rfl (Sub.cons (s := 62) rfl (Sub.cons (s := 63) rfl (Sub.cons (s := 64) rfl (Sub.cons (s := 65) rfl (Sub.cons (s := 66) rfl (Sub.cons (s := 67) rfl (Sub.cons (s := 68) rfl (Sub.cons (s := 69) rfl (Sub.cons (s := 70) rfl (Sub.cons (s := 71) rfl (Sub.cons (s := 72) rfl (Sub.cons (s := 74) rfl (Sub.cons (s := 75) rfl (Sub.cons (s := 76) rfl (Sub.cons (s := 77) rfl (Sub.cons (s := 78) rfl (Sub.cons (s := 79) rfl (Sub.cons (s := 80) rfl (Sub.cons (s := 81) rfl (Sub.cons (s := 83) rfl (Sub.cons (s := 84) rfl (Sub.nil _))))))))))))))))))))))))))))))))))))))))))) ?_
          rintro m ρ' B' H' ⟨i, hi2, rfl, rfl, rfl, rfl⟩
          refine Cx.seq (fun K32 k32 => ?_)
          refine Cx.region ?_
          refine Lx.y (lss rfl rfl) rfl ?_
          refine Lx.nil ?_
          refine Xx.tn (k32 _ _ _ _ ?_)
          refine Cx.seq (fun K33 k33 => ?_)
          refine Cx.condD rfl (fun h34 => ?_) (fun h34 => ?_)
          · skip
            have hlt := h34
            have hlt : i < bodies.length := by omega
            have hrl : i < (recsAt (fileOf j) 0 bodies).length := by rw [recsAt_len]; exact hlt
            have hml : i < (mixF (fileM ((fileOf j : Nat) : Int) d.abs.fs).now.length (recsAt (fileOf j) 0 bodies) i).length := by rw [mix_len]; exact hrl
            have hra := rec_bound (fileOf j) bodies 0 i hrl
            refine Xx.openT A (by omega) (fun bA sp hA hxl hnc hcl => ?_)
            refine Cx.skip ?_
            refine Xx.tn (k33 _ _ _ _ ?_)
            refine Cx.seq (fun K35 k35 => ?_)
            refine Cx.block ?_
            refine Cx.seq (fun K36 k36 => ?_)
            refine Cx.region ?_
            refine Lx.y (mv rfl) rfl ?_
            refine Lx.y (asg rfl) rfl ?_
            refine Lx.nil ?_
            refine Xx.tn (k36 _ _ _ _ ?_)
            refine Cx.region ?_
            refine Lx.y (Yx.val (mv rfl) (show _ = Value.slice (some ⟨bA, 0, none⟩) bodies.length c from by rw [← hA])) rfl ?_
            refine Lx.y (mv rfl) rfl ?_
            refine Lx.y (ia Try.underlying113 sz74 rfl rfl (Int.toNat_natCast _) (by omega) (by omega)) rfl ?_
            refine Lx.y (fa' fo74_1 rfl) rfl ?_
            refine Lx.y (ld Try.underlying3 rfl rfl (v := i64 (((recsAt (fileOf j) 0 bodies)[i].at_ : Nat) : Int)) (by rw [Nat.zero_add, List.getElem?_append_left (by rw [DkF.flatG_len rcc_len]; omega), rcc_at _ hml, mix_at _ _ hrl])) rfl ?_
            refine Lx.y (Yx.val (mv rfl) (show _ = i64 (((fileM ((fileOf j : Nat) : Int) d.abs.fs).now.length : Nat) : Int) from by rw [hapat]; rfl)) rfl ?_
            refine Lx.y (Yx.val (add rfl rfl (by first | exact wrap64 (by omega) (by omega) | rfl)) (show _ = i64 (((recsAt (fileOf j) 0 bodies)[i].at_ + (fileM ((fileOf j : Nat) : Int) d.abs.fs).now.length : Nat) : Int) from rfl)) rfl ?_
            refine Lx.y (ia Try.underlying113 sz74 rfl rfl (Int.toNat_natCast _) (by omega) (by omega)) rfl ?_
            refine Lx.y (fa' fo74_1 rfl) rfl ?_
            refine Lx.st (stO Try.underlying3 sz3 rfl rfl rfl (by rw [List.length_append, DkF.flatG_len rcc_len]; omega) (frc_gen _ _)) ?_
            refine Lx.nil ?_
            refine Xx.bn ?_
            refine Xx.tn (k35 _ _ _ _ ?_)
            refine Xx.closeT bA ((mixF (fileM ((fileOf j : Nat) : Int) d.abs.fs).now.length (recsAt (fileOf j) 0 bodies) (i + 1)).flatMap rcc) sp 4 bodies.length c (by rw [Nat.zero_add, List.set_append_left _ _ (by rw [DkF.flatG_len rcc_len]; omega), rcc_set _ _ hml, mix_at _ _ hrl, ← mix_set _ _ hrl]; rfl) (by rw [DkF.flatG_len rcc_len, mix_len, recsAt_len]) hnc (by rw [List.length_append, DkF.flatG_len rcc_len, mix_len]; rw [List.length_append, DkF.flatG_len rcc_len, mix_len] at hcl; exact hcl) ?_
            refine Cx.region ?_
            refine Lx.y (Yx.val (add rfl rfl (by first | exact wrap64 (by omega) (by omega) | rfl)) (show _ = i64 ((i + 1 : Nat) : Int) from rfl)) rfl ?_
            refine Lx.y (mv rfl) rfl ?_
            refine Lx.nil ?_
            exact Xx.againK ⟨i + 1, hlt, rfl, rfl, rfl, (by rw [← hA]; ac_rfl)⟩ (by omega) (Sub.cons (s := 85) rfl (Sub.cons (s := 0) rfl (Sub.cons (s := 1) rfl (Sub.cons (s := 6) rfl (Sub.cons (s := 7) rfl (Sub.cons (s := 8) rfl (Sub.cons (s := 13) rfl (Sub.cons (s := 14) rfl (Sub.cons (s := 15) rfl (Sub.cons (s := 18) rfl (Sub.cons (s := 19) rfl (Sub.cons (s := 20) rfl (Sub.cons (s := 21) rfl (Sub.cons (s := 22) rfl (Sub.cons (s := 23) rfl (Sub.cons (s := 24) rfl (Sub.cons (s := 36) rfl (Sub.cons (s := 37) rfl (Sub.cons (s := 38) rfl (Sub.cons (s := 39) rfl (Sub.cons (s := 61) rfl (Sub.cons (s := 62) rfl (Sub.cons (s := 63) rfl (Sub.cons (s := 64) rfl (Sub.cons (s := 65) rfl (Sub.cons (s := 66) rfl (Sub.cons (s := 67) rfl (Sub.cons (s := 68) rfl (Sub.cons (s := 69) rfl (Sub.cons (s := 70) rfl (Sub.cons (s := 71) rfl (Sub.cons (s := 72) rfl (Sub.cons (s := 74) rfl (Sub.cons (s := 75) rfl (Sub.cons (s := 76) rfl (Sub.cons (s := 77) rfl (Sub.cons (s := 78) rfl (Sub.cons (s := 79) rfl (Sub.cons (s := 80) rfl (Sub.cons (s := 81) rfl (Sub.cons (s := 83) rfl (Sub.cons (s := 84) rfl (Sub.nil _)))))))))))))))))))))))))))))))))))))))))))
          · skip
            have hge := h34
            obtain rfl : i = bodies.length := by omega
            have hmx : (mixF (fileM ((fileOf j : Nat) : Int) d.abs.fs).now.length (recsAt (fileOf j) 0 bodies) bodies.length) = recsAt (fileOf j) (fileM ((fileOf j : Nat) : Int) d.abs.fs).now.length bodies := by
              have h1 := mix_all (fileM ((fileOf j : Nat) : Int) d.abs.fs).now.length (recsAt (fileOf j) 0 bodies)
              rw [recsAt_len, recsAt_sh, Nat.zero_add] at h1; exact h1
            rw [hmx]
            refine Xx.freezeT A fun B9 hB9 hRo hnc9 _ => ?_
            refine Cx.exit ?_
            refine Xx.te ?_
            refine Xx.te ?_
            refine Xx.bh ?_
            refine Xx.tn (k30 _ _ _ _ ?_)
            refine Cx.seq (fun K37 k37 => ?_)
            refine Cx.region ?_
            refine Lx.y (mv rfl) rfl ?_
            refine Lx.y (nilc rfl) rfl ?_
            refine Lx.y (fa' fo115_4 rfl) rfl ?_
            refine Lx.y (ld Try.underlying113 rfl rfl rfl) rfl ?_
            refine Lx.y (lenV (ty' := 0) Try.underlying113 rfl) rfl ?_
            refine Lx.y (asg rfl) rfl ?_
            refine Lx.nil ?_
            refine Xx.tn (k37 _ _ _ _ ?_)
            refine Cx.seq (fun K38 k38 => ?_)
            refine Cx.region ?_
            refine Lx.y (mv rfl) rfl ?_
            refine Lx.y (mv rfl) rfl ?_
            refine Lx.y (nilc rfl) rfl ?_
            refine Lx.y (fa' fo115_4 rfl) rfl ?_
            refine Lx.y (ld Try.underlying113 rfl rfl rfl) rfl ?_
            refine Lx.y (mv rfl) rfl ?_
            refine Lx.o (appB (et := 74) (A := j.Al) (j.l.length + bodies.length) ((j.l ++ recsAt (fileOf j) (fileM ((fileOf j : Nat) : Int) d.abs.fs).now.length bodies).flatMap rcc) Try.underlying113 Try.underlying113 ti74 rfl rfl hRo (rcc_all _) (by omega) (by omega) rfl (by rw [List.flatMap_append])) rfl (fun v B' H' hΦ hB => ?_)
            obtain ⟨A9, c9, rfl, hA9, hc9, hBB, rfl⟩ := hΦ
            have hBB2 := hBB.symm
            subst hBB2
            clear hB
            refine Lx.y (nilc rfl) rfl ?_
            refine Lx.y (fa' fo115_4 rfl) rfl ?_
            refine Lx.st (stO Try.underlying113 sz113 rfl rfl rfl (by show 4 < 5; omega) rfl) ?_
            refine Lx.nil ?_
            refine Xx.tn (k38 _ _ _ _ ?_)
            refine Cx.seq (fun K39 k39 => ?_)
            refine Cx.region ?_
            refine Lx.y (mv rfl) rfl ?_
            refine Lx.y (mv rfl) rfl ?_
            refine Lx.y (mv rfl) rfl ?_
            refine Lx.y (Yx.val (mv rfl) (show _ = i64 (((fileM ((fileOf j : Nat) : Int) d.abs.fs).now.length : Nat) : Int) from by rw [hapat]; rfl)) rfl ?_
            refine Lx.co rfl rfl rfl (BLen_ct b7 u A3 (allF bodies).length c3 _) (PickB.eq) rfl ?_
            refine Lx.y (Yx.val (add rfl rfl (by first | exact wrap64 (by omega) (by omega) | rfl)) (show _ = i64 (((fileM ((fileOf j : Nat) : Int) d.abs.fs).now.length + (allF bodies).length : Nat) : Int) from rfl)) rfl ?_
            refine Lx.y (nilc rfl) rfl ?_
            refine Lx.y (fa' fo115_2 rfl) rfl ?_
            refine Lx.st (stO Try.underlying3 sz3 rfl rfl rfl (by show 2 < 5; omega) rfl) ?_
            refine Lx.y (nilc rfl) rfl ?_
            refine Lx.y (fa' fo115_3 rfl) rfl ?_
            refine Lx.st (stO Try.underlying3 sz3 rfl rfl rfl (by show 3 < 5; omega) rfl) ?_
            refine Lx.nil ?_
            refine Xx.tn (k39 _ _ _ _ ?_)
            refine Cx.seq (fun K40 k40 => ?_)
            refine Cx.region ?_
            refine Lx.y (mv rfl) rfl ?_
            refine Lx.y (asg rfl) rfl ?_
            refine Lx.y (asg rfl) rfl ?_
            refine Lx.nil ?_
            refine Xx.tn (k40 _ _ _ _ ?_)
            refine Cx.ret ?_
            refine Xx.dropB b7 ?_
            have hnl : (j.l ++ recsAt (fileOf j) (fileM ((fileOf j : Nat) : Int) d.abs.fs).now.length bodies).length = j.l.length + bodies.length := by rw [List.length_append, recsAt_len]
            exact Xx.ret2 rfl rfl rfl ⟨d2, hd2, .inr ⟨he2, rfl, A9, c9, rfl⟩⟩ (Frag.le_trans (Frag.le_trans hB2 hB3) hB9) (by unfold jcs; dsimp only; rw [hnl]; ac_rfl)
end Jn3
end Go.Proofs.Ytgcebieihmlaoaa
