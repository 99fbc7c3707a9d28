/-
  Contracts of functions that own nothing; loops that keep slots; struct literals.
-/
import Derived.Test.YtgcebieihmlaoaaSlg
namespace Go.SL
open Go.RowKit
set_option linter.unusedSimpArgs false
set_option linter.unusedVariables false

/-- A function that owns nothing and hands back nothing owned: what is only read may grow. -/
def CtB (P : Program) (f : FuncId) (args : List Value) (B : Frag) (Φ : Value → Frag → Prop) : Prop :=
  (∀ args w, (callFunc f args).run P w = .ok (.enter f args) w) ∧
  ∀ (N0 : Nat) (w : World) (R : HP), St N0 B R w → Calls P f args.toArray w fun x w' => ∃ v B', x = .returned v ∧ Φ v B' ∧ B.le B' ∧ Below N0 w w' ∧ St N0 B' R w'
def FinB (N0 : Nat) (w0 : World) (R : HP) (B : Frag) (Φ : Value → Frag → Prop) (x : Ending) (w' : World) : Prop :=
  ∃ v B', x = .returned v ∧ Φ v B' ∧ B.le B' ∧ Below N0 w0 w' ∧ St N0 B' R w'
/-- One that hands back v, whatever the state. -/
abbrev CtP (P : Program) (f : FuncId) (args : List Value) (B : Frag) (v : Value) : Prop := CtB P f args B fun v' B' => v' = v ∧ B' = B

section
variable {e : Env} {ds : List Deferred} {Q : Exit → Act → World → Prop} {ρ ρ' : Sl} {B B' B0 : Frag} {H H' R : HP} {K : Act → World → Prop} {P : Program}

theorem CtB.ct {f : FuncId} {args : List Value} {Φ : Value → Frag → Prop} (h : CtB P f args B Φ) : Ct P f args B 1 (fun v B' H' => Φ v B' ∧ H' = 1) :=
  ⟨h.1, fun N0 w R s => (h.2 N0 w R (by rw [← one_star R]; exact s)).mono fun x w' ⟨v, B', h1, h2, h3, h4, h5⟩ => ⟨v, B', 1, h1, ⟨h2, rfl⟩, h3, h4, by rw [one_star]; exact h5⟩⟩
theorem CtB.of_ct {f : FuncId} {args : List Value} {Φ : Value → Frag → Prop} (h : Ct P f args B 1 (fun v B' H' => Φ v B' ∧ H' = 1)) : CtB P f args B Φ :=
  ⟨h.1, fun N0 w R s => (h.2 N0 w R (by rw [one_star]; exact s)).mono fun x w' ⟨v, B', H', h1, ⟨h2, h6⟩, h3, h4, h5⟩ => ⟨v, B', h1, h2, h3, h4, by subst h6; rw [one_star] at h5; exact h5⟩⟩
theorem CtB.mono {f : FuncId} {args : List Value} {Φ Φ' : Value → Frag → Prop} (h : CtB P f args B Φ) (hm : ∀ v B', Φ v B' → Φ' v B') : CtB P f args B Φ' :=
  ⟨h.1, fun N0 w R s => (h.2 N0 w R s).mono fun _ _ ⟨v, B', a, b, c⟩ => ⟨v, B', a, hm _ _ b, c⟩⟩

theorem CtB.of_body {f : FuncId} {fn : Func} {c : Code} {args : List Value} {Φ : Value → Frag → Prop} {nt : Nat}
    (hf : P.funcs[f]? = some fn) (hb : fn.body = some c) (hnt : fn.ntmps = nt) (hn : (fn.name == "runtime.NumGoroutine") = false) (hs : Nat.ble args.length nt = true)
    (h : ∀ (N0 : Nat) (w0 : World) (R : HP), Cx ⟨P, none, N0, w0, nt⟩ [] c (bodyPost P fn (FinB N0 w0 R B Φ)) (mk0 0 args) B R) : CtB P f args B Φ :=
  ⟨enters_of hf hb hn, fun N0 w R s => by
    refine (callsIn_FW (r := none) (n := 0)).1 (callsIn_of_wp hf hb trivial ?_)
    rw [hnt]
    exact h N0 w R _ w (Fr.start hs) (Below.refl _ _) s⟩
theorem CtB.of_bodyM {f : FuncId} {fn : Func} {c : Code} {args : List Value} {Φ : Value → Frag → Prop} {nt : Nat}
    (hf : P.funcs[f]? = some fn) (hb : fn.body = some c) (hnt : fn.ntmps = nt) (hn : (fn.name == "runtime.NumGoroutine") = false) (hs : Nat.ble args.length nt = true)
    (h : ∀ (N0 : Nat) (w0 : World) (R : HP), Cx ⟨P, none, N0, w0, nt⟩ [] c (bodyPostM (FW none) 0 P fn (FinB N0 w0 R B Φ)) (mk0 0 args) B R) : CtB P f args B Φ :=
  ⟨enters_of hf hb hn, fun N0 w R s => by
    refine (callsIn_FW (r := none) (n := 0)).1 (callsIn_of_wp_marks hf hb trivial ?_)
    rw [hnt]
    exact h N0 w R _ w (Fr.start hs) (Below.refl _ _) s⟩

/-- A result: out of a slot, or out of a cell. -/
def rv (ρ : Sl) : ResultVar → Option Value
  | .tmp t => lk ρ t
  | .cell _ _ => none
def rvs (ρ : Sl) : List ResultVar → Option (List Value)
  | [] => some []
  | x :: xs => match rv ρ x, rvs ρ xs with
    | some v, some vs => some (v :: vs)
    | _, _ => none

theorem Xx.rB {fn : Func} {N0 nt : Nat} {w0 : World} {r : Option Nat} {Φ : Value → Frag → Prop} {v : Value} (hr : ∀ a w, Fr ρ nt [] a → St N0 B H w → (results fn a.tmps).run P w = .ok v w)
    (hΦ : Φ v B) (hB : B0.le B) (hH : H = R) : Xx ⟨P, r, N0, w0, nt⟩ [] (bodyPost P fn (FinB N0 w0 R B0 Φ) .ret) ρ B H := fun a w f b s =>
  ⟨f.defers, v, hr a w f s, v, B, rfl, hΦ, hB, b, hH ▸ s⟩
theorem Xx.rB1 {fn : Func} {N0 nt : Nat} {w0 : World} {r : Option Nat} {Φ : Value → Frag → Prop} {t : Tmp} {v : Value} (hr : fn.results = #[.tmp t]) (hv : lk ρ t = some v)
    (hΦ : Φ v B) (hB : B0.le B) (hH : H = R) : Xx ⟨P, r, N0, w0, nt⟩ [] (bodyPost P fn (FinB N0 w0 R B0 Φ) .ret) ρ B H :=
  Xx.rB (fun a w f _ => by rw [results_tmp hr]; have := f.get t v hv; simp [this]) hΦ hB hH
theorem Xx.rB2 {fn : Func} {N0 nt : Nat} {w0 : World} {r : Option Nat} {Φ : Value → Frag → Prop} {t u : Tmp} {v x : Value} (hr : fn.results = #[.tmp t, .tmp u]) (hv : lk ρ t = some v) (hx : lk ρ u = some x)
    (hΦ : Φ (.tuple #[v, x]) B) (hB : B0.le B) (hH : H = R) : Xx ⟨P, r, N0, w0, nt⟩ [] (bodyPost P fn (FinB N0 w0 R B0 Φ) .ret) ρ B H :=
  Xx.rB (fun a w f _ => by rw [results_tmp2 hr]; have h1 := f.get t v hv; have h2 := f.get u x hx; simp [h1, h2]) hΦ hB hH
theorem Xx.rB0 {fn : Func} {N0 nt : Nat} {w0 : World} {r : Option Nat} {Φ : Value → Frag → Prop} (hr : fn.results = #[])
    (hΦ : Φ (.tuple #[]) B) (hB : B0.le B) (hH : H = R) : Xx ⟨P, r, N0, w0, nt⟩ [] (bodyPost P fn (FinB N0 w0 R B0 Φ) .ret) ρ B H :=
  Xx.rB (fun a w f _ => results_none hr _ _ _) hΦ hB hH
/-- At a function's end: a first result in a cell of its own (many cells), a second in a slot. -/
theorem Xx.rBc {fn : Func} {N0 nt size : Nat} {w0 : World} {r : Option Nat} {Φ : Value → Frag → Prop} {t u : Tmp} {ty : TypeId} {x : Value} {d : TypeDesc} {vs : List Value} {b : Nat} {et : TypeId}
    (hr : fn.results = #[.cell t ty, .tmp u]) (ht : P.underlying ty = some d) (hd : aggB d = true) (hi : (P.info? ty).map (·.size) = some size) (hv : lk ρ t = some (.pointer (some ⟨b, 0, none⟩))) [hp : PickB H b (.cells vs.toArray et (0, 0)) R] (hl : vs.length = size) (hx : lk ρ u = some x)
    (hΦ : Φ (.tuple #[.agg vs.toArray, x]) B) (hB : B0.le B) : Xx ⟨P, r, N0, w0, nt⟩ [] (bodyPost P fn (FinB N0 w0 R B0 Φ) .ret) ρ B H := fun a w f bl s => by
  have s' : St N0 B (blk b (.cells vs.toArray et (0, 0)) * R) w := hp.eq ▸ s
  have hl := run_loadVar_row (P := P) w b et ty vs.toArray (0, 0) d s'.blk.1 ht (by cases d <;> simp_all [aggB]) (by rw [hi]; simp [hl])
  have h1 := f.get t _ hv
  have h2 := f.get u _ hx
  refine ⟨f.defers, .tuple #[.agg vs.toArray, x], ?_, _, B, rfl, hΦ, hB, bl, s'.drop⟩
  simp [results, hr, h1, h2, Sem.run_bind, asAddr, hl]

/-- A call of a function that owns nothing. -/
theorem Ox.cb {x : Operand} {xs : Array Operand} {ts : Array TypeId} {ty : TypeId} {fi : FuncId} {first caps : Array Value} {args vs : List Value} {Φ : Value → Frag → Prop}
    (hf : ev ρ x = some (.func (.func fi) first caps)) (hx : evl ρ xs.toList = some vs) (ha : first.toList ++ vs ++ caps.toList = args) (hc : CtB e.P fi args B Φ) :
    Ox e ds (.call { callee := .value x, args := xs, argTypes := ts }) ty ρ B H (fun v B' H' => H' = H ∧ Φ v B') :=
  ⟨fun _ h => (by cases h), fun a w dst pos after guard K Q f b s k => (Ox.call (ds := ds) hf hx ha hc.ct (one_star H).symm).2 a w dst pos after guard K Q f b s
    fun v B' H' w' ⟨H1, h1, h2, h3⟩ hB hb hs => k v B' H' w' ⟨by rw [h1, h3, one_star], h2⟩ hB hb hs⟩

variable {ops : Array Oper} {rest : List Oper}
theorem Lx.cb {x : Operand} {xs : Array Operand} {ts : Array TypeId} {ty : TypeId} {pos : String} {af : Array Edge} {d : Nat} {fi : FuncId} {first caps : Array Value} {args vs : List Value} {Φ : Value → Frag → Prop}
    (hf : ev ρ x = some (.func (.func fi) first caps)) (hx : evl ρ xs.toList = some vs) (ha : first.toList ++ vs ++ caps.toList = args) (hc : CtB e.P fi args B Φ) (hd : Nat.blt d e.nt = true)
    (k : ∀ v B', Φ v B' → B.le B' → Lx e ds ops Q rest ((d, v) :: ρ) B' H) : Lx e ds ops Q (⟨some d, .call { callee := .value x, args := xs, argTypes := ts }, ty, pos, af, none⟩ :: rest) ρ B H :=
  Lx.o (Ox.cb hf hx ha hc) hd fun v B' H' ⟨e1, hΦ⟩ hB => by subst e1; exact k v B' hΦ hB
theorem Lx.cp {x : Operand} {xs : Array Operand} {ts : Array TypeId} {ty : TypeId} {pos : String} {af : Array Edge} {d : Nat} {fi : FuncId} {first caps : Array Value} {args vs : List Value} {v : Value}
    (hf : ev ρ x = some (.func (.func fi) first caps)) (hx : evl ρ xs.toList = some vs) (ha : first.toList ++ vs ++ caps.toList = args) (hc : CtP e.P fi args B v) (hd : Nat.blt d e.nt = true)
    (k : Lx e ds ops Q rest ((d, v) :: ρ) B H) : Lx e ds ops Q (⟨some d, .call { callee := .value x, args := xs, argTypes := ts }, ty, pos, af, none⟩ :: rest) ρ B H :=
  Lx.cb hf hx ha hc hd fun v' B' ⟨e1, e2⟩ hB => by subst e1; subst e2; exact k

/-- A loop; σ: the slots that it leaves alone. -/
theorem Cx.loopK {c : Code} {σ : Sl} (hσ : Sub ρ σ) (I : Nat → Sl → Frag → HP → Prop) {m : Nat} (h0 : I m ρ' B H) (hs : Sub ρ (ρ' ++ σ))
    (round : ∀ m ρ' B H, I m ρ' B H → Cx e ds c (Exit.then (LK e ds (fun m ρ B H => ∃ ρ', ρ = ρ' ++ σ ∧ I m ρ' B H) m) Q) (ρ' ++ σ) B H) : Cx e ds (.loop c) Q ρ B H :=
  Cx.loop (fun m ρ B H => ∃ ρ', ρ = ρ' ++ σ ∧ I m ρ' B H) ⟨ρ', rfl, h0⟩ hs fun m ρ B H ⟨ρ', h1, h2⟩ => by subst h1; exact round m ρ' B H h2
theorem Xx.againK {σ : Sl} {I : Nat → Sl → Frag → HP → Prop} {m m' : Nat} (hi : I m' ρ' B H) (hm : m' < m) (hs : Sub ρ (ρ' ++ σ)) :
    Xx e ds (LK e ds (fun m ρ B H => ∃ ρ', ρ = ρ' ++ σ ∧ I m ρ' B H) m) ρ B H := Xx.again (I := fun m ρ B H => ∃ ρ', ρ = ρ' ++ σ ∧ I m ρ' B H) ⟨ρ', rfl, hi⟩ hm hs
/-- A cut; σ: the slots that are kept. -/
theorem Cx.cutK {x y : Code} {ds' : List Deferred} {σ : Sl} (hσ : Sub ρ σ) (M : Sl → Frag → HP → Prop) (hx : Cx e ds x (Exit.then (MK e ds' (fun ρ B H => ∃ ρ', ρ = ρ' ++ σ ∧ M ρ' B H)) Q) ρ B H) (hy : ∀ ρ' B H, M ρ' B H → Cx e ds' y Q (ρ' ++ σ) B H) : Cx e ds (.seq x y) Q ρ B H :=
  Cx.cut _ hx fun ρ B H ⟨ρ', h1, h2⟩ => by subst h1; exact hy ρ' B H h2
theorem Xx.mkK {σ : Sl} {M : Sl → Frag → HP → Prop} (hm : M ρ' B H) (hs : Sub ρ (ρ' ++ σ)) : Xx e ds (MK e ds (fun ρ B H => ∃ ρ', ρ = ρ' ++ σ ∧ M ρ' B H)) ρ B H := Xx.mk (M := fun ρ B H => ∃ ρ', ρ = ρ' ++ σ ∧ M ρ' B H) ⟨ρ', rfl, hm⟩ hs

/-- The places of a struct's fields. -/
def PL (P : Program) (t : TypeId) (ps : List (Nat × Nat)) : Prop := ∃ fs, P.underlying t = some (.struct fs) ∧ (fs.mapM fun f => do pure (f.offset, ← sizeOf f.type) : Sem (Array (Nat × Nat))).run P = fun w => .ok ps.toArray w
theorem PL.of {t : TypeId} {ps : List (Nat × Nat)} {fs : Array Field} (h1 : P.underlying t = some (.struct fs)) (h2 : (fs.toList.map fun f => (f.offset, (P.info? f.type).map (·.size))) = ps.map fun p => (p.1, some p.2)) : PL P t ps := by
  refine ⟨fs, h1, ?_⟩
  funext w
  obtain ⟨l⟩ := fs
  simp only [] at h2
  have key : ∀ (l : List Field) (ps : List (Nat × Nat)), (l.map fun f => (f.offset, (P.info? f.type).map (·.size))) = ps.map (fun p => (p.1, some p.2)) →
      (l.mapM fun f => (do pure (f.offset, ← sizeOf f.type) : Sem (Nat × Nat))).run P w = .ok ps w := by
    intro l
    induction l with
    | nil => intro ps h; simp at h; subst h; simp [Sem.run_pure]
    | cons f l ih =>
      intro ps h
      cases ps with
      | nil => simp at h
      | cons p ps =>
        simp only [List.map_cons, List.cons.injEq, Prod.mk.injEq] at h
        obtain ⟨⟨h3, h4⟩, h5⟩ := h
        cases hq : P.info? f.type with
        | none => rw [hq] at h4; simp at h4
        | some i =>
          rw [hq] at h4
          simp at h4
          have h6 := ih ps h5
          have h7 : (sizeOf f.type).run P w = .ok p.2 w := by simp [sizeOf, typeInfo, hq, h4]
          simp only [List.mapM_cons, Sem.run_bind, h7, Result.andThen, Sem.run_pure, h6, h3]
  have := key l ps (by simpa using h2)
  rw [Array.mapM_eq_mapM_toList]
  rw [map_eq_pure_bind]
  simp only [Sem.run_bind, this, Result.andThen, Sem.run_pure]

def fillL (ps : List (Nat × Nat)) : List Value → List (Nat × Value) → Option (List Value)
  | cs, [] => some cs
  | cs, (i, v) :: rest => match ps[i]? with
    | some (off, size) => bif Nat.beq v.cells.size size && Nat.ble (off + size) cs.length then fillL ps (cs.take off ++ v.cells.toList ++ cs.drop (off + size)) rest else none
    | none => none
theorem fillL_fill {ps : List (Nat × Nat)} : ∀ {parts : List (Nat × Value)} {cs out : List Value}, fillL ps cs parts = some out → Instr.fill (ps.toArray[·]?) cs.toArray parts = some out.toArray := by
  intro parts
  induction parts with
  | nil => intro cs out h; simp [fillL] at h; simp [Instr.fill, h]
  | cons p parts ih =>
    obtain ⟨i, v⟩ := p
    intro cs out h
    simp only [fillL] at h
    cases hq : ps[i]? with
    | none => rw [hq] at h; simp at h
    | some q =>
      obtain ⟨off, size⟩ := q
      rw [hq] at h
      simp only [cond_eq_ite, Bool.and_eq_true] at h
      split at h
      · rename_i hc
        have h1 := Nat.eq_of_beq_eq_true hc.1
        have h2 : off + size ≤ cs.length := by simpa using hc.2
        have h3 : ps.toArray[i]? = some (off, size) := by simpa using hq
        simp only [Instr.fill, h3]
        rw [if_neg (by simp [h1]; omega)]
        have key : (v.cells.zipIdx.foldl (fun cs x => cs.setIfInBounds (off + x.2) x.1) cs.toArray) = (cs.take off ++ v.cells.toList ++ cs.drop (off + size)).toArray := by
          rw [← Array.foldl_toList, Array.toList_zipIdx]
          have := fold_set off v.cells.toList 0 cs (by simp; omega)
          rw [this]
          simp [h1]
        rw [key]
        exact ih h
      · cases h
def evps (ρ : Sl) : List (Nat × Operand) → Option (List (Nat × Value))
  | [] => some []
  | (i, x) :: xs => match ev ρ x, evps ρ xs with
    | some v, some vs => some ((i, v) :: vs)
    | _, _ => none
theorem evps_map {f : Operand → Value} (h : Ev ρ f) : ∀ {xs : List (Nat × Operand)} {vs : List (Nat × Value)}, evps ρ xs = some vs → xs.map (fun (i, x) => (i, f x)) = vs := by
  intro xs
  induction xs with
  | nil => intro vs hv; simp [evps] at hv; simp [← hv]
  | cons a xs ih =>
    obtain ⟨i, x⟩ := a
    intro vs hv
    simp only [evps] at hv
    split at hv
    · rename_i v us hx hs
      injection hv with hv
      subst hv
      simp [h x v hx, ih hs]
    · simp at hv
/-- A struct literal. -/
theorem bld {S : World → Prop} {t ty : TypeId} {parts : Array (Nat × Operand)} {vs : List (Nat × Value)} {zs cs : List Value} {ps : List (Nat × Nat)} {size bytes : Nat} (hz : TI P t zs size bytes) (hp : PL P t ps) (hv : evps ρ parts.toList = some vs) (hfn : (fillL ps zs vs).bind (frc · some) = some cs) :
    Yx P (.build t parts) ty ρ S (.agg cs.toArray) := .of (fun _ h => by cases h) fun f w _ _ _ _ he _ => by
  obtain ⟨i, zv, z1, z2, z3, z4, z5, z6, z7⟩ := hz
  obtain ⟨fs, p1, p2⟩ := hp
  have hf : fillL ps zs vs = some cs := by
    cases hq : fillL ps zs vs with
    | none => rw [hq] at hfn; simp at hfn
    | some c => rw [hq] at hfn; rw [frc_eq hfn]
  have hpm : (parts.map fun (i, x) => (i, f x)) = vs.toArray := by
    apply Array.toList_inj.1
    simp [evps_map he hv]
  have hfl := fillL_fill hf
  have hpw := congrFun p2 w
  have hb : (Instr.build t vs.toArray).run P w = .ok (.agg cs.toArray) w := by
    simp only [Instr.build, Sem.run_bind, zeroValue, typeInfo, run_program, z1, Sem.run_pure, Result.andThen, z2, run_underlying p1, hpw, z3, hfl]
  simp only [execOp, hpm, Sem.run_bind, hb, Result.andThen, Sem.run_pure]
end
end Go.SL
