/-
  The rules of control: code, regions, calls, over the states of the small separation logic.
-/
import Derived.Test.YtgcebieihmlaoaaSla
namespace Go.SL
open Go.RowKit

structure Env where
  P : Program
  r : Option Nat
  N0 : Nat
  w0 : World
  nt : Nat

/-- K holds wherever the state is as told. -/
def Xx (e : Env) (ds : List Deferred) (K : Act → World → Prop) (ρ : Sl) (B : Frag) (H : HP) : Prop :=
  ∀ a w, Fr ρ e.nt ds a → Below e.N0 e.w0 w → St e.N0 B H w → K a w
def Cx (e : Env) (ds : List Deferred) (c : Code) (Q : Exit → Act → World → Prop) (ρ : Sl) (B : Frag) (H : HP) : Prop :=
  Xx e ds (fun a w => c.wpIn (FW e.r) 0 e.P Q a w) ρ B H
def Lx (e : Env) (ds : List Deferred) (ops : Array Oper) (Q : Exit → Act → World → Prop) (rest : List Oper) (ρ : Sl) (B : Frag) (H : HP) : Prop :=
  Xx e ds (fun a w => wpListIn (FW e.r) 0 e.P ops Q rest a w) ρ B H

section
variable {e : Env} {ds : List Deferred} {Q : Exit → Act → World → Prop} {ρ ρ' : Sl} {B B' : Frag} {H H' : HP} {K : Act → World → Prop}

theorem Xx.perm (h : Xx e ds K ρ B H') (hp : H = H') : Xx e ds K ρ B H := hp ▸ h
theorem Xx.imp (h : Xx e ds K ρ B H') (hp : ∀ k, H k → H' k) : Xx e ds K ρ B H := fun a w f b s => h a w f b (s.imp hp)
theorem Xx.sub (h : Xx e ds K ρ' B H) (hs : Sub ρ ρ') : Xx e ds K ρ B H := fun a w f b s => h a w (f.sub hs) b s
theorem Xx.drop {p : HP} (h : Xx e ds K ρ B H) : Xx e ds K ρ B (p * H) := fun a w f b s => h a w f b s.drop
theorem Xx.ex {α : Type} {f : α → HP} (h : ∀ x, Xx e ds K ρ B (f x * H)) : Xx e ds K ρ B (SL.ex f * H) := fun a w fr b s => by
  obtain ⟨ro, sz, k, hk, hh⟩ := s
  obtain ⟨x, hx⟩ := (ex_star f H k).1 hh
  exact h x a w fr b ⟨ro, sz, k, hk, hx⟩
theorem Xx.pr {p : Prop} (h : p → Xx e ds K ρ B H) : Xx e ds K ρ B (SL.pr p * H) := fun a w fr b s => by
  obtain ⟨ro, sz, k, hk, hh⟩ := s
  obtain ⟨hp, hx⟩ := (pr_star p H k).1 hh
  exact h hp a w fr b ⟨ro, sz, k, hk, hx⟩
theorem Xx.freeze {b : Nat} {o : Obj} (h : ∀ B', B.le B' → B' b = some o → Xx e ds K ρ B' H) : Xx e ds K ρ B (blk b o * H) := fun a w f bl s =>
  h _ s.freeze.2 (by
    have := s.blk.2.1
    simp [Frag.un, Frag.one, this]) a w f bl s.freeze.1

theorem Cx.seq {x y : Code} (h : ∀ K : Act → World → Prop, (∀ ds ρ B H, Cx e ds y Q ρ B H → Xx e ds K ρ B H) → Cx e ds x (Exit.then K Q) ρ B H) : Cx e ds (.seq x y) Q ρ B H :=
  fun a w f b s => wpIn_seq (h (fun a w => y.wpIn (FW e.r) 0 e.P Q a w) (fun _ _ _ _ h => h) a w f b s)

/-- The way on, told by what holds there. -/
def MK (e : Env) (ds : List Deferred) (M : Sl → Frag → HP → Prop) (a : Act) (w : World) : Prop :=
  ∃ ρ B H, M ρ B H ∧ Fr ρ e.nt ds a ∧ Below e.N0 e.w0 w ∧ St e.N0 B H w
theorem Xx.mk {M : Sl → Frag → HP → Prop} (hm : M ρ' B H) (hs : Sub ρ ρ') : Xx e ds (MK e ds M) ρ B H := fun _ _ f b s => ⟨ρ', B, H, hm, f.sub hs, b, s⟩
theorem Cx.cut {x y : Code} {ds' : List Deferred} (M : Sl → Frag → HP → Prop) (hx : Cx e ds x (Exit.then (MK e ds' M) Q) ρ B H) (hy : ∀ ρ B H, M ρ B H → Cx e ds' y Q ρ B H) : Cx e ds (.seq x y) Q ρ B H :=
  fun a w f b s => wpIn_seq (wpIn_mono (hx a w f b s) fun ex a w q => by
    cases ex with
    | normal => obtain ⟨ρ, B, H, hm, f, b, s⟩ := q; exact hy ρ B H hm a w f b s
    | exit id => exact q
    | goto l => exact q
    | ret => exact q
    | panic c => exact q
    | outgrown => exact q)

theorem Cx.skip (h : Xx e ds (Q .normal) ρ B H) : Cx e ds .skip Q ρ B H := fun a w f b s => wpIn_skip (h a w f b s)
theorem Cx.ret (h : Xx e ds (Q .ret) ρ B H) : Cx e ds .ret Q ρ B H := fun a w f b s => wpIn_ret (h a w f b s)
theorem Cx.exit {id : Nat} (h : Xx e ds (Q (.exit id)) ρ B H) : Cx e ds (.exit id) Q ρ B H := fun a w f b s => wpIn_exit (h a w f b s)
theorem Cx.block {id : Nat} {c : Code} (h : Cx e ds c (Exit.inBlock id Q) ρ B H) : Cx e ds (.block id c) Q ρ B H := fun a w f b s => wpIn_block (h a w f b s)
theorem Cx.label {l : Nat} (h : Xx e ds (Q .normal) ρ B H) : Cx e ds (.label l) Q ρ B H := fun a w f b s => wpIn_label (h a w f b s)

theorem Xx.tn (h : Xx e ds K ρ B H) : Xx e ds (Exit.then K Q .normal) ρ B H := h
theorem Xx.te {id : Nat} (h : Xx e ds (Q (.exit id)) ρ B H) : Xx e ds (Exit.then K Q (.exit id)) ρ B H := h
theorem Xx.tr (h : Xx e ds (Q .ret) ρ B H) : Xx e ds (Exit.then K Q .ret) ρ B H := h
theorem Xx.bn {id : Nat} (h : Xx e ds (Q .normal) ρ B H) : Xx e ds (Exit.inBlock id Q .normal) ρ B H := h
theorem Xx.br {id : Nat} (h : Xx e ds (Q .ret) ρ B H) : Xx e ds (Exit.inBlock id Q .ret) ρ B H := h
theorem Xx.bh {id : Nat} (h : Xx e ds (Q .normal) ρ B H) : Xx e ds (Exit.inBlock id Q (.exit id)) ρ B H := fun a w f b s => by
  simp only [Exit.inBlock, if_true]; exact h a w f b s
theorem Xx.bm {id id' : Nat} (hne : Nat.beq id' id = false) (h : Xx e ds (Q (.exit id')) ρ B H) : Xx e ds (Exit.inBlock id Q (.exit id')) ρ B H := fun a w f b s => by
  have : ¬ id' = id := fun e => by subst e; simp at hne
  simp only [Exit.inBlock, this, if_false]; exact h a w f b s

theorem Cx.condD {c : Operand} {x y : Code} {p : Prop} [Decidable p] (hc : ev ρ c = some (.bool (decide p))) (ht : p → Cx e ds x Q ρ B H) (hf : ¬ p → Cx e ds y Q ρ B H) : Cx e ds (.cond c x y) Q ρ B H :=
  fun a w f b s => wpIn_cond_split (f.ev _ _ hc) (fun h => ht (of_decide_eq_true h) a w f b s) (fun h => hf (of_decide_eq_false h) a w f b s)
theorem Cx.condN {c : Operand} {x y : Code} {p : Prop} [Decidable p] (hc : ev ρ c = some (.bool (!decide p))) (ht : ¬ p → Cx e ds x Q ρ B H) (hf : p → Cx e ds y Q ρ B H) : Cx e ds (.cond c x y) Q ρ B H :=
  fun a w f b s => wpIn_cond_split (f.ev _ _ hc) (fun h => ht (of_decide_eq_false (by simpa using h)) a w f b s) (fun h => hf (of_decide_eq_true (by simpa using h)) a w f b s)
theorem Cx.condB {c : Operand} {x y : Code} {t : Bool} (hc : ev ρ c = some (.bool t)) (ht : t = true → Cx e ds x Q ρ B H) (hf : t = false → Cx e ds y Q ρ B H) : Cx e ds (.cond c x y) Q ρ B H :=
  fun a w f b s => wpIn_cond_split (f.ev _ _ hc) (fun h => ht h a w f b s) (fun h => hf h a w f b s)
theorem Cx.condT {c : Operand} {x y : Code} (hc : ev ρ c = some (.bool true)) (h : Cx e ds x Q ρ B H) : Cx e ds (.cond c x y) Q ρ B H :=
  fun a w f b s => wpIn_cond_true (f.ev _ _ hc) (h a w f b s)
theorem Cx.condF {c : Operand} {x y : Code} (hc : ev ρ c = some (.bool false)) (h : Cx e ds y Q ρ B H) : Cx e ds (.cond c x y) Q ρ B H :=
  fun a w f b s => wpIn_cond_false (f.ev _ _ hc) (h a w f b s)

/-- A round has gone by: the relation holds at a lower number. -/
def LK (e : Env) (ds : List Deferred) (I : Nat → Sl → Frag → HP → Prop) (m : Nat) (a : Act) (w : World) : Prop :=
  ∃ m' ρ B H, m' < m ∧ I m' ρ B H ∧ Fr ρ e.nt ds a ∧ Below e.N0 e.w0 w ∧ St e.N0 B H w
theorem Xx.again {I : Nat → Sl → Frag → HP → Prop} {m m' : Nat} (hi : I m' ρ' B H) (hm : m' < m) (hs : Sub ρ ρ') : Xx e ds (LK e ds I m) ρ B H := fun _ _ f b s => ⟨m', ρ', B, H, hm, hi, f.sub hs, b, s⟩
theorem least {p : Nat → Prop} (h : ∃ n, p n) : ∃ n, p n ∧ ∀ m, p m → n ≤ m := by
  obtain ⟨n, hn⟩ := h
  induction n using Nat.strongRecOn with
  | _ n ih =>
    by_cases hx : ∃ m, m < n ∧ p m
    · obtain ⟨m, hm, hp⟩ := hx; exact ih m hm hp
    · exact ⟨n, hn, fun m hm => Nat.le_of_not_lt fun hlt => hx ⟨m, hlt, hm⟩⟩
open Classical in
theorem Cx.loop {c : Code} (I : Nat → Sl → Frag → HP → Prop) {m : Nat} (h0 : I m ρ' B H) (hs : Sub ρ ρ')
    (round : ∀ m ρ B H, I m ρ B H → Cx e ds c (Exit.then (LK e ds I m) Q) ρ B H) : Cx e ds (.loop c) Q ρ B H := by
  intro a w f b s
  let J : Nat → Act → World → Prop := fun m a w => ∃ ρ B H, I m ρ B H ∧ Fr ρ e.nt ds a ∧ Below e.N0 e.w0 w ∧ St e.N0 B H w
  let μ : Act → World → Nat := fun a w => if h : ∃ m, J m a w then Classical.choose (least h) else 0
  have hμ : ∀ m a w, J m a w → μ a w ≤ m ∧ J (μ a w) a w := by
    intro m a w h
    have hex : ∃ m, J m a w := ⟨m, h⟩
    simp only [μ, dif_pos hex]
    have := Classical.choose_spec (least hex)
    exact ⟨this.2 m h, this.1⟩
  refine wpIn_loop (fun a w => ∃ m, J m a w) μ ⟨m, ρ', B, H, h0, f.sub hs, b, s⟩ ?_
  rintro a w ⟨m, hm⟩
  obtain ⟨_, ρ1, B1, H1, hi, f1, b1, s1⟩ := hμ m a w hm
  refine wpIn_mono (round _ ρ1 B1 H1 hi a w f1 b1 s1) fun ex a' w' q => ?_
  cases ex with
  | normal =>
    obtain ⟨m', ρ2, B2, H2, hlt, hi2, f2, b2, s2⟩ := q
    have hj : J m' a' w' := ⟨ρ2, B2, H2, hi2, f2, b2, s2⟩
    exact ⟨⟨m', hj⟩, Nat.lt_of_le_of_lt (hμ m' a' w' hj).1 hlt⟩
  | exit id => exact q
  | goto l => exact q
  | ret => exact q
  | panic c => exact q
  | outgrown => exact q

theorem Cx.region {id : Nat} {l : List Oper} (h : Lx e ds l.toArray Q l ρ B H) : Cx e ds (.region id l.toArray false) Q ρ B H :=
  fun a w f b s => wpIn_region_lit (h a w f b s)

variable {ops : Array Oper} {rest : List Oper}
theorem Lx.nil (h : Xx e ds (Q .normal) ρ B H) : Lx e ds ops Q [] ρ B H := h

/-- An operation that only reckons, or reads: what it hands back wherever S holds. -/
def Yx (P : Program) (op : Op) (ty : TypeId) (ρ : Sl) (S : World → Prop) (v : Value) : Prop :=
  (∀ c, op ≠ .defer c) ∧ ∀ (f : Operand → Value) w (dst : Option Tmp) (pos : String) (after : Array Edge) (guard : Option (Nat × Bool)), Ev ρ f → S w → (execOp f ⟨dst, op, ty, pos, after, guard⟩).run P w = .ok (.value v) w

/-- An operation, whatever it does: its value, and what is read and owned behind it. -/
def Ox (e : Env) (ds : List Deferred) (op : Op) (ty : TypeId) (ρ : Sl) (B : Frag) (H : HP) (Φ : Value → Frag → HP → Prop) : Prop :=
  (∀ c, op ≠ .defer c) ∧ ∀ (a : Act) (w : World) (dst : Option Tmp) (pos : String) (after : Array Edge) (guard : Option (Nat × Bool)) (K : Act → World → Prop) (Q : Exit → Act → World → Prop),
    Fr ρ e.nt ds a → Below e.N0 e.w0 w → St e.N0 B H w →
    (∀ v B' H' w', Φ v B' H' → B.le B' → Below e.N0 e.w0 w' → St e.N0 B' H' w' → K (a.put dst v) w') →
    Oper.uponIn (FW e.r) 0 e.P ⟨dst, op, ty, pos, after, guard⟩ a K Q ((execOp a.eval ⟨dst, op, ty, pos, after, guard⟩).run e.P w)

theorem Oper.wpIn_FW {o : Oper} {a : Act} {w : World} {K : Act → World → Prop} {P : Program} {r : Option Nat} (hd : ∀ c, o.op ≠ .defer c)
    (h : Oper.uponIn (FW r) 0 P o a K Q ((execOp a.eval o).run P w)) : Oper.wpIn (FW r) 0 P o a w K Q :=
  ⟨fun _ _ => trivial, by
    have : Oper.semAt (FW r).round a.eval o = execOp a.eval o := Oper.semAt_eq _ _ _ hd
    rw [this]; exact h⟩

theorem Yx.ox {op : Op} {ty : TypeId} {v : Value} (h : Yx e.P op ty ρ (St e.N0 B H) v) : Ox e ds op ty ρ B H (fun v' B' H' => v' = v ∧ B' = B ∧ H' = H) :=
  ⟨h.1, fun a w dst pos after guard K Q f b s k => by
    rw [h.2 a.eval w dst pos after guard f.ev s]
    exact k v B H w ⟨rfl, rfl, rfl⟩ (Frag.le_refl _) b s⟩

theorem Lx.o {op : Op} {ty : TypeId} {pos : String} {af : Array Edge} {d : Nat} {Φ : Value → Frag → HP → Prop} (h : Ox e ds op ty ρ B H Φ) (hd : Nat.blt d e.nt = true)
    (k : ∀ v B' H', Φ v B' H' → B.le B' → Lx e ds ops Q rest ((d, v) :: ρ) B' H') : Lx e ds ops Q (⟨some d, op, ty, pos, af, none⟩ :: rest) ρ B H := by
  intro a w f b s
  simp only [wpListIn]
  rw [if_pos (by simp [Region.wanted])]
  exact Oper.wpIn_FW h.1 (h.2 a w _ _ _ _ _ _ f b s fun v B' H' w' hΦ hB b' s' => k v B' H' hΦ hB _ w' (f.put hd v) b' s')

theorem Lx.o0 {op : Op} {ty : TypeId} {pos : String} {af : Array Edge} {Φ : Value → Frag → HP → Prop} (h : Ox e ds op ty ρ B H Φ)
    (k : ∀ v B' H', Φ v B' H' → B.le B' → Lx e ds ops Q rest ρ B' H') : Lx e ds ops Q (⟨none, op, ty, pos, af, none⟩ :: rest) ρ B H := by
  intro a w f b s
  simp only [wpListIn]
  rw [if_pos (by simp [Region.wanted])]
  exact Oper.wpIn_FW h.1 (h.2 a w _ _ _ _ _ _ f b s fun v B' H' w' hΦ hB b' s' => k v B' H' hΦ hB _ w' (f.put_none v) b' s')

theorem Lx.y {op : Op} {ty : TypeId} {pos : String} {af : Array Edge} {d : Nat} {v : Value} (h : Yx e.P op ty ρ (St e.N0 B H) v) (hd : Nat.blt d e.nt = true)
    (k : Lx e ds ops Q rest ((d, v) :: ρ) B H) : Lx e ds ops Q (⟨some d, op, ty, pos, af, none⟩ :: rest) ρ B H :=
  Lx.o h.ox hd fun v' B' H' ⟨e1, e2, e3⟩ _ => by subst e1; subst e2; subst e3; exact k
theorem Lx.y0 {op : Op} {ty : TypeId} {pos : String} {af : Array Edge} {v : Value} (h : Yx e.P op ty ρ (St e.N0 B H) v)
    (k : Lx e ds ops Q rest ρ B H) : Lx e ds ops Q (⟨none, op, ty, pos, af, none⟩ :: rest) ρ B H :=
  Lx.o0 h.ox fun v' B' H' ⟨_, e2, e3⟩ _ => by subst e2; subst e3; exact k

theorem yielded_of {o : Oper} {a : Act} {j t : Nat} {u : Bool} (f : Fr ρ e.nt ds a) (hj : ops[j]? = some o) (ho : o.dst = some t) (hv : lk ρ t = some (.bool u)) : yielded ops a.tmps j = some u := by
  have := f.get t _ hv
  simp [yielded, hj, ho, this]
/-- A guard that says yes. -/
theorem Lx.gT {o : Oper} {op : Op} {ty : TypeId} {pos : String} {af : Array Edge} {d : Option Nat} {j t : Nat} {u : Bool} (hj : ops[j]? = some o) (ho : o.dst = some t) (hv : lk ρ t = some (.bool u))
    (k : Lx e ds ops Q (⟨d, op, ty, pos, af, none⟩ :: rest) ρ B H) : Lx e ds ops Q (⟨d, op, ty, pos, af, some (j, u)⟩ :: rest) ρ B H := by
  intro a w f b s
  have hy := yielded_of (e := e) f hj ho hv
  have := k a w f b s
  simp only [wpListIn] at this ⊢
  rw [if_pos (by simp [Region.wanted])] at this
  rw [if_pos (by simp [Region.wanted, hy])]
  exact this
/-- A guard that says no. -/
theorem Lx.gF {o : Oper} {op : Op} {ty : TypeId} {pos : String} {af : Array Edge} {d : Nat} {j t : Nat} {u : Bool} (hj : ops[j]? = some o) (ho : o.dst = some t) (hv : lk ρ t = some (.bool (!u))) (hd : Nat.blt d e.nt = true)
    (k : Lx e ds ops Q rest ((d, undef) :: ρ) B H) : Lx e ds ops Q (⟨some d, op, ty, pos, af, some (j, u)⟩ :: rest) ρ B H := by
  intro a w f b s
  have hy := yielded_of (e := e) f hj ho hv
  simp only [wpListIn]
  rw [if_neg (by simp [Region.wanted, hy])]
  exact ⟨fun _ _ => trivial, k _ w (f.put hd undef) b s⟩
theorem Lx.gF0 {o : Oper} {op : Op} {ty : TypeId} {pos : String} {af : Array Edge} {j t : Nat} {u : Bool} (hj : ops[j]? = some o) (ho : o.dst = some t) (hv : lk ρ t = some (.bool (!u)))
    (k : Lx e ds ops Q rest ρ B H) : Lx e ds ops Q (⟨none, op, ty, pos, af, some (j, u)⟩ :: rest) ρ B H := by
  intro a w f b s
  have hy := yielded_of (e := e) f hj ho hv
  simp only [wpListIn]
  rw [if_neg (by simp [Region.wanted, hy])]
  exact ⟨fun _ _ => trivial, k _ w f b s⟩

/-! ### Contracts -/
/-- A function's contract: called with these arguments, owning pre beside whatever R, it returns a value, and what Φ says is owned and read behind. -/
def Ct (P : Program) (f : FuncId) (args : List Value) (B : Frag) (pre : HP) (Φ : Value → Frag → HP → Prop) : Prop :=
  (∀ args w, (callFunc f args).run P w = .ok (.enter f args) w) ∧
  ∀ (N0 : Nat) (w : World) (R : HP), St N0 B (pre * R) w →
    Calls P f args.toArray w fun x w' => ∃ v B' H', x = .returned v ∧ Φ v B' H' ∧ B.le B' ∧ Below N0 w w' ∧ St N0 B' (H' * R) w'

/-- What is asked at a function's end. -/
def Fin (N0 : Nat) (w0 : World) (R : HP) (B : Frag) (Φ : Value → Frag → HP → Prop) (x : Ending) (w' : World) : Prop :=
  ∃ v B' H', x = .returned v ∧ Φ v B' H' ∧ B.le B' ∧ Below N0 w0 w' ∧ St N0 B' (H' * R) w'

theorem enters_of {P : Program} {f : FuncId} {fn : Func} {c : Code} (hf : P.funcs[f]? = some fn) (hb : fn.body = some c) (hn : (fn.name == "runtime.NumGoroutine") = false) :
    ∀ args w, (callFunc f args).run P w = .ok (.enter f args) w := fun args w => by
  have hn' : ¬ fn.name = "runtime.NumGoroutine" := by simpa using hn
  simp [callFunc, hf, hb, hn']

theorem Ct.of_body {P : Program} {f : FuncId} {fn : Func} {c : Code} {args : List Value} {pre : HP} {Φ : Value → Frag → HP → Prop} {nt : Nat}
    (hf : P.funcs[f]? = some fn) (hb : fn.body = some c) (hnt : fn.ntmps = nt) (hn : (fn.name == "runtime.NumGoroutine") = false) (hs : Nat.ble args.length nt = true)
    (h : ∀ (N0 : Nat) (w0 : World) (R : HP), Cx ⟨P, none, N0, w0, nt⟩ [] c (bodyPost P fn (Fin N0 w0 R B Φ)) (mk0 0 args) B (pre * R)) : Ct P f args B pre Φ :=
  ⟨enters_of hf hb hn, fun N0 w R s => by
    refine (callsIn_FW (r := none) (n := 0)).1 (callsIn_of_wp hf hb trivial ?_)
    rw [hnt]
    exact h N0 w R _ w (Fr.start hs) (Below.refl _ _) s⟩

theorem Ct.of_bodyM {P : Program} {f : FuncId} {fn : Func} {c : Code} {args : List Value} {pre : HP} {Φ : Value → Frag → HP → Prop} {nt : Nat}
    (hf : P.funcs[f]? = some fn) (hb : fn.body = some c) (hnt : fn.ntmps = nt) (hn : (fn.name == "runtime.NumGoroutine") = false) (hs : Nat.ble args.length nt = true)
    (h : ∀ (N0 : Nat) (w0 : World) (R : HP), Cx ⟨P, none, N0, w0, nt⟩ [] c (bodyPostM (FW none) 0 P fn (Fin N0 w0 R B Φ)) (mk0 0 args) B (pre * R)) : Ct P f args B pre Φ :=
  ⟨enters_of hf hb hn, fun N0 w R s => by
    refine (callsIn_FW (r := none) (n := 0)).1 (callsIn_of_wp_marks hf hb trivial ?_)
    rw [hnt]
    exact h N0 w R _ w (Fr.start hs) (Below.refl _ _) s⟩

theorem Ct.mono {P : Program} {f : FuncId} {args : List Value} {pre : HP} {Φ Φ' : Value → Frag → HP → Prop} (h : Ct P f args B pre Φ) (hm : ∀ v B' H', Φ v B' H' → Φ' v B' H') : Ct P f args B pre Φ' :=
  ⟨h.1, fun N0 w R s => (h.2 N0 w R s).mono fun _ _ ⟨v, B', H', a, b, c⟩ => ⟨v, B', H', a, hm _ _ _ b, c⟩⟩

/-- The end of a function with one result in a slot, two, three, none. -/
theorem Xx.ret1 {fn : Func} {N0 : Nat} {w0 : World} {P : Program} {r : Option Nat} {nt : Nat} {R : HP} {B0 : Frag} {Φ : Value → Frag → HP → Prop} {t : Tmp} {v : Value} (hr : fn.results = #[.tmp t]) (hv : lk ρ t = some v)
    (hΦ : Φ v B H') (hB : B0.le B) (hH : H = H' * R) : Xx ⟨P, r, N0, w0, nt⟩ [] (bodyPost P fn (Fin N0 w0 R B0 Φ) .ret) ρ B H := fun a w f b s =>
  ⟨f.defers, v, by rw [results_tmp hr]; have := f.get t v hv; simp [this], v, B, H', rfl, hΦ, hB, b, hH ▸ s⟩
theorem Xx.ret2 {fn : Func} {N0 : Nat} {w0 : World} {P : Program} {r : Option Nat} {nt : Nat} {R : HP} {B0 : Frag} {Φ : Value → Frag → HP → Prop} {t u : Tmp} {v x : Value} (hr : fn.results = #[.tmp t, .tmp u]) (hv : lk ρ t = some v) (hx : lk ρ u = some x)
    (hΦ : Φ (.tuple #[v, x]) B H') (hB : B0.le B) (hH : H = H' * R) : Xx ⟨P, r, N0, w0, nt⟩ [] (bodyPost P fn (Fin N0 w0 R B0 Φ) .ret) ρ B H := fun a w f b s =>
  ⟨f.defers, .tuple #[v, x], by rw [results_tmp2 hr]; have h1 := f.get t v hv; have h2 := f.get u x hx; simp [h1, h2], _, B, H', rfl, hΦ, hB, b, hH ▸ s⟩
theorem Xx.ret0 {fn : Func} {N0 : Nat} {w0 : World} {P : Program} {r : Option Nat} {nt : Nat} {R : HP} {B0 : Frag} {Φ : Value → Frag → HP → Prop} (hr : fn.results = #[])
    (hΦ : Φ (.tuple #[]) B H') (hB : B0.le B) (hH : H = H' * R) : Xx ⟨P, r, N0, w0, nt⟩ [] (bodyPost P fn (Fin N0 w0 R B0 Φ) .ret) ρ B H := fun _ _ f b s =>
  ⟨f.defers, .tuple #[], results_none hr _ _ _, _, B, H', rfl, hΦ, hB, b, hH ▸ s⟩
theorem Xx.end0 {fn : Func} {N0 : Nat} {w0 : World} {P : Program} {r : Option Nat} {nt : Nat} {R : HP} {B0 : Frag} {Φ : Value → Frag → HP → Prop} (hr : fn.results = #[])
    (hΦ : Φ (.tuple #[]) B H') (hB : B0.le B) (hH : H = H' * R) : Xx ⟨P, r, N0, w0, nt⟩ [] (bodyPost P fn (Fin N0 w0 R B0 Φ) .normal) ρ B H := fun _ _ f b s =>
  ⟨f.defers, .tuple #[], results_none hr _ _ _, _, B, H', rfl, hΦ, hB, b, hH ▸ s⟩

/-- A call of a Go function, by its contract. -/
theorem Ox.call {x : Operand} {xs : Array Operand} {ts : Array TypeId} {ty : TypeId} {fi : FuncId} {first caps : Array Value} {args vs : List Value} {pre R : HP} {Φ : Value → Frag → HP → Prop}
    (hf : ev ρ x = some (.func (.func fi) first caps)) (hx : evl ρ xs.toList = some vs) (ha : first.toList ++ vs ++ caps.toList = args) (hc : Ct e.P fi args B pre Φ) (hH : H = pre * R) :
    Ox e ds (.call { callee := .value x, args := xs, argTypes := ts }) ty ρ B H (fun v B' H' => ∃ H1, H' = H1 * R ∧ Φ v B' H1) :=
  ⟨fun _ h => (by cases h), fun a w dst pos after guard K Q f b s k => by
    have hfv := f.ev _ _ hf
    have hxv : xs.map a.eval = vs.toArray := by
      have := f.ev.map hx
      apply Array.toList_inj.1
      simp [this]
    have hrun : (execOp a.eval ⟨dst, .call { callee := .value x, args := xs, argTypes := ts }, ty, pos, after, guard⟩).run e.P w = .ok (.enter fi args.toArray) w := by
      simp only [execOp, resolve, hfv, Deferred.ofValue, hxv]
      have := hc.1 (first ++ vs.toArray ++ caps) w
      have h2 : first ++ vs.toArray ++ caps = args.toArray := by
        apply Array.toList_inj.1
        simp [← ha]
      rw [h2] at this
      simp only [Sem.run_bind, Sem.run_pure, Result.andThen, invoke, h2]
      exact this
    rw [hrun]
    refine ⟨fun h => by simp [FW] at h, callsIn_FW.2 ((hc.2 e.N0 w R (hH ▸ s)).mono ?_)⟩
    rintro y w' ⟨v, B', H', rfl, hΦ, hB, b', s'⟩
    exact k v B' _ w' ⟨H', rfl, hΦ⟩ hB (b.trans b') s'⟩

theorem Lx.c {x : Operand} {xs : Array Operand} {ts : Array TypeId} {ty : TypeId} {pos : String} {af : Array Edge} {d : Nat} {fi : FuncId} {first caps : Array Value} {args vs : List Value} {pre R : HP} {Φ : Value → Frag → HP → Prop}
    (hf : ev ρ x = some (.func (.func fi) first caps)) (hx : evl ρ xs.toList = some vs) (ha : first.toList ++ vs ++ caps.toList = args) (hc : Ct e.P fi args B pre Φ) (hH : H = pre * R) (hd : Nat.blt d e.nt = true)
    (k : ∀ v B' H', Φ v B' H' → B.le B' → Lx e ds ops Q rest ((d, v) :: ρ) B' (H' * R)) : Lx e ds ops Q (⟨some d, .call { callee := .value x, args := xs, argTypes := ts }, ty, pos, af, none⟩ :: rest) ρ B H :=
  Lx.o (Ox.call hf hx ha hc hH) hd fun v B' H' ⟨H1, e1, hΦ⟩ hB => by subst e1; exact k v B' H1 hΦ hB
end
end Go.SL
