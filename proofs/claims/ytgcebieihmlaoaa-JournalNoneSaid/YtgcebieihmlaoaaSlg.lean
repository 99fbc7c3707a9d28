/-
  Regions that draw their order, over the states of the small separation logic: what only reckons, or reads, is taken first; all else comes up in every order.
-/
import Derived.Test.YtgcebieihmlaoaaSlf
import Derived.Deep.RegionHeld3
namespace Go.SL
open Go.RowKit
set_option linter.unusedSimpArgs false
set_option linter.unusedVariables false

/-- Does operation j wait for operation i, by an edge of its own? -/
def edge (ops : Array Oper) (j i : Nat) : Bool := match ops[j]? with
  | some o => o.after.any fun x => Region.binds .any x && x.on == i
  | none => false

/-- Whatever order is picked from here on, and behind operation i 'J i' holds. -/
def anyJ (P : Program) (r : Option Nat) (ops : Array Oper) (Q : Exit → Act → World → Prop) (J : Nat → World → Prop) : Nat → Array Bool → Act → World → Prop
  | 0, listed, a, w => Region.ready .any ops listed = [] ∧ Q .normal a w
  | fuel + 1, listed, a, w =>
    (Region.ready .any ops listed = [] → Q .normal a w) ∧
    ∀ i ∈ Region.ready .any ops listed, wpOpIn (FW r) 0 P ops Q i (fun a' w' => (w' = w ∨ J i w') ∧ anyJ P r ops Q J fuel (listed.setIfInBounds i true) a' w') a w

section
variable {P : Program} {r : Option Nat} {ops : Array Oper} {Q : Exit → Act → World → Prop} {J J' : Nat → World → Prop}
theorem anyJ_any : ∀ (fuel : Nat) (listed : Array Bool) (a : Act) (w : World), anyJ P r ops Q J fuel listed a w → wpAnyIn (FW r) 0 P .any ops Q fuel listed a w
  | 0, _, _, _, h => h
  | fuel + 1, _, _, _, h => ⟨h.1, fun i hi => wpOpIn_mono (fun a' w' h' => anyJ_any fuel _ a' w' h'.2) (h.2 i hi)⟩
theorem anyJ_mono (hJ : ∀ j w, J j w → J' j w) : ∀ (fuel : Nat) (listed : Array Bool) (a : Act) (w : World), anyJ P r ops Q J fuel listed a w → anyJ P r ops Q J' fuel listed a w
  | 0, _, _, _, h => h
  | fuel + 1, _, _, _, h => ⟨h.1, fun i hi => wpOpIn_mono (fun a' w' h' => ⟨h'.1.imp id (hJ _ _), anyJ_mono hJ fuel _ a' w' h'.2⟩) (h.2 i hi)⟩

/-- In every world that meets T the operation (no defer statement) leaves v and does nothing else. -/
def YT (P : Program) (ops : Array Oper) (T : World → Prop) (o : Oper) (v : Value) (a : Act) : Prop := (∀ c, o.op ≠ .defer c) ∧ YieldsIf P ops T o v a

theorem semAt_FW {o : Oper} {ρ : Operand → Value} (h : ∀ c, o.op ≠ .defer c) : Oper.semAt (FW r).round ρ o = execOp ρ o := Oper.semAt_eq _ _ _ h

theorem YT.wpOpIn {T : World → Prop} {i : Nat} {o : Oper} {v : Value} {a : Act} (hi : ops[i]? = some o) (hy : YT P ops T o v a) {K : Act → World → Prop} {w : World} (hT : T w) (h : K (a.put o.dst v) w) : wpOpIn (FW r) 0 P ops Q i K a w := by
  unfold Go.wpOpIn
  simp only [hi]
  rcases hy with ⟨hd, ⟨hw, hv⟩ | ⟨hw, rfl⟩⟩
  · simp only [hw, if_true, Oper.wpIn, semAt_FW hd, hv w hT, Oper.uponIn]; exact ⟨fun _ _ => trivial, h⟩
  · simp only [hw, Bool.false_eq_true, if_false]; exact ⟨fun _ _ => trivial, h⟩

theorem semAt_put {oj : Oper} {a : Act} {dst : Option Tmp} {v : Value} (hsj : ∀ cs b, oj.op ≠ .select cs b) (h1 : ∀ d, dst = some d → d ∉ oj.looksAt ops) :
    Oper.semAt (FW r).round (a.put dst v).eval oj = Oper.semAt (FW r).round a.eval oj := by
  by_cases hd : ∃ c, oj.op = .defer c
  · obtain ⟨c, hc⟩ := hd
    have hr := resolve_congr (ρ := (a.put dst v).eval) (ρ' := a.eval) c oj.type (fun x hx => Act.eval_put fun d hd hxd => h1 d hd (by
      subst hxd
      exact List.mem_append_left _ (List.mem_filterMap.2 ⟨.tmp d, by rw [hc]; simpa [Op.operands] using hx, rfl⟩)))
    have he := execOp_put (ops := ops) oj hsj a dst v h1
    unfold Oper.semAt
    rw [hc]
    cases hq : (FW r).round with
    | none => exact he
    | some l => simp only [hr]
  · have hd' : ∀ c, oj.op ≠ .defer c := fun c h => hd ⟨c, h⟩
    rw [semAt_FW hd', semAt_FW hd', execOp_put (ops := ops) oj hsj a dst v h1]

theorem wpOpIn_putT {T : World → Prop} {j : Nat} {oi oj : Oper} {v : Value} (hj : ops[j]? = some oj) (hap : oi.apart ops oj = true)
    (hsi : ∀ cs b, oi.op ≠ .select cs b) (hsj : ∀ cs b, oj.op ≠ .select cs b)
    (hQ : ∀ c a w, Q (.panic c) (a.put oi.dst v) w → Q (.panic c) a w) {K : Act → World → Prop} {a : Act} {w : World}
    (hy : YT P ops T oi v a) (h : wpOpIn (FW r) 0 P ops Q j K (a.put oi.dst v) w) :
    wpOpIn (FW r) 0 P ops Q j (fun a' w' => YT P ops T oi v a' ∧ K (a'.put oi.dst v) w') a w := by
  obtain ⟨h1, h2, h3⟩ := Oper.apart_spec hap
  have keep : ∀ (a : Act), YT P ops T oi v a → ∀ u, YT P ops T oi v (a.put oj.dst u) := fun a hy u =>
    ⟨hy.1, hy.2.of_same (execOp_put oi hsi a oj.dst u h3) (wanted_put oi a oj.dst u h3)⟩
  have keepD : ∀ d, YT P ops T oi v { a with defers := d :: a.defers } := fun d => ⟨hy.1, hy.2.of_same rfl rfl⟩
  unfold wpOpIn at *
  simp only [hj] at *
  rw [wanted_put oj a oi.dst v h1] at h
  split
  · rename_i hw
    simp only [hw, if_true] at h
    unfold Oper.wpIn at *
    refine ⟨fun _ _ => trivial, ?_⟩
    have h := h.2
    rw [semAt_put hsj h1] at h
    generalize (Oper.semAt (FW r).round a.eval oj).run P w = q at *
    cases q with
    | ok x w' =>
      cases x <;> simp only [Oper.uponIn] at h ⊢
      case value u => exact ⟨keep a hy u, by rw [← Act.put_comm a v u h2]; exact h⟩
      case skip => exact ⟨keep a hy _, by rw [← Act.put_comm a v undef h2]; exact h⟩
      case defer d =>
        refine ⟨keep _ (keepD d) _, ?_⟩
        rw [← Act.put_comm _ v undef h2, ← Act.put_defers]
        exact h
      case enter f args =>
        refine ⟨h.1, CallsIn.mono h.2 fun e w'' he => ?_⟩
        cases e with
        | returned u => exact ⟨keep a hy u, by rw [← Act.put_comm a v u h2]; exact he⟩
        | panicked c => exact hQ _ _ _ he
        | outgrown => exact he
      case row row args => exact ⟨h.1, RowsIn.mono h.2 fun u w'' he => ⟨keep a hy u, by rw [← Act.put_comm a v u h2]; exact he⟩⟩
      case round l f tmps assign body =>
        refine ⟨h.1, RoundIn.mono h.2 fun e w'' he => ?_⟩
        cases e with
        | returned u => exact ⟨keep a hy u, by rw [← Act.put_comm a v u h2]; exact he⟩
        | panicked c => exact hQ _ _ _ he
        | outgrown => exact he
    | halt x w' =>
      cases x <;> simp only [Oper.uponIn] at h ⊢
      case panic u => exact hQ _ _ _ h
  · rename_i hw
    simp only [hw] at h
    exact ⟨fun _ _ => trivial, keep a hy _, by rw [← Act.put_comm a v undef h2]; exact h.2⟩

theorem anyJ_first {T : World → Prop} {i : Nat} {oi : Oper} {v : Value} (hi : ops[i]? = some oi) (hsel : ∀ (j : Nat) (o : Oper) cs b, ops[j]? = some o → o.op ≠ .select cs b)
    (hQ : ∀ c a w, Q (.panic c) (a.put oi.dst v) w → Q (.panic c) a w) (hJT : ∀ j w, J j w → edge ops j i = false → T w) :
    ∀ (fuel : Nat) (listed : Array Bool) (a : Act) (w : World),
      (∀ j oj, ops[j]? = some oj → j ≠ i → listed.getD j true = false → (∀ e ∈ oj.after, Region.binds .any e = true → e.on ≠ i) → oi.apart ops oj = true) →
      i ∈ Region.ready .any ops listed → YT P ops T oi v a → T w →
      anyJ P r ops Q J fuel (listed.setIfInBounds i true) (a.put oi.dst v) w → anyJ P r ops Q J (fuel + 1) listed a w := by
  intro fuel
  induction fuel with
  | zero =>
    intro listed a w _ hr hy hT H
    refine ⟨fun h => (by rw [h] at hr; cases hr), fun j hj => ?_⟩
    by_cases hji : j = i
    · subst hji; exact hy.wpOpIn hi hT ⟨.inl rfl, H⟩
    · have := ready_mono hj hji
      rw [H.1] at this
      cases this
  | succ fuel ih =>
    intro listed a w hfree hr hy hT H
    refine ⟨fun h => (by rw [h] at hr; cases hr), fun j hj => ?_⟩
    by_cases hji : j = i
    · subst hji; exact hy.wpOpIn hi hT ⟨.inl rfl, H⟩
    · have h1 := H.2 j (ready_mono hj hji)
      obtain ⟨hjun, oj, hoj, hall⟩ := mem_ready.1 hj
      have hnot : ∀ e ∈ oj.after, Region.binds .any e = true → e.on ≠ i := fun e he hb heq => by
        have h1 := hall e he hb
        have h0 := (mem_ready.1 hr).1
        rw [heq] at h1
        rcases Nat.lt_or_ge i listed.size with h' | h'
        · simp [h'] at h0 h1; rw [h0] at h1; cases h1
        · simp [Array.getElem?_eq_none h'] at h1
      have hed : edge ops j i = false := by
        simp only [edge, hoj]
        cases hq : oj.after.any fun x => Region.binds .any x && x.on == i with
        | false => rfl
        | true =>
          obtain ⟨x, hx, hb⟩ := Array.any_eq_true'.1 hq
          simp only [Bool.and_eq_true, beq_iff_eq] at hb
          exact absurd hb.2 (hnot x hx hb.1)
      have h2 := wpOpIn_putT hoj (hfree j oj hoj hji hjun hnot) (fun cs b => hsel i oi cs b hi) (fun cs b => hsel j oj cs b hoj) hQ hy h1
      have hfree' : ∀ k ok, ops[k]? = some ok → k ≠ i → (listed.setIfInBounds j true).getD k true = false →
          (∀ e ∈ ok.after, Region.binds .any e = true → e.on ≠ i) → oi.apart ops ok = true := fun k ok hk hki hun hno => by
        refine hfree k ok hk hki ?_ hno
        by_cases hjk : j = k
        · subst hjk; exact hjun
        · rw [getD_set_ne true hjk] at hun; exact hun
      refine wpOpIn_mono (fun a' w' h3 => ⟨h3.2.1, ih (listed.setIfInBounds j true) a' w' hfree' (ready_mono hr (Ne.symm hji)) h3.1 (h3.2.1.elim (fun e => e ▸ hT) fun h => hJT j w' h hed) ?_⟩) h2
      rw [Array.setIfInBounds_comm _ _ hji]
      exact h3.2.2

/-- May i be taken first here? -/
def tk (ops : Array Oper) (listed : Array Bool) (i : Nat) : Bool := Region.noSelect ops && Region.free .any ops listed i && (Region.ready .any ops listed).contains i

theorem anyJ_take {T : World → Prop} {i : Nat} {oi : Oper} {v : Value} {fuel : Nat} {listed : Array Bool} {a : Act} {w : World} (hi : ops[i]? = some oi) (ht : tk ops listed i = true)
    (hQ : ∀ c a w, Q (.panic c) (a.put oi.dst v) w → Q (.panic c) a w) (hy : YT P ops T oi v a) (hT : T w)
    (h : anyJ P r ops Q (fun j w => J j w ∧ (edge ops j i = false → T w)) fuel (listed.setIfInBounds i true) (a.put oi.dst v) w) : anyJ P r ops Q J (fuel + 1) listed a w := by
  simp only [tk, Bool.and_eq_true] at ht
  refine anyJ_mono (fun j w h => h.1) _ _ _ _ (anyJ_first (J := fun j w => J j w ∧ (edge ops j i = false → T w)) hi (Region.noSelect_spec ht.1.1) hQ (fun j w h => h.2) fuel listed a w (Region.free_spec hi ht.1.2) (by simpa using ht.2) hy hT h)
end

/-- A region from the state on: whichever order is picked. -/
def Dx (e : Env) (ds : List Deferred) (ops : Array Oper) (Q : Exit → Act → World → Prop) (J : Nat → World → Prop) (fuel : Nat) (listed : Array Bool) (ρ : Sl) (B : Frag) (H : HP) : Prop :=
  Xx e ds (fun a w => anyJ e.P e.r ops Q J fuel listed a w) ρ B H
def J0 : Nat → World → Prop := fun _ _ => True
/-- Behind what does not wait for i, this still reads as v. -/
def J1 (P : Program) (ops : Array Oper) (J : Nat → World → Prop) (i : Nat) (op : Op) (ty : TypeId) (ρ : Sl) (v : Value) : Nat → World → Prop :=
  fun j w => J j w ∧ (edge ops j i = false → Yx P op ty ρ (fun w' => w' = w) v)
def JOk (e : Env) (B : Frag) (H : HP) (J : Nat → World → Prop) (j : Nat) : Prop := ∀ w, St e.N0 B H w → J j w

section
variable {e : Env} {ds : List Deferred} {Q : Exit → Act → World → Prop} {ρ ρ' : Sl} {B B' : Frag} {H H' : HP} {K : Act → World → Prop} {ops : Array Oper} {J : Nat → World → Prop} {fuel : Nat} {listed : Array Bool}

theorem JOk.top {j : Nat} : JOk e B H J0 j := fun _ _ => trivial
theorem JOk.edge {i j : Nat} {op : Op} {ty : TypeId} {v : Value} (h : JOk e B H J j) (he : SL.edge ops j i = true) : JOk e B H (J1 e.P ops J i op ty ρ v) j := fun w s => ⟨h w s, fun hf => by rw [he] at hf; cases hf⟩
theorem JOk.yes {i j : Nat} {op : Op} {ty : TypeId} {v : Value} (h : JOk e B H J j) (hy : Yx e.P op ty ρ (St e.N0 B H) v) : JOk e B H (J1 e.P ops J i op ty ρ v) j :=
  fun w s => ⟨h w s, fun _ => ⟨hy.1, fun f w' d p a g he hw => by subst hw; exact hy.2 f w' d p a g he s⟩⟩

theorem Cx.drawn {id : Nat} {l : List Oper} (hm : e.P.follows .mixedOrders = true) (h : Dx e ds l.toArray (NoPanic Q) J0 l.length (List.replicate l.length false).toArray ρ B H) : Cx e ds (.region id l.toArray true) Q ρ B H :=
  fun a w f b s => by
    have h1 := h a w.drew f b.drew s.drew
    have h2 : anyJ e.P e.r l.toArray (NoPanic Q) J0 l.toArray.size (Array.replicate l.toArray.size false) a w.drew := by simpa using h1
    exact wpIn_mono (wpIn_region_any hm (anyJ_any _ _ _ _ h2)) NoPanic.imp

theorem Dx.done (hr : Region.ready .any ops listed = []) (h : Xx e ds (Q .normal) ρ B H) : Dx e ds ops (NoPanic Q) J fuel listed ρ B H := fun a w f b s => by
  have hq : NoPanic Q .normal a w := h a w f b s
  cases fuel with
  | zero => exact ⟨hr, hq⟩
  | succ n => exact ⟨fun _ => hq, by rw [hr]; simp⟩

/-- What only reckons is taken first. -/
theorem Dx.p {i d : Nat} {op : Op} {ty : TypeId} {pos : String} {af : Array Edge} {v : Value} (hi : ops[i]? = some ⟨some d, op, ty, pos, af, none⟩) (ht : tk ops listed i = true)
    (hy : Yx e.P op ty ρ (fun _ => True) v) (hd : Nat.blt d e.nt = true) (k : Dx e ds ops (NoPanic Q) J fuel (listed.setIfInBounds i true) ((d, v) :: ρ) B H) : Dx e ds ops (NoPanic Q) J (fuel + 1) listed ρ B H :=
  fun a w f b s => anyJ_take (T := fun _ => True) hi ht (fun _ _ _ h => h) ⟨hy.1, .inl ⟨by simp [Region.wanted], fun w hw => hy.2 a.eval w _ _ _ _ f.ev hw⟩⟩ trivial
    (anyJ_mono (fun j w h => ⟨h, fun _ => trivial⟩) _ _ _ _ (k _ w (f.put hd v) b s))
/-- What reads is taken first, and must read so behind all that does not wait for it. -/
theorem Dx.r {i d : Nat} {op : Op} {ty : TypeId} {pos : String} {af : Array Edge} {v : Value} (hi : ops[i]? = some ⟨some d, op, ty, pos, af, none⟩) (ht : tk ops listed i = true)
    (hy : Yx e.P op ty ρ (St e.N0 B H) v) (hd : Nat.blt d e.nt = true) (k : Dx e ds ops (NoPanic Q) (J1 e.P ops J i op ty ρ v) fuel (listed.setIfInBounds i true) ((d, v) :: ρ) B H) : Dx e ds ops (NoPanic Q) J (fuel + 1) listed ρ B H :=
  fun a w f b s => anyJ_take (T := fun w => Yx e.P op ty ρ (fun w' => w' = w) v) hi ht (fun _ _ _ h => h)
    ⟨hy.1, .inl ⟨by simp [Region.wanted], fun w hw => hw.2 a.eval w _ _ _ _ f.ev rfl⟩⟩ ⟨hy.1, fun f' w' d' p a' g he hw => by subst hw; exact hy.2 f' w' d' p a' g he s⟩ (k _ w (f.put hd v) b s)
/-- The same under a guard that says yes; and what a guard passes over. -/
theorem Dx.pT {i d j t : Nat} {u : Bool} {o : Oper} {op : Op} {ty : TypeId} {pos : String} {af : Array Edge} {v : Value} (hi : ops[i]? = some ⟨some d, op, ty, pos, af, some (j, u)⟩) (hj : ops[j]? = some o) (ho : o.dst = some t) (hv : lk ρ t = some (.bool u)) (ht : tk ops listed i = true)
    (hy : Yx e.P op ty ρ (fun _ => True) v) (hd : Nat.blt d e.nt = true) (k : Dx e ds ops (NoPanic Q) J fuel (listed.setIfInBounds i true) ((d, v) :: ρ) B H) : Dx e ds ops (NoPanic Q) J (fuel + 1) listed ρ B H :=
  fun a w f b s => anyJ_take (T := fun _ => True) hi ht (fun _ _ _ h => h) ⟨hy.1, .inl ⟨by simp [Region.wanted, yielded_of (e := e) f hj ho hv], fun w hw => hy.2 a.eval w _ _ _ _ f.ev hw⟩⟩ trivial
    (anyJ_mono (fun j w h => ⟨h, fun _ => trivial⟩) _ _ _ _ (k _ w (f.put hd v) b s))
theorem Dx.rT {i d j t : Nat} {u : Bool} {o : Oper} {op : Op} {ty : TypeId} {pos : String} {af : Array Edge} {v : Value} (hi : ops[i]? = some ⟨some d, op, ty, pos, af, some (j, u)⟩) (hj : ops[j]? = some o) (ho : o.dst = some t) (hv : lk ρ t = some (.bool u)) (ht : tk ops listed i = true)
    (hy : Yx e.P op ty ρ (St e.N0 B H) v) (hd : Nat.blt d e.nt = true) (k : Dx e ds ops (NoPanic Q) (J1 e.P ops J i op ty ρ v) fuel (listed.setIfInBounds i true) ((d, v) :: ρ) B H) : Dx e ds ops (NoPanic Q) J (fuel + 1) listed ρ B H :=
  fun a w f b s => anyJ_take (T := fun w => Yx e.P op ty ρ (fun w' => w' = w) v) hi ht (fun _ _ _ h => h)
    ⟨hy.1, .inl ⟨by simp [Region.wanted, yielded_of (e := e) f hj ho hv], fun w hw => hw.2 a.eval w _ _ _ _ f.ev rfl⟩⟩ ⟨hy.1, fun f' w' d' p a' g he hw => by subst hw; exact hy.2 f' w' d' p a' g he s⟩ (k _ w (f.put hd v) b s)
theorem Dx.pF {i d j t : Nat} {u : Bool} {o : Oper} {op : Op} {ty : TypeId} {pos : String} {af : Array Edge} (hi : ops[i]? = some ⟨some d, op, ty, pos, af, some (j, u)⟩) (hop : ∀ c, op ≠ .defer c) (hj : ops[j]? = some o) (ho : o.dst = some t) (hv : lk ρ t = some (.bool (!u))) (ht : tk ops listed i = true)
    (hd : Nat.blt d e.nt = true) (k : Dx e ds ops (NoPanic Q) J fuel (listed.setIfInBounds i true) ((d, undef) :: ρ) B H) : Dx e ds ops (NoPanic Q) J (fuel + 1) listed ρ B H :=
  fun a w f b s => anyJ_take (T := fun _ => True) hi ht (fun _ _ _ h => h) ⟨hop, .inr ⟨by simp [Region.wanted, yielded_of (e := e) f hj ho hv], rfl⟩⟩ trivial
    (anyJ_mono (fun j w h => ⟨h, fun _ => trivial⟩) _ _ _ _ (k _ w (f.put hd undef) b s))

/-- One of those that may come up. -/
def Dstep (e : Env) (ds : List Deferred) (ops : Array Oper) (Q : Exit → Act → World → Prop) (J : Nat → World → Prop) (fuel : Nat) (listed : Array Bool) (ρ : Sl) (B : Frag) (H : HP) (i : Nat) : Prop :=
  Xx e ds (fun a w => wpOpIn (FW e.r) 0 e.P ops Q i (fun a' w' => (w' = w ∨ J i w') ∧ anyJ e.P e.r ops Q J fuel (listed.setIfInBounds i true) a' w') a w) ρ B H
theorem Dx.all {is : List Nat} (hr : Region.ready .any ops listed = is) (hne : is ≠ []) (h : ∀ i ∈ is, Dstep e ds ops Q J fuel listed ρ B H i) : Dx e ds ops Q J (fuel + 1) listed ρ B H :=
  fun a w f b s => ⟨fun h0 => absurd (hr ▸ h0) hne, fun i hi => h i (hr ▸ hi) a w f b s⟩
theorem Dx.one {i : Nat} (hr : Region.ready .any ops listed = [i]) (h : Dstep e ds ops Q J fuel listed ρ B H i) : Dx e ds ops Q J (fuel + 1) listed ρ B H :=
  Dx.all hr (by simp) fun j hj => by rw [List.mem_singleton.1 hj]; exact h
theorem Dx.two {i j : Nat} (hr : Region.ready .any ops listed = [i, j]) (h : Dstep e ds ops Q J fuel listed ρ B H i) (h2 : Dstep e ds ops Q J fuel listed ρ B H j) : Dx e ds ops Q J (fuel + 1) listed ρ B H :=
  Dx.all hr (by simp) fun k hk => by
    simp at hk
    rcases hk with rfl | rfl
    · exact h
    · exact h2
theorem Dx.three {i j l : Nat} (hr : Region.ready .any ops listed = [i, j, l]) (h : Dstep e ds ops Q J fuel listed ρ B H i) (h2 : Dstep e ds ops Q J fuel listed ρ B H j) (h3 : Dstep e ds ops Q J fuel listed ρ B H l) : Dx e ds ops Q J (fuel + 1) listed ρ B H :=
  Dx.all hr (by simp) fun k hk => by
    simp at hk
    rcases hk with rfl | rfl | rfl
    · exact h
    · exact h2
    · exact h3

theorem Dstep.o {i d : Nat} {op : Op} {ty : TypeId} {pos : String} {af : Array Edge} {Φ : Value → Frag → HP → Prop} (hi : ops[i]? = some ⟨some d, op, ty, pos, af, none⟩) (h : Ox e ds op ty ρ B H Φ) (hd : Nat.blt d e.nt = true)
    (k : ∀ v B' H', Φ v B' H' → B.le B' → JOk e B' H' J i ∧ Dx e ds ops Q J fuel (listed.setIfInBounds i true) ((d, v) :: ρ) B' H') : Dstep e ds ops Q J fuel listed ρ B H i := by
  intro a w f b s
  unfold wpOpIn
  simp only [hi]
  rw [if_pos (by simp [Region.wanted])]
  exact Oper.wpIn_FW h.1 (h.2 a w _ _ _ _ _ _ f b s fun v B' H' w' hΦ hB b' s' => ⟨.inr ((k v B' H' hΦ hB).1 w' s'), (k v B' H' hΦ hB).2 _ w' (f.put hd v) b' s'⟩)
theorem Dstep.o0 {i : Nat} {op : Op} {ty : TypeId} {pos : String} {af : Array Edge} {Φ : Value → Frag → HP → Prop} (hi : ops[i]? = some ⟨none, op, ty, pos, af, none⟩) (h : Ox e ds op ty ρ B H Φ)
    (k : ∀ v B' H', Φ v B' H' → B.le B' → JOk e B' H' J i ∧ Dx e ds ops Q J fuel (listed.setIfInBounds i true) ρ B' H') : Dstep e ds ops Q J fuel listed ρ B H i := by
  intro a w f b s
  unfold wpOpIn
  simp only [hi]
  rw [if_pos (by simp [Region.wanted])]
  exact Oper.wpIn_FW h.1 (h.2 a w _ _ _ _ _ _ f b s fun v B' H' w' hΦ hB b' s' => ⟨.inr ((k v B' H' hΦ hB).1 w' s'), (k v B' H' hΦ hB).2 _ w' (f.put_none v) b' s'⟩)
theorem Dstep.oT {i d j t : Nat} {u : Bool} {o : Oper} {op : Op} {ty : TypeId} {pos : String} {af : Array Edge} {Φ : Value → Frag → HP → Prop} (hi : ops[i]? = some ⟨some d, op, ty, pos, af, some (j, u)⟩) (hj : ops[j]? = some o) (ho : o.dst = some t) (hv : lk ρ t = some (.bool u)) (h : Ox e ds op ty ρ B H Φ) (hd : Nat.blt d e.nt = true)
    (k : ∀ v B' H', Φ v B' H' → B.le B' → JOk e B' H' J i ∧ Dx e ds ops Q J fuel (listed.setIfInBounds i true) ((d, v) :: ρ) B' H') : Dstep e ds ops Q J fuel listed ρ B H i := by
  intro a w f b s
  unfold wpOpIn
  simp only [hi]
  rw [if_pos (by simp [Region.wanted, yielded_of (e := e) f hj ho hv])]
  exact Oper.wpIn_FW h.1 (h.2 a w _ _ _ _ _ _ f b s fun v B' H' w' hΦ hB b' s' => ⟨.inr ((k v B' H' hΦ hB).1 w' s'), (k v B' H' hΦ hB).2 _ w' (f.put hd v) b' s'⟩)

/-- A case is made of a truth in a slot. -/
theorem Xx.ifD {t : Nat} {p : Prop} [Decidable p] (hv : lk ρ t = some (.bool (decide p))) (h1 : p → Xx e ds K ((t, .bool true) :: ρ) B H) (h2 : ¬ p → Xx e ds K ((t, .bool false) :: ρ) B H) : Xx e ds K ρ B H := by
  by_cases h : p
  · refine (h1 h).sub (Sub.cons ?_ (Sub.refl ρ)); rw [hv]; simp [h]
  · refine (h2 h).sub (Sub.cons ?_ (Sub.refl ρ)); rw [hv]; simp [h]
theorem Xx.ifN {t : Nat} {p : Prop} [Decidable p] (hv : lk ρ t = some (.bool (!decide p))) (h1 : ¬ p → Xx e ds K ((t, .bool true) :: ρ) B H) (h2 : p → Xx e ds K ((t, .bool false) :: ρ) B H) : Xx e ds K ρ B H := by
  by_cases h : p
  · refine (h2 h).sub (Sub.cons ?_ (Sub.refl ρ)); rw [hv]; simp [h]
  · refine (h1 h).sub (Sub.cons ?_ (Sub.refl ρ)); rw [hv]; simp [h]
theorem Xx.ifB {t : Nat} {b : Bool} (hv : lk ρ t = some (.bool b)) (h1 : b = true → Xx e ds K ((t, .bool true) :: ρ) B H) (h2 : b = false → Xx e ds K ((t, .bool false) :: ρ) B H) : Xx e ds K ρ B H := by
  cases b with
  | true => exact (h1 rfl).sub (Sub.cons hv (Sub.refl ρ))
  | false => exact (h2 rfl).sub (Sub.cons hv (Sub.refl ρ))
end
end Go.SL
