/-
  Texts of this seat, one behind the other: Sla, Slb, Slc, Sld, Sle, Slf, Slg, Slh, Sli, Slj, Fr1, Fr2, Fr3, Fr4, Fr5, Fr6, Fr7, Fr8, FrA, Slk, Slm, Sln, Slo.
-/
import Derived.RangeFuncNested
import Derived.RangeFuncLeaves
import Derived.OrdersIn
import Derived.TacticsIn
import Derived.WalkKit
import Derived.KernelRfl
import Derived.Deep.AppendSrc
import Derived.Laws.BytesString
import Derived.Laws.MakeOwn
import Derived.Laws.BytesArg
import Derived.WalkSpells
import Derived.Laws.Cover3
import Derived.Deep.RegionHeld3
import Derived.Test.YthlfffbcligocaaGreatProg
import Derived.ProofKit
import Derived.OpenShut
import Derived.JoinedCond
import Derived.JoinedOf
import Derived.ChangeSame
import Derived.Carry
import Derived.SliceStrings
import Derived.Laws.IdiomStrings
import Derived.Laws.AppendOwn
import Derived.Laws.CopyRow
import Derived.Lib.AppendZeros
import Derived.Lib.Overlaps
import Derived.Lib.Bytealg
import Derived.LoopNIn
set_option linter.unusedSimpArgs false
set_option linter.unusedVariables false
namespace Go.SL
open Go.RowKit
def FW (r : Option Nat) : Fence := { fn := fun _ => True, depth := none, alive := false, round := r }
theorem callsIn_FW {r : Option Nat} {n : Nat} {P : Program} {f : FuncId} {args : Array Value} {w : World} {R : Ending → World → Prop} : CallsIn (FW r) n P f args w R ↔ Calls P f args w R :=
  callsIn_wide (n := n) (P := P) (f := f) (args := args) (w := w) (R := R)
def frc {α : Type} : List α → (List α → Option (List α)) → Option (List α)
  | [], k => k []
  | x :: xs, k => frc xs fun ys => k (x :: ys)
theorem frc_gen {α : Type} : ∀ (l : List α) (k : List α → Option (List α)), frc l k = k l := by
  intro l
  induction l with
  | nil => intro k; rfl
  | cons x xs ih => intro k; simp only [frc]; rw [ih]
theorem frc_eq {α : Type} {l m : List α} (h : frc l some = some m) : l = m := by rw [frc_gen] at h; exact Option.some.inj h
theorem beq_ne {s t : Nat} (e : ¬ t = s) : Nat.beq t s = false := by
  cases h : Nat.beq t s with
  | false => rfl
  | true => exact absurd (Nat.eq_of_beq_eq_true h) e
abbrev Sl := List (Nat × Value)
def lk : Sl → Nat → Option Value
  | [], _ => none
  | (s, v) :: l, t => bif Nat.beq t s then some v else lk l t
structure Fr (ρ : Sl) (nt : Nat) (ds : List Deferred) (a : Act) : Prop where
  size : a.tmps.size = nt
  get : ∀ t v, lk ρ t = some v → a.tmps[t]? = some v
  defers : a.defers = ds
def ev (ρ : Sl) : Operand → Option Value
  | .tmp t => lk ρ t
  | .const v => some v
  | .global g => some (.pointer (some ⟨g, 0, none⟩))
  | .func f => some (.func (.func f) #[] #[])
def evl (ρ : Sl) : List Operand → Option (List Value)
  | [] => some []
  | x :: xs => match ev ρ x, evl ρ xs with
    | some v, some vs => some (v :: vs)
    | _, _ => none
def Ev (ρ : Sl) (f : Operand → Value) : Prop := ∀ x v, ev ρ x = some v → f x = v
theorem Fr.ev {ρ : Sl} {nt : Nat} {ds : List Deferred} {a : Act} (h : Fr ρ nt ds a) : Ev ρ a.eval := by
  intro x v hx
  cases x with
  | tmp t => have := h.get t v hx; simp [Act.eval, this]
  | const c => simp [SL.ev] at hx; exact hx
  | global g => simp [SL.ev] at hx; exact hx
  | func f => simp [SL.ev] at hx; exact hx
theorem Ev.map {ρ : Sl} {f : Operand → Value} (h : Ev ρ f) : ∀ {xs : List Operand} {vs : List Value}, evl ρ xs = some vs → xs.map f = vs := by
  intro xs
  induction xs with
  | nil => intro vs hv; simp [evl] at hv; simp [hv]
  | cons x xs ih =>
    intro vs hv
    simp only [evl] at hv
    split at hv
    · rename_i v us hx hs
      injection hv with hv
      subst hv
      simp [h x v hx, ih hs]
    · simp at hv
theorem Fr.put {ρ : Sl} {nt : Nat} {ds : List Deferred} {a : Act} (h : Fr ρ nt ds a) {d : Nat} (hd : Nat.blt d nt = true) (v : Value) : Fr ((d, v) :: ρ) nt ds (a.put (some d) v) := by
  have hd' : d < nt := by simpa [Nat.blt_eq] using hd
  refine ⟨by simp [Act.put, h.size], fun t u ht => ?_, by simp [Act.put, h.defers]⟩
  simp only [lk] at ht
  by_cases e : t = d
  · subst e
    simp at ht
    simp [Act.put, h.size, hd', ht]
  · have : Nat.beq t d = false := beq_ne e
    rw [this] at ht
    simp only [cond_false] at ht
    have := h.get t u ht
    simp [Act.put, Ne.symm e, this]
theorem Fr.put_none {ρ : Sl} {nt : Nat} {ds : List Deferred} {a : Act} (h : Fr ρ nt ds a) (v : Value) : Fr ρ nt ds (a.put none v) := h
def Sub (ρ ρ' : Sl) : Prop := ∀ t v, lk ρ' t = some v → lk ρ t = some v
theorem Sub.refl (ρ : Sl) : Sub ρ ρ := fun _ _ h => h
theorem Sub.nil (ρ : Sl) : Sub ρ [] := fun _ _ h => by simp [lk] at h
theorem Sub.cons {ρ ρ' : Sl} {s : Nat} {v : Value} (h : lk ρ s = some v) (hs : Sub ρ ρ') : Sub ρ ((s, v) :: ρ') := by
  intro t u ht
  simp only [lk] at ht
  by_cases e : t = s
  · subst e; simp at ht; rw [h, ht]
  · have : Nat.beq t s = false := beq_ne e
    rw [this] at ht
    exact hs t u ht
theorem Sc {ρ ρ' : Sl} (s : Nat) {v : Value} (h : lk ρ s = some v) (hs : Sub ρ ρ') : Sub ρ ((s, v) :: ρ') := Sub.cons h hs
theorem Sub.consE {ρ ρ' : Sl} {s : Nat} {v v' : Value} (h : lk ρ s = some v) (e : v = v') (hs : Sub ρ ρ') : Sub ρ ((s, v') :: ρ') := Sub.cons (e ▸ h) hs
theorem Fr.sub {ρ ρ' : Sl} {nt : Nat} {ds : List Deferred} {a : Act} (h : Fr ρ nt ds a) (hs : Sub ρ ρ') : Fr ρ' nt ds a := ⟨h.size, fun t v ht => h.get t v (hs t v ht), h.defers⟩
def mk0 : Nat → List Value → Sl
  | _, [] => []
  | i, v :: vs => (i, v) :: mk0 (i + 1) vs
theorem lk_mk0 : ∀ (vs : List Value) (i t : Nat) (v : Value), lk (mk0 i vs) t = some v → i ≤ t ∧ vs[t - i]? = some v := by
  intro vs
  induction vs with
  | nil => intro i t v h; simp [mk0, lk] at h
  | cons u us ih =>
    intro i t v h
    simp only [mk0, lk] at h
    by_cases e : t = i
    · subst e; simp at h; simp [h]
    · have : Nat.beq t i = false := beq_ne e
      rw [this] at h
      obtain ⟨h1, h2⟩ := ih (i + 1) t v h
      refine ⟨by omega, ?_⟩
      rw [show t - i = (t - (i + 1)) + 1 by omega]
      simpa using h2
theorem Fr.start {args : List Value} {nt : Nat} (h : Nat.ble args.length nt = true) : Fr (mk0 0 args) nt [] { tmps := args.toArray ++ Array.replicate (nt - args.toArray.size) undef, defers := [] } := by
  have h' : args.length ≤ nt := by simpa using h
  refine ⟨by simp; omega, fun t v ht => ?_, rfl⟩
  obtain ⟨_, h2⟩ := lk_mk0 args 0 t v ht
  simp only [Nat.sub_zero] at h2
  have hlt : t < args.length := (List.getElem?_eq_some_iff.1 h2).1
  rw [Array.getElem?_append_left (by simpa using hlt)]
  simpa using h2
abbrev Frag := Nat → Option Obj
def HP := Frag → Prop
def Frag.none : Frag := fun _ => Option.none
def Frag.one (b : Nat) (o : Obj) : Frag := fun x => if x = b then some o else Option.none
def Frag.disj (h k : Frag) : Prop := ∀ b, h b = Option.none ∨ k b = Option.none
def Frag.un (h k : Frag) : Frag := fun b => (h b).or (k b)
def Frag.le (h k : Frag) : Prop := ∀ b o, h b = some o → k b = some o
theorem Frag.le_refl (h : Frag) : h.le h := fun _ _ x => x
set_option linter.defProp false
def Fl := @Frag.le_refl
theorem Frag.le_trans {a b c : Frag} (h : a.le b) (k : b.le c) : a.le c := fun x o hx => k x o (h x o hx)
set_option linter.defProp false
def Fz := @Frag.le_trans
theorem HP.ext {p q : HP} (h : ∀ x, p x ↔ q x) : p = q := funext fun x => propext (h x)
def star (p q : HP) : HP := fun h => ∃ h1 h2, Frag.disj h1 h2 ∧ h = Frag.un h1 h2 ∧ p h1 ∧ q h2
instance : Mul HP := ⟨star⟩
def emp : HP := fun h => h = Frag.none
instance : One HP := ⟨emp⟩
def blk (b : Nat) (o : Obj) : HP := fun h => h = Frag.one b o
abbrev row (b : Nat) (e : TypeId) (vs : List Value) : HP := blk b (.cells vs.toArray e (0, 0))
def ex {α : Type} (f : α → HP) : HP := fun h => ∃ x, f x h
def pr (p : Prop) : HP := fun h => p ∧ h = Frag.none
theorem disj_comm {h k : Frag} (d : h.disj k) : k.disj h := fun b => (d b).symm
theorem un_comm {h k : Frag} (d : h.disj k) : h.un k = k.un h := by
  funext b
  simp only [Frag.un]
  rcases d b with e | e <;> simp [e]
theorem un_assoc (a b c : Frag) : (a.un b).un c = a.un (b.un c) := by
  funext x; simp only [Frag.un, Option.or_assoc]
theorem star_comm (p q : HP) : p * q = q * p := HP.ext fun h =>
  ⟨fun ⟨a, b, d, e, x, y⟩ => ⟨b, a, disj_comm d, by rw [e, un_comm d], y, x⟩, fun ⟨a, b, d, e, x, y⟩ => ⟨b, a, disj_comm d, by rw [e, un_comm d], y, x⟩⟩
theorem disj_un {a b c : Frag} : (a.un b).disj c ↔ a.disj c ∧ b.disj c := by
  constructor
  · intro d
    refine ⟨fun x => ?_, fun x => ?_⟩
    · rcases d x with e | e
      · simp only [Frag.un, Option.or_eq_none_iff] at e; exact .inl e.1
      · exact .inr e
    · rcases d x with e | e
      · simp only [Frag.un, Option.or_eq_none_iff] at e; exact .inl e.2
      · exact .inr e
  · rintro ⟨d1, d2⟩ x
    rcases d1 x with e | e
    · rcases d2 x with e2 | e2
      · exact .inl (by simp [Frag.un, e, e2])
      · exact .inr e2
    · exact .inr e
theorem disj_un' {a b c : Frag} : a.disj (b.un c) ↔ a.disj b ∧ a.disj c :=
  ⟨fun d => let ⟨x, y⟩ := disj_un.1 (disj_comm d); ⟨disj_comm x, disj_comm y⟩, fun ⟨x, y⟩ => disj_comm (disj_un.2 ⟨disj_comm x, disj_comm y⟩)⟩
theorem star_assoc (p q r : HP) : (p * q) * r = p * (q * r) := HP.ext fun h => by
  constructor
  · rintro ⟨ab, c, d, e, ⟨a, b, d2, e2, x, y⟩, z⟩
    subst e2
    obtain ⟨dac, dbc⟩ := disj_un.1 d
    exact ⟨a, b.un c, disj_un'.2 ⟨d2, dac⟩, by rw [e, un_assoc], x, b, c, dbc, rfl, y, z⟩
  · rintro ⟨a, bc, d, e, x, b, c, d2, e2, y, z⟩
    subst e2
    obtain ⟨dab, dac⟩ := disj_un'.1 d
    exact ⟨a.un b, c, disj_un.2 ⟨dac, d2⟩, by rw [e, un_assoc], ⟨a, b, dab, rfl, x, y⟩, z⟩
instance : Std.Associative (α := HP) (· * ·) := ⟨star_assoc⟩
instance : Std.Commutative (α := HP) (· * ·) := ⟨star_comm⟩
theorem star_left (p q r : HP) : p * (q * r) = q * (p * r) := by rw [← star_assoc, star_comm p q, star_assoc]
theorem one_star (p : HP) : 1 * p = p := HP.ext fun h => by
  constructor
  · rintro ⟨a, b, _, e, x, y⟩
    have : a = Frag.none := x
    subst this
    have : h = b := by rw [e]; funext z; simp [Frag.un, Frag.none]
    rw [this]; exact y
  · intro x
    exact ⟨Frag.none, h, fun _ => .inl rfl, by funext z; simp [Frag.un, Frag.none], rfl, x⟩
theorem star_one (p : HP) : p * 1 = p := by rw [star_comm, one_star]
structure St (N0 : Nat) (B : Frag) (H : HP) (w : World) : Prop where
  ro : ∀ b o, B b = some o → w.heap[b]? = some o
  sz : N0 ≤ w.heap.size
  own : ∃ h : Frag, (∀ b o, h b = some o → w.heap[b]? = some o ∧ B b = Option.none ∧ N0 ≤ b) ∧ H h
theorem St.blk {N0 : Nat} {B : Frag} {b : Nat} {o : Obj} {R : HP} {w : World} (h : St N0 B (blk b o * R) w) : w.heap[b]? = some o ∧ B b = Option.none ∧ N0 ≤ b := by
  obtain ⟨_, _, k, hk, a, c, d, e, x, y⟩ := h
  have : a = Frag.one b o := x
  subst this
  exact hk b o (by rw [e]; simp [Frag.un, Frag.one])
theorem St.drop {N0 : Nat} {B : Frag} {p R : HP} {w : World} (h : St N0 B (p * R) w) : St N0 B R w := by
  obtain ⟨hr, hz, k, hk, a, c, d, e, x, y⟩ := h
  refine ⟨hr, hz, c, fun b o hb => hk b o ?_, y⟩
  rw [e]
  rcases d b with z | z
  · simp [Frag.un, z, hb]
  · rw [z] at hb; cases hb
theorem St.put {N0 : Nat} {B : Frag} {b : Nat} {o o' : Obj} {R : HP} {w w' : World} (h : St N0 B (SL.blk b o * R) w) (hb : w'.heap[b]? = some o') (hs : ∀ k, k ≠ b → w'.heap[k]? = w.heap[k]?)
    (hz' : w.heap.size ≤ w'.heap.size) : St N0 B (SL.blk b o' * R) w' := by
  obtain ⟨_, hB, hN⟩ := h.blk
  obtain ⟨hr, hz, k, hk, a, c, d, e, x, y⟩ := h
  have hx : a = Frag.one b o := x
  subst hx
  refine ⟨fun i u hi => ?_, Nat.le_trans hz hz', (Frag.one b o').un c, fun i u hi => ?_, Frag.one b o', c, fun i => ?_, rfl, rfl, y⟩
  · rw [hs i (fun e => by subst e; rw [hB] at hi; cases hi)]; exact hr i u hi
  · by_cases e2 : i = b
    · subst e2
      simp [Frag.un, Frag.one] at hi
      subst hi
      exact ⟨hb, hB, hN⟩
    · have h2 : (Frag.un (Frag.one b o) c) i = some u := by
        simp [Frag.un, Frag.one, e2] at hi ⊢; exact hi
      rw [← e] at h2
      rw [hs i e2]
      exact hk i u h2
  · rcases d i with z | z
    · left
      simp only [Frag.one] at z ⊢
      split at z
      · cases z
      · rename_i hne; simp [hne]
    · exact .inr z
theorem St.alloc {N0 : Nat} {B : Frag} {R : HP} {w : World} (h : St N0 B R w) (o : Obj) : St N0 B (SL.blk w.heap.size o * R) (w.alloc o) := by
  obtain ⟨hr, hN, k, hk, y⟩ := h
  have hlt : ∀ {b : Nat} {u : Obj}, w.heap[b]? = some u → b < w.heap.size := fun h => (Array.getElem?_eq_some_iff.1 h).1
  refine ⟨fun i u hi => ?_, by simp; omega, (Frag.one w.heap.size o).un k, fun i u hi => ?_, Frag.one w.heap.size o, k, fun i => ?_, rfl, rfl, y⟩
  · rw [Below.heap_alloc _ _ _ (hlt (hr i u hi))]; exact hr i u hi
  · by_cases e2 : i = w.heap.size
    · subst e2
      simp [Frag.un, Frag.one] at hi
      subst hi
      refine ⟨World.alloc_heap_new w o, ?_, hN⟩
      cases hB : B w.heap.size with
      | none => rfl
      | some u => have := hlt (hr _ u hB); omega
    · simp [Frag.un, Frag.one, e2] at hi
      obtain ⟨h1, h2, h3⟩ := hk i u hi
      exact ⟨by rw [Below.heap_alloc _ _ _ (hlt h1)]; exact h1, h2, h3⟩
  · by_cases e2 : i = w.heap.size
    · right
      subst e2
      cases hB : k w.heap.size with
      | none => rfl
      | some u => have := hlt (hk _ u hB).1; omega
    · left; simp [Frag.one, e2]
theorem St.freeze {N0 : Nat} {B : Frag} {b : Nat} {o : Obj} {R : HP} {w : World} (h : St N0 B (SL.blk b o * R) w) :
    St N0 (Frag.un B (Frag.one b o)) R w ∧ B.le (Frag.un B (Frag.one b o)) := by
  obtain ⟨hw, hB, hN⟩ := h.blk
  obtain ⟨hr, hz, k, hk, a, c, d, e, x, y⟩ := h
  have hx : a = Frag.one b o := x
  subst hx
  refine ⟨⟨fun i u hi => ?_, hz, c, fun i u hi => ?_, y⟩, fun i u hi => by simp [Frag.un, hi]⟩
  · by_cases e2 : i = b
    · subst e2
      simp [Frag.un, Frag.one, hB] at hi
      subst hi; exact hw
    · simp [Frag.un, Frag.one, e2] at hi
      exact hr i u hi
  · have hib : i ≠ b := fun e2 => by
      subst e2
      rcases d i with z | z
      · simp [Frag.one] at z
      · rw [z] at hi; cases hi
    have h2 : k i = some u := by rw [e]; simp [Frag.un, Frag.one, hib, hi]
    obtain ⟨h1, h3, h4⟩ := hk i u h2
    exact ⟨h1, by simp [Frag.un, Frag.one, hib, h3], h4⟩
theorem St.drew {N0 : Nat} {B : Frag} {H : HP} {w : World} (h : St N0 B H w) : St N0 B H w.drew := ⟨h.ro, h.sz, h.own⟩
theorem St.of_eq {N0 : Nat} {B : Frag} {H H' : HP} {w : World} (h : St N0 B H w) (e : H = H') : St N0 B H' w := e ▸ h
theorem St.imp {N0 : Nat} {B : Frag} {H H' : HP} {w : World} (h : St N0 B H w) (e : ∀ k, H k → H' k) : St N0 B H' w := ⟨h.ro, h.sz, let ⟨k, a, b⟩ := h.own; ⟨k, a, e k b⟩⟩
theorem star_mono {p p' q q' : HP} (h1 : ∀ k, p k → p' k) (h2 : ∀ k, q k → q' k) : ∀ k, (p * q) k → (p' * q') k :=
  fun _ ⟨a, b, d, e, x, y⟩ => ⟨a, b, d, e, h1 _ x, h2 _ y⟩
class PickB (H : HP) (b : Nat) (o : outParam Obj) (R : outParam HP) : Prop where
  eq : H = blk b o * R
set_option linter.defProp false
def Pe := @PickB.eq
instance (b : Nat) (o : Obj) (R : HP) : PickB (blk b o * R) b o R := ⟨rfl⟩
instance (y H : HP) (b : Nat) (o : Obj) (R : HP) [h : PickB H b o R] : PickB (y * H) b o (y * R) := ⟨by rw [h.eq, star_left]⟩
class Pick (H : HP) (p : HP) (R : outParam HP) : Prop where
  eq : H = p * R
instance (p R : HP) : Pick (p * R) p R := ⟨rfl⟩
instance (y H p R : HP) [h : Pick H p R] : Pick (y * H) p (y * R) := ⟨by rw [h.eq, star_left]⟩
class Split (H : HP) (p : HP) (R : outParam HP) : Prop where
  eq : H = p * R
instance splitOne (H : HP) : Split H 1 H := ⟨(one_star H).symm⟩
instance splitMul (H p q R1 R2 : HP) [h1 : Pick H p R1] [h2 : Split R1 q R2] : Split H (p * q) R2 := ⟨by rw [h1.eq, h2.eq, star_assoc]⟩
theorem pick0 (p R : HP) : p * R = p * R := rfl
end Go.SL
namespace Go.SL
open Go.RowKit
structure Env where
  P : Program
  r : Option Nat
  N0 : Nat
  w0 : World
  nt : Nat
def Xx (e : Env) (ds : List Deferred) (K : Act → World → Prop) (ρ : Sl) (B : Frag) (H : HP) : Prop :=
  ∀ a w, Fr ρ e.nt ds a → Below e.N0 e.w0 w → St e.N0 B H w → K a w
def Cx (e : Env) (ds : List Deferred) (c : Code) (Q : Exit → Act → World → Prop) (ρ : Sl) (B : Frag) (H : HP) : Prop :=
  Xx e ds (fun a w => c.wpIn (FW e.r) 0 e.P Q a w) ρ B H
def Lx (e : Env) (ds : List Deferred) (ops : Array Oper) (Q : Exit → Act → World → Prop) (rest : List Oper) (ρ : Sl) (B : Frag) (H : HP) : Prop :=
  Xx e ds (fun a w => wpListIn (FW e.r) 0 e.P ops Q rest a w) ρ B H
section
variable {e : Env} {ds : List Deferred} {Q : Exit → Act → World → Prop} {ρ ρ' : Sl} {B B' : Frag} {H H' : HP} {K : Act → World → Prop}
theorem Xx.perm (h : Xx e ds K ρ B H') (hp : H = H') : Xx e ds K ρ B H := hp ▸ h
theorem Xx.sub (h : Xx e ds K ρ' B H) (hs : Sub ρ ρ') : Xx e ds K ρ B H := fun a w f b s => h a w (f.sub hs) b s
theorem Xx.drop {p : HP} (h : Xx e ds K ρ B H) : Xx e ds K ρ B (p * H) := fun a w f b s => h a w f b s.drop
theorem Xx.freeze {b : Nat} {o : Obj} (h : ∀ B', B.le B' → B' b = some o → Xx e ds K ρ B' H) : Xx e ds K ρ B (blk b o * H) := fun a w f bl s =>
  h _ s.freeze.2 (by
    have := s.blk.2.1
    simp [Frag.un, Frag.one, this]) a w f bl s.freeze.1
theorem Cx.seq {x y : Code} (h : ∀ K : Act → World → Prop, (∀ ds ρ B H, Cx e ds y Q ρ B H → Xx e ds K ρ B H) → Cx e ds x (Exit.then K Q) ρ B H) : Cx e ds (.seq x y) Q ρ B H :=
  fun a w f b s => wpIn_seq (h (fun a w => y.wpIn (FW e.r) 0 e.P Q a w) (fun _ _ _ _ h => h) a w f b s)
set_option linter.defProp false
def Cq := @Cx.seq
def MK (e : Env) (ds : List Deferred) (M : Sl → Frag → HP → Prop) (a : Act) (w : World) : Prop :=
  ∃ ρ B H, M ρ B H ∧ Fr ρ e.nt ds a ∧ Below e.N0 e.w0 w ∧ St e.N0 B H w
theorem Xx.mk {M : Sl → Frag → HP → Prop} (hm : M ρ' B H) (hs : Sub ρ ρ') : Xx e ds (MK e ds M) ρ B H := fun _ _ f b s => ⟨ρ', B, H, hm, f.sub hs, b, s⟩
theorem Cx.cut {x y : Code} {ds' : List Deferred} (M : Sl → Frag → HP → Prop) (hx : Cx e ds x (Exit.then (MK e ds' M) Q) ρ B H) (hy : ∀ ρ B H, M ρ B H → Cx e ds' y Q ρ B H) : Cx e ds (.seq x y) Q ρ B H :=
  fun a w f b s => wpIn_seq (wpIn_mono (hx a w f b s) fun ex a w q => by
    cases ex with
    | normal => obtain ⟨ρ, B, H, hm, f, b, s⟩ := q; exact hy ρ B H hm a w f b s
    | exit id => exact q
    | goto l => exact q
    | ret => exact q
    | panic c => exact q
    | outgrown => exact q)
theorem Cx.skip (h : Xx e ds (Q .normal) ρ B H) : Cx e ds .skip Q ρ B H := fun a w f b s => wpIn_skip (h a w f b s)
theorem Cx.ret (h : Xx e ds (Q .ret) ρ B H) : Cx e ds .ret Q ρ B H := fun a w f b s => wpIn_ret (h a w f b s)
theorem Cx.exit {id : Nat} (h : Xx e ds (Q (.exit id)) ρ B H) : Cx e ds (.exit id) Q ρ B H := fun a w f b s => wpIn_exit (h a w f b s)
theorem Cx.block {id : Nat} {c : Code} (h : Cx e ds c (Exit.inBlock id Q) ρ B H) : Cx e ds (.block id c) Q ρ B H := fun a w f b s => wpIn_block (h a w f b s)
theorem Xx.tn (h : Xx e ds K ρ B H) : Xx e ds (Exit.then K Q .normal) ρ B H := h
theorem Xx.te {id : Nat} (h : Xx e ds (Q (.exit id)) ρ B H) : Xx e ds (Exit.then K Q (.exit id)) ρ B H := h
theorem Xx.tr (h : Xx e ds (Q .ret) ρ B H) : Xx e ds (Exit.then K Q .ret) ρ B H := h
theorem Xx.bn {id : Nat} (h : Xx e ds (Q .normal) ρ B H) : Xx e ds (Exit.inBlock id Q .normal) ρ B H := h
theorem Xx.br {id : Nat} (h : Xx e ds (Q .ret) ρ B H) : Xx e ds (Exit.inBlock id Q .ret) ρ B H := h
theorem Xx.bh {id : Nat} (h : Xx e ds (Q .normal) ρ B H) : Xx e ds (Exit.inBlock id Q (.exit id)) ρ B H := fun a w f b s => by
  simp only [Exit.inBlock, if_true]; exact h a w f b s
theorem Xx.bm {id id' : Nat} (hne : Nat.beq id' id = false) (h : Xx e ds (Q (.exit id')) ρ B H) : Xx e ds (Exit.inBlock id Q (.exit id')) ρ B H := fun a w f b s => by
  have : ¬ id' = id := fun e => by subst e; simp at hne
  simp only [Exit.inBlock, this, if_false]; exact h a w f b s
theorem Cx.condD {c : Operand} {x y : Code} {p : Prop} [Decidable p] (hc : ev ρ c = some (.bool (decide p))) (ht : p → Cx e ds x Q ρ B H) (hf : ¬ p → Cx e ds y Q ρ B H) : Cx e ds (.cond c x y) Q ρ B H :=
  fun a w f b s => wpIn_cond_split (f.ev _ _ hc) (fun h => ht (of_decide_eq_true h) a w f b s) (fun h => hf (of_decide_eq_false h) a w f b s)
theorem Cx.condN {c : Operand} {x y : Code} {p : Prop} [Decidable p] (hc : ev ρ c = some (.bool (!decide p))) (ht : ¬ p → Cx e ds x Q ρ B H) (hf : p → Cx e ds y Q ρ B H) : Cx e ds (.cond c x y) Q ρ B H :=
  fun a w f b s => wpIn_cond_split (f.ev _ _ hc) (fun h => ht (of_decide_eq_false (by simpa using h)) a w f b s) (fun h => hf (of_decide_eq_true (by simpa using h)) a w f b s)
theorem Cx.condB {c : Operand} {x y : Code} {t : Bool} (hc : ev ρ c = some (.bool t)) (ht : t = true → Cx e ds x Q ρ B H) (hf : t = false → Cx e ds y Q ρ B H) : Cx e ds (.cond c x y) Q ρ B H :=
  fun a w f b s => wpIn_cond_split (f.ev _ _ hc) (fun h => ht h a w f b s) (fun h => hf h a w f b s)
theorem Cx.condT {c : Operand} {x y : Code} (hc : ev ρ c = some (.bool true)) (h : Cx e ds x Q ρ B H) : Cx e ds (.cond c x y) Q ρ B H :=
  fun a w f b s => wpIn_cond_true (f.ev _ _ hc) (h a w f b s)
theorem Cx.condF {c : Operand} {x y : Code} (hc : ev ρ c = some (.bool false)) (h : Cx e ds y Q ρ B H) : Cx e ds (.cond c x y) Q ρ B H :=
  fun a w f b s => wpIn_cond_false (f.ev _ _ hc) (h a w f b s)
def LK (e : Env) (ds : List Deferred) (I : Nat → Sl → Frag → HP → Prop) (m : Nat) (a : Act) (w : World) : Prop :=
  ∃ m' ρ B H, m' < m ∧ I m' ρ B H ∧ Fr ρ e.nt ds a ∧ Below e.N0 e.w0 w ∧ St e.N0 B H w
theorem Xx.again {I : Nat → Sl → Frag → HP → Prop} {m m' : Nat} (hi : I m' ρ' B H) (hm : m' < m) (hs : Sub ρ ρ') : Xx e ds (LK e ds I m) ρ B H := fun _ _ f b s => ⟨m', ρ', B, H, hm, hi, f.sub hs, b, s⟩
theorem least {p : Nat → Prop} (h : ∃ n, p n) : ∃ n, p n ∧ ∀ m, p m → n ≤ m := by
  obtain ⟨n, hn⟩ := h
  induction n using Nat.strongRecOn with
  | _ n ih =>
    by_cases hx : ∃ m, m < n ∧ p m
    · obtain ⟨m, hm, hp⟩ := hx; exact ih m hm hp
    · exact ⟨n, hn, fun m hm => Nat.le_of_not_lt fun hlt => hx ⟨m, hlt, hm⟩⟩
open Classical in
theorem Cx.loop {c : Code} (I : Nat → Sl → Frag → HP → Prop) {m : Nat} (h0 : I m ρ' B H) (hs : Sub ρ ρ')
    (round : ∀ m ρ B H, I m ρ B H → Cx e ds c (Exit.then (LK e ds I m) Q) ρ B H) : Cx e ds (.loop c) Q ρ B H := by
  intro a w f b s
  let J : Nat → Act → World → Prop := fun m a w => ∃ ρ B H, I m ρ B H ∧ Fr ρ e.nt ds a ∧ Below e.N0 e.w0 w ∧ St e.N0 B H w
  let μ : Act → World → Nat := fun a w => if h : ∃ m, J m a w then Classical.choose (least h) else 0
  have hμ : ∀ m a w, J m a w → μ a w ≤ m ∧ J (μ a w) a w := by
    intro m a w h
    have hex : ∃ m, J m a w := ⟨m, h⟩
    simp only [μ, dif_pos hex]
    have := Classical.choose_spec (least hex)
    exact ⟨this.2 m h, this.1⟩
  refine wpIn_loop (fun a w => ∃ m, J m a w) μ ⟨m, ρ', B, H, h0, f.sub hs, b, s⟩ ?_
  rintro a w ⟨m, hm⟩
  obtain ⟨_, ρ1, B1, H1, hi, f1, b1, s1⟩ := hμ m a w hm
  refine wpIn_mono (round _ ρ1 B1 H1 hi a w f1 b1 s1) fun ex a' w' q => ?_
  cases ex with
  | normal =>
    obtain ⟨m', ρ2, B2, H2, hlt, hi2, f2, b2, s2⟩ := q
    have hj : J m' a' w' := ⟨ρ2, B2, H2, hi2, f2, b2, s2⟩
    exact ⟨⟨m', hj⟩, Nat.lt_of_le_of_lt (hμ m' a' w' hj).1 hlt⟩
  | exit id => exact q
  | goto l => exact q
  | ret => exact q
  | panic c => exact q
  | outgrown => exact q
theorem Cx.region {id : Nat} {l : List Oper} (h : Lx e ds l.toArray Q l ρ B H) : Cx e ds (.region id l.toArray false) Q ρ B H :=
  fun a w f b s => wpIn_region_lit (h a w f b s)
set_option linter.defProp false
def Cr := @Cx.region
variable {ops : Array Oper} {rest : List Oper}
theorem Lx.nil (h : Xx e ds (Q .normal) ρ B H) : Lx e ds ops Q [] ρ B H := h
def Yx (P : Program) (op : Op) (ty : TypeId) (ρ : Sl) (S : World → Prop) (v : Value) : Prop :=
  (∀ c, op ≠ .defer c) ∧ ∀ (f : Operand → Value) w (dst : Option Tmp) (pos : String) (after : Array Edge) (guard : Option (Nat × Bool)), Ev ρ f → S w → (execOp f ⟨dst, op, ty, pos, after, guard⟩).run P w = .ok (.value v) w
def Ox (e : Env) (ds : List Deferred) (op : Op) (ty : TypeId) (ρ : Sl) (B : Frag) (H : HP) (Φ : Value → Frag → HP → Prop) : Prop :=
  (∀ c, op ≠ .defer c) ∧ ∀ (a : Act) (w : World) (dst : Option Tmp) (pos : String) (after : Array Edge) (guard : Option (Nat × Bool)) (K : Act → World → Prop) (Q : Exit → Act → World → Prop),
    Fr ρ e.nt ds a → Below e.N0 e.w0 w → St e.N0 B H w →
    (∀ v B' H' w', Φ v B' H' → B.le B' → Below e.N0 e.w0 w' → St e.N0 B' H' w' → K (a.put dst v) w') →
    Oper.uponIn (FW e.r) 0 e.P ⟨dst, op, ty, pos, after, guard⟩ a K Q ((execOp a.eval ⟨dst, op, ty, pos, after, guard⟩).run e.P w)
theorem Oper.wpIn_FW {o : Oper} {a : Act} {w : World} {K : Act → World → Prop} {P : Program} {r : Option Nat} (hd : ∀ c, o.op ≠ .defer c)
    (h : Oper.uponIn (FW r) 0 P o a K Q ((execOp a.eval o).run P w)) : Oper.wpIn (FW r) 0 P o a w K Q :=
  ⟨fun _ _ => trivial, by
    have : Oper.semAt (FW r).round a.eval o = execOp a.eval o := Oper.semAt_eq _ _ _ hd
    rw [this]; exact h⟩
theorem Yx.ox {op : Op} {ty : TypeId} {v : Value} (h : Yx e.P op ty ρ (St e.N0 B H) v) : Ox e ds op ty ρ B H (fun v' B' H' => v' = v ∧ B' = B ∧ H' = H) :=
  ⟨h.1, fun a w dst pos after guard K Q f b s k => by
    rw [h.2 a.eval w dst pos after guard f.ev s]
    exact k v B H w ⟨rfl, rfl, rfl⟩ (Fl _) b s⟩
theorem Lx.o {op : Op} {ty : TypeId} {pos : String} {af : Array Edge} {d : Nat} {Φ : Value → Frag → HP → Prop} (h : Ox e ds op ty ρ B H Φ) (hd : Nat.blt d e.nt = true)
    (k : ∀ v B' H', Φ v B' H' → B.le B' → Lx e ds ops Q rest ((d, v) :: ρ) B' H') : Lx e ds ops Q (⟨some d, op, ty, pos, af, none⟩ :: rest) ρ B H := by
  intro a w f b s
  simp only [wpListIn]
  rw [if_pos (by simp [Region.wanted])]
  exact Oper.wpIn_FW h.1 (h.2 a w _ _ _ _ _ _ f b s fun v B' H' w' hΦ hB b' s' => k v B' H' hΦ hB _ w' (f.put hd v) b' s')
theorem Lx.o0 {op : Op} {ty : TypeId} {pos : String} {af : Array Edge} {Φ : Value → Frag → HP → Prop} (h : Ox e ds op ty ρ B H Φ)
    (k : ∀ v B' H', Φ v B' H' → B.le B' → Lx e ds ops Q rest ρ B' H') : Lx e ds ops Q (⟨none, op, ty, pos, af, none⟩ :: rest) ρ B H := by
  intro a w f b s
  simp only [wpListIn]
  rw [if_pos (by simp [Region.wanted])]
  exact Oper.wpIn_FW h.1 (h.2 a w _ _ _ _ _ _ f b s fun v B' H' w' hΦ hB b' s' => k v B' H' hΦ hB _ w' (f.put_none v) b' s')
theorem Lx.y {op : Op} {ty : TypeId} {pos : String} {af : Array Edge} {d : Nat} {v : Value} (h : Yx e.P op ty ρ (St e.N0 B H) v) (hd : Nat.blt d e.nt = true)
    (k : Lx e ds ops Q rest ((d, v) :: ρ) B H) : Lx e ds ops Q (⟨some d, op, ty, pos, af, none⟩ :: rest) ρ B H :=
  Lx.o h.ox hd fun v' B' H' ⟨e1, e2, e3⟩ _ => by subst e1; subst e2; subst e3; exact k
theorem yielded_of {o : Oper} {a : Act} {j t : Nat} {u : Bool} (f : Fr ρ e.nt ds a) (hj : ops[j]? = some o) (ho : o.dst = some t) (hv : lk ρ t = some (.bool u)) : yielded ops a.tmps j = some u := by
  have := f.get t _ hv
  simp [yielded, hj, ho, this]
theorem Lx.gT {o : Oper} {op : Op} {ty : TypeId} {pos : String} {af : Array Edge} {d : Option Nat} {j t : Nat} {u : Bool} (hj : ops[j]? = some o) (ho : o.dst = some t) (hv : lk ρ t = some (.bool u))
    (k : Lx e ds ops Q (⟨d, op, ty, pos, af, none⟩ :: rest) ρ B H) : Lx e ds ops Q (⟨d, op, ty, pos, af, some (j, u)⟩ :: rest) ρ B H := by
  intro a w f b s
  have hy := yielded_of (e := e) f hj ho hv
  have := k a w f b s
  simp only [wpListIn] at this ⊢
  rw [if_pos (by simp [Region.wanted])] at this
  rw [if_pos (by simp [Region.wanted, hy])]
  exact this
theorem Lx.gF {o : Oper} {op : Op} {ty : TypeId} {pos : String} {af : Array Edge} {d : Nat} {j t : Nat} {u : Bool} (hj : ops[j]? = some o) (ho : o.dst = some t) (hv : lk ρ t = some (.bool (!u))) (hd : Nat.blt d e.nt = true)
    (k : Lx e ds ops Q rest ((d, undef) :: ρ) B H) : Lx e ds ops Q (⟨some d, op, ty, pos, af, some (j, u)⟩ :: rest) ρ B H := by
  intro a w f b s
  have hy := yielded_of (e := e) f hj ho hv
  simp only [wpListIn]
  rw [if_neg (by simp [Region.wanted, hy])]
  exact ⟨fun _ _ => trivial, k _ w (f.put hd undef) b s⟩
def Ct (P : Program) (f : FuncId) (args : List Value) (B : Frag) (pre : HP) (Φ : Value → Frag → HP → Prop) : Prop :=
  (∀ args w, (callFunc f args).run P w = .ok (.enter f args) w) ∧
  ∀ (N0 : Nat) (w : World) (R : HP), St N0 B (pre * R) w →
    Calls P f args.toArray w fun x w' => ∃ v B' H', x = .returned v ∧ Φ v B' H' ∧ B.le B' ∧ Below N0 w w' ∧ St N0 B' (H' * R) w'
def Fin (N0 : Nat) (w0 : World) (R : HP) (B : Frag) (Φ : Value → Frag → HP → Prop) (x : Ending) (w' : World) : Prop :=
  ∃ v B' H', x = .returned v ∧ Φ v B' H' ∧ B.le B' ∧ Below N0 w0 w' ∧ St N0 B' (H' * R) w'
theorem enters_of {P : Program} {f : FuncId} {fn : Func} {c : Code} (hf : P.funcs[f]? = some fn) (hb : fn.body = some c) (hn : (fn.name == "runtime.NumGoroutine") = false) :
    ∀ args w, (callFunc f args).run P w = .ok (.enter f args) w := fun args w => by
  have hn' : ¬ fn.name = "runtime.NumGoroutine" := by simpa using hn
  simp [callFunc, hf, hb, hn']
theorem Ct.of_body {P : Program} {f : FuncId} {fn : Func} {c : Code} {args : List Value} {pre : HP} {Φ : Value → Frag → HP → Prop} {nt : Nat}
    (hf : P.funcs[f]? = some fn) (hb : fn.body = some c) (hnt : fn.ntmps = nt) (hn : (fn.name == "runtime.NumGoroutine") = false) (hs : Nat.ble args.length nt = true)
    (h : ∀ (N0 : Nat) (w0 : World) (R : HP), Cx ⟨P, none, N0, w0, nt⟩ [] c (bodyPost P fn (Fin N0 w0 R B Φ)) (mk0 0 args) B (pre * R)) : Ct P f args B pre Φ :=
  ⟨enters_of hf hb hn, fun N0 w R s => by
    refine (callsIn_FW (r := none) (n := 0)).1 (callsIn_of_wp hf hb trivial ?_)
    rw [hnt]
    exact h N0 w R _ w (Fr.start hs) (Below.refl _ _) s⟩
theorem Ct.of_bodyM {P : Program} {f : FuncId} {fn : Func} {c : Code} {args : List Value} {pre : HP} {Φ : Value → Frag → HP → Prop} {nt : Nat}
    (hf : P.funcs[f]? = some fn) (hb : fn.body = some c) (hnt : fn.ntmps = nt) (hn : (fn.name == "runtime.NumGoroutine") = false) (hs : Nat.ble args.length nt = true)
    (h : ∀ (N0 : Nat) (w0 : World) (R : HP), Cx ⟨P, none, N0, w0, nt⟩ [] c (bodyPostM (FW none) 0 P fn (Fin N0 w0 R B Φ)) (mk0 0 args) B (pre * R)) : Ct P f args B pre Φ :=
  ⟨enters_of hf hb hn, fun N0 w R s => by
    refine (callsIn_FW (r := none) (n := 0)).1 (callsIn_of_wp_marks hf hb trivial ?_)
    rw [hnt]
    exact h N0 w R _ w (Fr.start hs) (Below.refl _ _) s⟩
theorem Ct.mono {P : Program} {f : FuncId} {args : List Value} {pre : HP} {Φ Φ' : Value → Frag → HP → Prop} (h : Ct P f args B pre Φ) (hm : ∀ v B' H', Φ v B' H' → Φ' v B' H') : Ct P f args B pre Φ' :=
  ⟨h.1, fun N0 w R s => (h.2 N0 w R s).mono fun _ _ ⟨v, B', H', a, b, c⟩ => ⟨v, B', H', a, hm _ _ _ b, c⟩⟩
theorem Xx.ret1 {fn : Func} {N0 : Nat} {w0 : World} {P : Program} {r : Option Nat} {nt : Nat} {R : HP} {B0 : Frag} {Φ : Value → Frag → HP → Prop} {t : Tmp} {v : Value} (hr : fn.results = #[.tmp t]) (hv : lk ρ t = some v)
    (hΦ : Φ v B H') (hB : B0.le B) (hH : H = H' * R) : Xx ⟨P, r, N0, w0, nt⟩ [] (bodyPost P fn (Fin N0 w0 R B0 Φ) .ret) ρ B H := fun a w f b s =>
  ⟨f.defers, v, by rw [results_tmp hr]; have := f.get t v hv; simp [this], v, B, H', rfl, hΦ, hB, b, hH ▸ s⟩
theorem Xx.ret2 {fn : Func} {N0 : Nat} {w0 : World} {P : Program} {r : Option Nat} {nt : Nat} {R : HP} {B0 : Frag} {Φ : Value → Frag → HP → Prop} {t u : Tmp} {v x : Value} (hr : fn.results = #[.tmp t, .tmp u]) (hv : lk ρ t = some v) (hx : lk ρ u = some x)
    (hΦ : Φ (.tuple #[v, x]) B H') (hB : B0.le B) (hH : H = H' * R) : Xx ⟨P, r, N0, w0, nt⟩ [] (bodyPost P fn (Fin N0 w0 R B0 Φ) .ret) ρ B H := fun a w f b s =>
  ⟨f.defers, .tuple #[v, x], by rw [results_tmp2 hr]; have h1 := f.get t v hv; have h2 := f.get u x hx; simp [h1, h2], _, B, H', rfl, hΦ, hB, b, hH ▸ s⟩
theorem Xx.ret0 {fn : Func} {N0 : Nat} {w0 : World} {P : Program} {r : Option Nat} {nt : Nat} {R : HP} {B0 : Frag} {Φ : Value → Frag → HP → Prop} (hr : fn.results = #[])
    (hΦ : Φ (.tuple #[]) B H') (hB : B0.le B) (hH : H = H' * R) : Xx ⟨P, r, N0, w0, nt⟩ [] (bodyPost P fn (Fin N0 w0 R B0 Φ) .ret) ρ B H := fun _ _ f b s =>
  ⟨f.defers, .tuple #[], results_none hr _ _ _, _, B, H', rfl, hΦ, hB, b, hH ▸ s⟩
theorem Xx.end0 {fn : Func} {N0 : Nat} {w0 : World} {P : Program} {r : Option Nat} {nt : Nat} {R : HP} {B0 : Frag} {Φ : Value → Frag → HP → Prop} (hr : fn.results = #[])
    (hΦ : Φ (.tuple #[]) B H') (hB : B0.le B) (hH : H = H' * R) : Xx ⟨P, r, N0, w0, nt⟩ [] (bodyPost P fn (Fin N0 w0 R B0 Φ) .normal) ρ B H := fun _ _ f b s =>
  ⟨f.defers, .tuple #[], results_none hr _ _ _, _, B, H', rfl, hΦ, hB, b, hH ▸ s⟩
theorem Ox.call {x : Operand} {xs : Array Operand} {ts : Array TypeId} {ty : TypeId} {fi : FuncId} {first caps : Array Value} {args vs : List Value} {pre R : HP} {Φ : Value → Frag → HP → Prop}
    (hf : ev ρ x = some (.func (.func fi) first caps)) (hx : evl ρ xs.toList = some vs) (ha : first.toList ++ vs ++ caps.toList = args) (hc : Ct e.P fi args B pre Φ) (hH : H = pre * R) :
    Ox e ds (.call { callee := .value x, args := xs, argTypes := ts }) ty ρ B H (fun v B' H' => ∃ H1, H' = H1 * R ∧ Φ v B' H1) :=
  ⟨fun _ h => (by cases h), fun a w dst pos after guard K Q f b s k => by
    have hfv := f.ev _ _ hf
    have hxv : xs.map a.eval = vs.toArray := by
      have := f.ev.map hx
      apply Array.toList_inj.1
      simp [this]
    have hrun : (execOp a.eval ⟨dst, .call { callee := .value x, args := xs, argTypes := ts }, ty, pos, after, guard⟩).run e.P w = .ok (.enter fi args.toArray) w := by
      simp only [execOp, resolve, hfv, Deferred.ofValue, hxv]
      have := hc.1 (first ++ vs.toArray ++ caps) w
      have h2 : first ++ vs.toArray ++ caps = args.toArray := by
        apply Array.toList_inj.1
        simp [← ha]
      rw [h2] at this
      simp only [Sem.run_bind, Sem.run_pure, Result.andThen, invoke, h2]
      exact this
    rw [hrun]
    refine ⟨fun h => by simp [FW] at h, callsIn_FW.2 ((hc.2 e.N0 w R (hH ▸ s)).mono ?_)⟩
    rintro y w' ⟨v, B', H', rfl, hΦ, hB, b', s'⟩
    exact k v B' _ w' ⟨H', rfl, hΦ⟩ hB (b.trans b') s'⟩
theorem Lx.c {x : Operand} {xs : Array Operand} {ts : Array TypeId} {ty : TypeId} {pos : String} {af : Array Edge} {d : Nat} {fi : FuncId} {first caps : Array Value} {args vs : List Value} {pre R : HP} {Φ : Value → Frag → HP → Prop}
    (hf : ev ρ x = some (.func (.func fi) first caps)) (hx : evl ρ xs.toList = some vs) (ha : first.toList ++ vs ++ caps.toList = args) (hc : Ct e.P fi args B pre Φ) (hH : H = pre * R) (hd : Nat.blt d e.nt = true)
    (k : ∀ v B' H', Φ v B' H' → B.le B' → Lx e ds ops Q rest ((d, v) :: ρ) B' (H' * R)) : Lx e ds ops Q (⟨some d, .call { callee := .value x, args := xs, argTypes := ts }, ty, pos, af, none⟩ :: rest) ρ B H :=
  Lx.o (Ox.call hf hx ha hc hH) hd fun v B' H' ⟨H1, e1, hΦ⟩ hB => by subst e1; exact k v B' H1 hΦ hB
end
end Go.SL
namespace Go.SL
open Go.RowKit
abbrev str (l : List UInt8) : Value := .string ⟨l.toArray⟩
abbrev i64 (n : Int) : Value := .int .i64 n
theorem wrap64 {n : Int} (h1 : -9223372036854775808 ≤ n) (h2 : n ≤ 9223372036854775807) : IntKind.i64.wrap n = n := by
  simp only [IntKind.wrap, IntKind.bits, IntKind.signed, Bool.true_and]
  split <;> simp_all <;> omega
def toB (n : Int) : UInt8 := UInt8.ofNat (n % 256).toNat
theorem wrap_u8 (n : Int) : IntKind.u8.wrap n = ((toB n).toNat : Nat) := by
  have h : (toB n).toNat = (n % 256).toNat % 256 := by simp [toB]
  have h1 : 0 ≤ n % 256 := Int.emod_nonneg _ (by decide)
  have h2 : n % 256 < 256 := Int.emod_lt_of_pos _ (by decide)
  rw [h]
  simp [IntKind.wrap, IntKind.bits, IntKind.signed]
  omega
section
variable {P : Program} {ρ : Sl} {S : World → Prop} {ty : TypeId} {x y : Operand} {v u : Value} {k k' : IntKind} {m n z : Int} {t t' : TypeId}
theorem Yx.of {op : Op} (hd : ∀ c, op ≠ .defer c) (h : ∀ (f : Operand → Value) w (dst : Option Tmp) (pos : String) (after : Array Edge) (guard : Option (Nat × Bool)), Ev ρ f → S w → (execOp f ⟨dst, op, ty, pos, after, guard⟩).run P w = .ok (.value v) w) : Yx P op ty ρ S v := ⟨hd, h⟩
theorem mv (hx : ev ρ x = some v) : Yx P (.move x) ty ρ S v := .of (fun _ h => by cases h) fun f w _ _ _ _ he _ => by simp [execOp, he _ _ hx]
theorem asg (hx : ev ρ x = some v) : Yx P (.assign x) ty ρ S v := .of (fun _ h => by cases h) fun f w _ _ _ _ he _ => by simp [execOp, he _ _ hx]
theorem pickT {c a b : Operand} (hc : ev ρ c = some (.bool true)) (hx : ev ρ a = some v) : Yx P (.pick c a b) ty ρ S v := .of (fun _ h => by cases h) fun f w _ _ _ _ he _ => by simp [execOp, he _ _ hc, he _ _ hx, asBool]
theorem pickF {c a b : Operand} (hc : ev ρ c = some (.bool false)) (hx : ev ρ b = some v) : Yx P (.pick c a b) ty ρ S v := .of (fun _ h => by cases h) fun f w _ _ _ _ he _ => by simp [execOp, he _ _ hc, he _ _ hx, asBool]
theorem ext {vs : Array Value} {i : Nat} (hx : ev ρ x = some (.tuple vs)) (hv : vs[i]? = some v) : Yx P (.extract x i) ty ρ S v := .of (fun _ h => by cases h) fun f w _ _ _ _ he _ => by simp [execOp, he _ _ hx, Instr.extract, hv]
theorem nilc {a : Addr} (hx : ev ρ x = some (.pointer (some a))) : Yx P (.nilCheck x) ty ρ S (.pointer (some a)) := .of (fun _ h => by cases h) fun f w _ _ _ _ he _ => by simp [execOp, he _ _ hx]
theorem run_binOp {op : BinOp} {f : Operand → Value} {w : World} {dst : Option Tmp} {pos : String} {after : Array Edge} {guard : Option (Nat × Bool)} {a b : Value} {r : Value}
    (hx : f x = a) (hy : f y = b) (hg : (eqGuard op t x y a b).run P w = .ok () w) (hr : (binOp op t a b).run P w = .ok r w) :
    (execOp f ⟨dst, .binOp op t x y t', ty, pos, after, guard⟩).run P w = .ok (.value r) w := by
  simp [execOp, hx, hy, Sem.run_bind, hg, hr, Result.andThen]
theorem eqGuard_int {op : BinOp} {a b : Int} {w : World} : (eqGuard op t x y (.int k a) (.int k' b)).run P w = .ok () w := by
  cases op <;> simp [eqGuard]
theorem add (hx : ev ρ x = some (.int k m)) (hy : ev ρ y = some (.int k n)) (hz : k.wrap (m + n) = z) : Yx P (.binOp .add t x y t') ty ρ S (.int k z) := .of (fun _ h => by cases h) fun f w _ _ _ _ he _ =>
  run_binOp (he _ _ hx) (he _ _ hy) eqGuard_int (by simp [binOp, Op.intArith, hz])
theorem sub (hx : ev ρ x = some (.int k m)) (hy : ev ρ y = some (.int k n)) (hz : k.wrap (m - n) = z) : Yx P (.binOp .sub t x y t') ty ρ S (.int k z) := .of (fun _ h => by cases h) fun f w _ _ _ _ he _ =>
  run_binOp (he _ _ hx) (he _ _ hy) eqGuard_int (by simp [binOp, Op.intArith, hz])
theorem mul (hx : ev ρ x = some (.int k m)) (hy : ev ρ y = some (.int k n)) (hz : k.wrap (m * n) = z) : Yx P (.binOp .mul t x y t') ty ρ S (.int k z) := .of (fun _ h => by cases h) fun f w _ _ _ _ he _ =>
  run_binOp (he _ _ hx) (he _ _ hy) eqGuard_int (by simp [binOp, Op.intArith, hz])
theorem quo (hx : ev ρ x = some (.int k m)) (hy : ev ρ y = some (.int k n)) (h0 : n ≠ 0) (hz : k.wrap (m.tdiv n) = z) : Yx P (.binOp .quo t x y t') ty ρ S (.int k z) := .of (fun _ h => by cases h) fun f w _ _ _ _ he _ =>
  run_binOp (he _ _ hx) (he _ _ hy) eqGuard_int (by simp [binOp, Op.intDiv, h0, hz])
theorem rem (hx : ev ρ x = some (.int k m)) (hy : ev ρ y = some (.int k n)) (h0 : n ≠ 0) (hz : m.tmod n = z) : Yx P (.binOp .rem t x y t') ty ρ S (.int k z) := .of (fun _ h => by cases h) fun f w _ _ _ _ he _ =>
  run_binOp (he _ _ hx) (he _ _ hy) eqGuard_int (by simp [binOp, Op.intDiv, h0, hz])
theorem quoN (hx : ev ρ x = some (.int k m)) (hy : ev ρ y = some (.int k n)) (h1 : 0 ≤ m) (h0 : 0 < n) (hz : k.wrap (m / n) = z) : Yx P (.binOp .quo t x y t') ty ρ S (.int k z) :=
  quo hx hy (by omega) (by rw [Int.tdiv_eq_ediv_of_nonneg h1]; exact hz)
theorem remN (hx : ev ρ x = some (.int k m)) (hy : ev ρ y = some (.int k n)) (h1 : 0 ≤ m) (h0 : 0 < n) : Yx P (.binOp .rem t x y t') ty ρ S (.int k (m % n)) :=
  rem hx hy (by omega) (by rw [Int.tmod_eq_emod_of_nonneg h1])
def bAnd (k : IntKind) (m n : Int) : Int := k.wrap ((BitVec.ofInt k.bits m &&& BitVec.ofInt k.bits n).toNat : Nat)
def bOr (k : IntKind) (m n : Int) : Int := k.wrap ((BitVec.ofInt k.bits m ||| BitVec.ofInt k.bits n).toNat : Nat)
def bXor (k : IntKind) (m n : Int) : Int := k.wrap ((BitVec.ofInt k.bits m ^^^ BitVec.ofInt k.bits n).toNat : Nat)
def bAndNot (k : IntKind) (m n : Int) : Int := k.wrap ((BitVec.ofInt k.bits m &&& ~~~BitVec.ofInt k.bits n).toNat : Nat)
theorem band (hx : ev ρ x = some (.int k m)) (hy : ev ρ y = some (.int k n)) (hz : bAnd k m n = z) : Yx P (.binOp .and t x y t') ty ρ S (.int k z) := .of (fun _ h => by cases h) fun f w _ _ _ _ he _ =>
  run_binOp (he _ _ hx) (he _ _ hy) eqGuard_int (by simp [binOp, Op.intBits, ← hz, bAnd])
theorem bor (hx : ev ρ x = some (.int k m)) (hy : ev ρ y = some (.int k n)) (hz : bOr k m n = z) : Yx P (.binOp .or t x y t') ty ρ S (.int k z) := .of (fun _ h => by cases h) fun f w _ _ _ _ he _ =>
  run_binOp (he _ _ hx) (he _ _ hy) eqGuard_int (by simp [binOp, Op.intBits, ← hz, bOr])
theorem bxor (hx : ev ρ x = some (.int k m)) (hy : ev ρ y = some (.int k n)) (hz : bXor k m n = z) : Yx P (.binOp .xor t x y t') ty ρ S (.int k z) := .of (fun _ h => by cases h) fun f w _ _ _ _ he _ =>
  run_binOp (he _ _ hx) (he _ _ hy) eqGuard_int (by simp [binOp, Op.intBits, ← hz, bXor])
theorem bandnot (hx : ev ρ x = some (.int k m)) (hy : ev ρ y = some (.int k n)) (hz : bAndNot k m n = z) : Yx P (.binOp .andNot t x y t') ty ρ S (.int k z) := .of (fun _ h => by cases h) fun f w _ _ _ _ he _ =>
  run_binOp (he _ _ hx) (he _ _ hy) eqGuard_int (by simp [binOp, Op.intBits, ← hz, bAndNot])
theorem shl (hx : ev ρ x = some (.int k m)) (hy : ev ρ y = some (.int k' n)) (h0 : 0 ≤ n) (hz : k.wrap (m * 2 ^ (min n.toNat k.bits)) = z) : Yx P (.binOp .shl t x y t') ty ρ S (.int k z) := .of (fun _ h => by cases h) fun f w _ _ _ _ he _ =>
  run_binOp (he _ _ hx) (he _ _ hy) eqGuard_int (by simp only [binOp, Op.shift]; rw [if_neg (by omega)]; simp [hz])
theorem shr (hx : ev ρ x = some (.int k m)) (hy : ev ρ y = some (.int k' n)) (h0 : 0 ≤ n) (hz : m.fdiv (2 ^ (min n.toNat k.bits)) = z) : Yx P (.binOp .shr t x y t') ty ρ S (.int k z) := .of (fun _ h => by cases h) fun f w _ _ _ _ he _ =>
  run_binOp (he _ _ hx) (he _ _ hy) eqGuard_int (by simp only [binOp, Op.shift]; rw [if_neg (by omega)]; simp [hz])
theorem shrK {c : Int} (hx : ev ρ x = some (.int k m)) (hy : ev ρ y = some (.int k' n)) (h0 : 0 ≤ n) (hc : (2 : Int) ^ (min n.toNat k.bits) = c) : Yx P (.binOp .shr t x y t') ty ρ S (.int k (m / c)) :=
  shr hx hy h0 (by rw [← hc]; exact Int.fdiv_eq_ediv_of_nonneg _ (Int.le_of_lt (Int.pow_pos (by decide))))
theorem lss (hx : ev ρ x = some (.int k m)) (hy : ev ρ y = some (.int k n)) : Yx P (.binOp .lss t x y t') ty ρ S (.bool (decide (m < n))) := .of (fun _ h => by cases h) fun f w _ _ _ _ he _ =>
  run_binOp (he _ _ hx) (he _ _ hy) eqGuard_int (by simp [binOp, Op.intCmp])
theorem leq (hx : ev ρ x = some (.int k m)) (hy : ev ρ y = some (.int k n)) : Yx P (.binOp .leq t x y t') ty ρ S (.bool (decide (m ≤ n))) := .of (fun _ h => by cases h) fun f w _ _ _ _ he _ =>
  run_binOp (he _ _ hx) (he _ _ hy) eqGuard_int (by simp [binOp, Op.intCmp])
theorem gtr (hx : ev ρ x = some (.int k m)) (hy : ev ρ y = some (.int k n)) : Yx P (.binOp .gtr t x y t') ty ρ S (.bool (decide (n < m))) := .of (fun _ h => by cases h) fun f w _ _ _ _ he _ =>
  run_binOp (he _ _ hx) (he _ _ hy) eqGuard_int (by simp [binOp, Op.intCmp])
theorem geq (hx : ev ρ x = some (.int k m)) (hy : ev ρ y = some (.int k n)) : Yx P (.binOp .geq t x y t') ty ρ S (.bool (decide (n ≤ m))) := .of (fun _ h => by cases h) fun f w _ _ _ _ he _ =>
  run_binOp (he _ _ hx) (he _ _ hy) eqGuard_int (by simp [binOp, Op.intCmp])
theorem eqI (hx : ev ρ x = some (.int k m)) (hy : ev ρ y = some (.int k n)) : Yx P (.binOp .eql t x y t') ty ρ S (.bool (decide (m = n))) := .of (fun _ h => by cases h) fun f w _ _ _ _ he _ =>
  run_binOp (he _ _ hx) (he _ _ hy) eqGuard_int (by simp [binOp, Op.intCmp]; rfl)
theorem neI (hx : ev ρ x = some (.int k m)) (hy : ev ρ y = some (.int k n)) : Yx P (.binOp .neq t x y t') ty ρ S (.bool (!decide (m = n))) := .of (fun _ h => by cases h) fun f w _ _ _ _ he _ =>
  run_binOp (he _ _ hx) (he _ _ hy) eqGuard_int (by simp [binOp, Op.intCmp]; rfl)
theorem not' {b : Bool} (hx : ev ρ x = some (.bool b)) : Yx P (.unOp .not t x) ty ρ S (.bool (!b)) := .of (fun _ h => by cases h) fun f w _ _ _ _ he _ => by simp [execOp, he _ _ hx, Op.unary]
theorem neg (hx : ev ρ x = some (.int k m)) (hz : k.wrap (0 - m) = z) : Yx P (.unOp .neg t x) ty ρ S (.int k z) := .of (fun _ h => by cases h) fun f w _ _ _ _ he _ => by
  have : Sem.run P (Op.intArith .sub k 0 m) w = .ok (.int k z) w := by simp only [Op.intArith, hz]; simp
  simp only [execOp, he _ _ hx, Op.unary, Sem.run_bind, this, Result.andThen, Sem.run_pure]
theorem compl (hx : ev ρ x = some (.int k m)) (hz : bXor k (if k.signed then -1 else k.max) m = z) : Yx P (.unOp .xor t x) ty ρ S (.int k z) := .of (fun _ h => by cases h) fun f w _ _ _ _ he _ => by
  simp [execOp, he _ _ hx, Op.unary, Op.intBits, ← hz, bXor]
theorem cvI {s d : TypeId} {ds : TypeDesc} (hx : ev ρ x = some (.int k m)) (hs : P.underlying s = some ds) (hd : P.underlying d = some (.int k')) (hz : k'.wrap m = z) : Yx P (.convert s d x) ty ρ S (.int k' z) := .of (fun _ h => by cases h) fun f w _ _ _ _ he _ => by
  simp [execOp, he _ _ hx, convert, run_underlying hs, run_underlying hd, Conv.intToInt, hz]
variable {l l2 : List UInt8}
theorem str_size (l : List UInt8) : (ByteArray.mk l.toArray).size = l.length := rfl
abbrev bless (a b : List UInt8) : Bool := Op.bytesLess a b
theorem lenS (ht : P.underlying t = some .string) (hx : ev ρ x = some (str l)) : Yx P (.call { callee := .builtin .len, args := #[x], argTypes := #[t] }) ty ρ S (i64 l.length) := .of (fun _ h => by cases h) fun f w _ _ _ _ he _ => by
  have h := he _ _ hx
  simp only [execOp, resolve, invoke, builtin, Builtin.len_, Sem.run_bind, Sem.run_pure, Result.andThen, List.map_toArray, List.map_cons, List.map_nil, h]
  simp [run_underlying ht, goInt, str_size]
theorem ixS {i : Operand} {j : Nat} (ht : P.underlying t = some .string) (hx : ev ρ x = some (str l)) (hi : ev ρ i = some (.int k n)) (hj : n.toNat = j) (h0 : 0 ≤ n) (h1 : n < l.length) :
    Yx P (.index t x i) ty ρ S (.int .u8 ((l.getD j 0).toNat : Nat)) := .of (fun _ h => by cases h) fun f w _ _ _ _ he _ => by
  subst hj
  have hlt : n.toNat < l.length := by omega
  have hs : n.toNat < (ByteArray.mk l.toArray).size := hlt
  have e : (ByteArray.mk l.toArray)[n.toNat]? = some (l.getD n.toNat 0) := by
    rw [getElem?_pos (ByteArray.mk l.toArray) n.toNat hs]
    simp only [List.getD, List.getElem?_eq_getElem hlt, Option.getD_some]
    rfl
  simp [execOp, he _ _ hx, he _ _ hi, Instr.index, asIntOf, run_underlying ht, h0, e]
theorem catS (hx : ev ρ x = some (str l)) (hy : ev ρ y = some (str l2)) (hb : l.length + l2.length ≤ 9223372036854775807) : Yx P (.binOp .add t x y t') ty ρ S (str (l ++ l2)) := .of (fun _ h => by cases h) fun f w _ _ _ _ he _ =>
  run_binOp (he _ _ hx) (he _ _ hy) (by simp [eqGuard]) (by
    have := run_string_add_sum (P := P) w ⟨l.toArray⟩ ⟨l2.toArray⟩ (by simpa [str_size] using hb)
    simp only [binOp, this, ByteArray.mk_append_mk])
theorem toList_inj {a b : List UInt8} : ((ByteArray.mk a.toArray).toList == (ByteArray.mk b.toArray).toList) = decide (a = b) := by
  rw [ByteArray.toList_mk, ByteArray.toList_mk]
  by_cases h : a = b
  · simp [h]
  · simp [h]
theorem eqS (hx : ev ρ x = some (str l)) (hy : ev ρ y = some (str l2)) : Yx P (.binOp .eql t x y t') ty ρ S (.bool (decide (l = l2))) := .of (fun _ h => by cases h) fun f w _ _ _ _ he _ =>
  run_binOp (he _ _ hx) (he _ _ hy) (by simp [eqGuard]) (by rw [binOp_string_eql, toList_inj]; simp)
theorem neS (hx : ev ρ x = some (str l)) (hy : ev ρ y = some (str l2)) : Yx P (.binOp .neq t x y t') ty ρ S (.bool (!decide (l = l2))) := .of (fun _ h => by cases h) fun f w _ _ _ _ he _ =>
  run_binOp (he _ _ hx) (he _ _ hy) (by simp [eqGuard]) (by rw [binOp_string_neq, toList_inj]; simp)
theorem str_extract (l : List UInt8) (a b : Nat) : (ByteArray.mk l.toArray).extract a b = ⟨((l.take b).drop a).toArray⟩ := by
  apply ByteArray.ext
  simp only [ByteArray.data_extract, List.extract_toArray, List.extract_eq_drop_take']
theorem run_sliceAt_str {w : World} {l : List UInt8} {lo hi : Option Value} {a b : Nat} (ht : P.underlying t = some .string)
    (hb : (Instr.sliceBounds false l.length l.length lo hi none).run P w = .ok (a, b, l.length) w) :
    (Instr.sliceAt t (str l) lo hi none).run P w = .ok (str ((l.take b).drop a)) w := by
  simp only [Instr.sliceAt, Sem.run_bind, run_underlying ht, Result.andThen, Instr.slice, Option.isSome_none, Bool.false_eq_true, if_false, Sem.run_pure, str_size, hb, str_extract]
theorem sl1S {lo : Operand} {j : Nat} (ht : P.underlying t = some .string) (hx : ev ρ x = some (str l)) (hi : ev ρ lo = some (.int k n)) (hj : n.toNat = j) (h0 : 0 ≤ n) (h1 : n ≤ l.length) :
    Yx P (.slice t x (some lo) none none) ty ρ S (str (l.drop j)) := .of (fun _ h => by cases h) fun f w _ _ _ _ he _ => by
  subst hj
  have := run_sliceAt_str (P := P) (t := t) (w := w) (l := l) (lo := some (.int k n)) (hi := none) (a := n.toNat) (b := l.length) ht (by simp [Instr.sliceBounds, Instr.sliceBound, asIntOf, h0, h1])
  simp only [execOp, Option.map_some, Option.map_none, he _ _ hx, he _ _ hi, Sem.run_bind, this, Result.andThen, Sem.run_pure, List.take_length]
theorem sl2S {hi : Operand} {j : Nat} (ht : P.underlying t = some .string) (hx : ev ρ x = some (str l)) (hh : ev ρ hi = some (.int k n)) (hj : n.toNat = j) (h0 : 0 ≤ n) (h1 : n ≤ l.length) :
    Yx P (.slice t x none (some hi) none) ty ρ S (str (l.take j)) := .of (fun _ h => by cases h) fun f w _ _ _ _ he _ => by
  subst hj
  have := run_sliceAt_str (P := P) (t := t) (w := w) (l := l) (lo := none) (hi := some (.int k n)) (a := 0) (b := n.toNat) ht (by simp [Instr.sliceBounds, Instr.sliceBound, asIntOf, h0, h1])
  simp only [execOp, Option.map_some, Option.map_none, he _ _ hx, he _ _ hh, Sem.run_bind, this, Result.andThen, Sem.run_pure, List.drop_zero]
theorem sl3S {lo hi : Operand} {i j : Nat} (ht : P.underlying t = some .string) (hx : ev ρ x = some (str l)) (hl : ev ρ lo = some (.int k m)) (hh : ev ρ hi = some (.int k' n)) (hi' : m.toNat = i) (hj : n.toNat = j) (h0 : 0 ≤ m) (hm : m ≤ n) (h1 : n ≤ l.length) :
    Yx P (.slice t x (some lo) (some hi) none) ty ρ S (str ((l.take j).drop i)) := .of (fun _ h => by cases h) fun f w _ _ _ _ he _ => by
  subst hi'; subst hj
  have h2 : 0 ≤ n := by omega
  have h3 : m ≤ (n.toNat : Int) := by omega
  have := run_sliceAt_str (P := P) (t := t) (w := w) (l := l) (lo := some (.int k m)) (hi := some (.int k' n)) (a := m.toNat) (b := n.toNat) ht (by simp [Instr.sliceBounds, Instr.sliceBound, asIntOf, h0, h1, h2]; omega)
  simp only [execOp, Option.map_some, Option.map_none, he _ _ hx, he _ _ hl, he _ _ hh, Sem.run_bind, this, Result.andThen, Sem.run_pure]
theorem mkf {fn : Fn} {first caps : Array Operand} {fs cs : List Value} (h1 : evl ρ first.toList = some fs) (h2 : evl ρ caps.toList = some cs) : Yx P (.makeFunc fn first caps) ty ρ S (.func fn fs.toArray cs.toArray) := .of (fun _ h => by cases h) fun f w _ _ _ _ he _ => by
  have e1 : first.map f = fs.toArray := Array.toList_inj.1 (by simpa using he.map h1)
  have e2 : caps.map f = cs.toArray := Array.toList_inj.1 (by simpa using he.map h2)
  simp [execOp, Instr.makeFunc, e1, e2]
theorem eqNilP {a : Option Addr} (ht : P.underlying t = some (.pointer (P.pointee t))) (hx : ev ρ x = some (.pointer a)) (hy : ev ρ y = some (.pointer none)) : Yx P (.binOp .eql t x y t') ty ρ S (.bool a.isNone) := .of (fun _ h => by cases h) fun f w _ _ _ _ he _ =>
  run_binOp (he _ _ hx) (he _ _ hy) (by simp [eqGuard]) (run_eql_pointer_nil w t a ht)
theorem neNilP {a : Option Addr} (ht : P.underlying t = some (.pointer (P.pointee t))) (hx : ev ρ x = some (.pointer a)) (hy : ev ρ y = some (.pointer none)) : Yx P (.binOp .neq t x y t') ty ρ S (.bool (!a.isNone)) := .of (fun _ h => by cases h) fun f w _ _ _ _ he _ =>
  run_binOp (he _ _ hx) (he _ _ hy) (by simp [eqGuard]) (run_neq_pointer_nil w t a ht)
theorem eqB {a b : Bool} (ht : P.underlying t = some .bool) (hx : ev ρ x = some (.bool a)) (hy : ev ρ y = some (.bool b)) : Yx P (.binOp .eql t x y t') ty ρ S (.bool (a == b)) := .of (fun _ h => by cases h) fun f w _ _ _ _ he _ =>
  run_binOp (he _ _ hx) (he _ _ hy) (by simp [eqGuard]) (run_eql_bool w t a b ht)
def FO (P : Program) (t : TypeId) (i off size : Nat) (agg : Bool) : Prop :=
  ∃ fs fd j, P.underlying t = some (.struct fs) ∧ fs[i]? = some fd ∧ fd.offset = off ∧ P.info? fd.type = some j ∧ j.size = size ∧ 0 < size ∧ (isAgg fd.type).run P = fun w => .ok agg w
theorem fa {i off size : Nat} {g : Bool} {a : Addr} (hF : FO P t i off size g) (hx : ev ρ x = some (.pointer (some a))) : Yx P (.fieldAddr t x i) ty ρ S (.pointer (some (a.add off))) := .of (fun _ h => by cases h) fun f w _ _ _ _ he _ => by
  obtain ⟨fs, fd, j, h1, h2, h3, h4, h5, h6, h7⟩ := hF
  have hs : ¬ j.size = 0 := by omega
  simp [execOp, he _ _ hx, Instr.fieldAt, run_underlying h1, h2, Instr.sureAddr, fieldPlace, sizeOf, typeInfo, h4, hs, h3]
end
end Go.SL
namespace Go.SL
open Go.RowKit
def aggB : TypeDesc → Bool
  | .struct _ | .array _ _ => true
  | _ => false
theorem run_isAgg {P : Program} {t : TypeId} {d : TypeDesc} (h : P.underlying t = some d) (w : World) : (isAgg t).run P w = .ok (aggB d) w := by
  simp only [isAgg, Sem.run_bind, run_underlying h, Result.andThen]
  cases d <;> rfl
def TI (P : Program) (t : TypeId) (z : List Value) (size bytes : Nat) : Prop :=
  ∃ i v, P.info? t = some i ∧ i.zero = some v ∧ v.cells = z.toArray ∧ i.size = size ∧ i.bytes = bytes ∧ z.length = size ∧ 0 < size
theorem TI.of {P : Program} {t : TypeId} {z : List Value} {size bytes : Nat} (h : (P.info? t).map (fun i => (i.zero.map (·.cells), i.size, i.bytes)) = some (some z.toArray, size, bytes)) (h2 : Nat.beq z.length size = true) (h3 : Nat.blt 0 size = true) : TI P t z size bytes := by
  cases hq : P.info? t with
  | none => simp [hq] at h
  | some i =>
    simp [hq] at h
    obtain ⟨⟨v, h1, h1'⟩, h4, h5⟩ := h
    exact ⟨i, v, hq, h1, h1', h4, h5, Nat.eq_of_beq_eq_true h2, by simpa [Nat.blt_eq] using h3⟩
theorem FO.of {P : Program} {t i off size : Nat} {g : Bool} {fs : Array Field} {fd : Field} {d : TypeDesc} (h1 : P.underlying t = some (.struct fs)) (h2 : fs[i]? = some fd) (h3 : fd.offset = off)
    (h4 : (P.info? fd.type).map (·.size) = some size) (h5 : P.underlying fd.type = some d) (h6 : aggB d = g) (h7 : Nat.blt 0 size = true) : FO P t i off size g := by
  cases hq : P.info? fd.type with
  | none => simp [hq] at h4
  | some j =>
    simp [hq] at h4
    exact ⟨fs, fd, j, h1, h2, h3, hq, h4, by simpa [Nat.blt_eq] using h7, funext fun w => by rw [run_isAgg h5, h6]⟩
theorem add_mk (b o n : Nat) : (⟨b, o, none⟩ : Addr).add n = ⟨b, o + n, none⟩ := by unfold Addr.add; split <;> simp_all
def Cells (N0 : Nat) (B : Frag) (H : HP) (b o : Nat) (vs : List Value) : Prop := ∀ w, St N0 B H w → ∀ j v, vs[j]? = some v → w.cell? ⟨b, o + j, none⟩ = some v
theorem cell_of_heap {w : World} {b o : Nat} {cs : List Value} {e : TypeId} {fz : Nat × Nat} {v : Value} (h : w.heap[b]? = some (.cells cs.toArray e fz)) (hv : cs[o]? = some v) : w.cell? ⟨b, o, none⟩ = some v := by
  simp [World.cell?, h, hv]
theorem Cells.own {N0 : Nat} {B : Frag} {H R : HP} {b o n : Nat} {cs vs : List Value} {e : TypeId} {fz : Nat × Nat} (hp : H = blk b (.cells cs.toArray e fz) * R) (hv : (cs.drop o).take n = vs) : Cells N0 B H b o vs := by
  intro w s j v hj
  subst hp hv
  refine cell_of_heap s.blk.1 ?_
  simp only [List.getElem?_take, List.getElem?_drop] at hj
  split at hj
  · exact hj
  · cases hj
set_option linter.defProp false
def Co := @Cells.own
theorem Cells.base {N0 : Nat} {B : Frag} {H : HP} {b o n : Nat} {cs vs : List Value} {e : TypeId} {fz : Nat × Nat} (hB : B b = some (.cells cs.toArray e fz)) (hv : (cs.drop o).take n = vs) : Cells N0 B H b o vs := by
  intro w s j v hj
  subst hv
  refine cell_of_heap (s.ro b _ hB) ?_
  simp only [List.getElem?_take, List.getElem?_drop] at hj
  split at hj
  · exact hj
  · cases hj
section
variable {P : Program} {ρ : Sl} {ty t t' : TypeId} {x y : Operand} {v u : Value} {N0 : Nat} {B : Frag} {H R : HP} {b o : Nat} {k k' : IntKind} {m n z : Int}
theorem fa' {i off size : Nat} {g : Bool} {S : World → Prop} (hF : FO P t i off size g) (hx : ev ρ x = some (.pointer (some ⟨b, o, none⟩))) : Yx P (.fieldAddr t x i) ty ρ S (.pointer (some ⟨b, o + off, none⟩)) := by
  rw [← add_mk]; exact fa hF hx
theorem ldW {S : World → Prop} {d : TypeDesc} (ht : P.underlying t = some d) (hd : aggB d = false) (hx : ev ρ x = some (.pointer (some ⟨b, o, none⟩))) (hc : ∀ w, S w → w.cell? ⟨b, o, none⟩ = some v) : Yx P (.load t x) ty ρ S v :=
  .of (fun _ h => by cases h) fun f w _ _ _ _ he s => by
    have h := run_isAgg (P := P) ht w
    rw [hd] at h
    simp [execOp, he _ _ hx, Instr.loadAt, Instr.sureAddr, loadVar, h, hc w s]
theorem ld {d : TypeDesc} {cs : List Value} {e : TypeId} {fz : Nat × Nat} (ht : P.underlying t = some d) (hd : aggB d = false) (hx : ev ρ x = some (.pointer (some ⟨b, o, none⟩))) [hp : PickB H b (.cells cs.toArray e fz) R] (hv : cs[o]? = some v) :
    Yx P (.load t x) ty ρ (St N0 B H) v := ldW ht hd hx fun w s => cell_of_heap (hp.eq ▸ s : St N0 B _ w).blk.1 hv
theorem ldB {d : TypeDesc} {cs : List Value} {e : TypeId} {fz : Nat × Nat} (ht : P.underlying t = some d) (hd : aggB d = false) (hx : ev ρ x = some (.pointer (some ⟨b, o, none⟩))) (hB : B b = some (.cells cs.toArray e fz)) (hv : cs[o]? = some v) :
    Yx P (.load t x) ty ρ (St N0 B H) v := ldW ht hd hx fun w s => cell_of_heap (s.ro b _ hB) hv
theorem ldC {d : TypeDesc} (ht : P.underlying t = some d) (hd : aggB d = false) (hx : ev ρ x = some (.pointer (some ⟨b, o, none⟩))) (hc : Cells N0 B H b o [v]) :
    Yx P (.load t x) ty ρ (St N0 B H) v := ldW ht hd hx fun w s => hc w s 0 v rfl
theorem ldA {d : TypeDesc} {vs : List Value} {size : Nat} (ht : P.underlying t = some d) (hd : aggB d = true) (hi : (P.info? t).map (·.size) = some size) (hx : ev ρ x = some (.pointer (some ⟨b, o, none⟩))) (hc : Cells N0 B H b o vs) (hl : vs.length = size) :
    Yx P (.load t x) ty ρ (St N0 B H) (.agg vs.toArray) := .of (fun _ h => by cases h) fun f w _ _ _ _ he s => by
  have h := run_isAgg (P := P) ht w
  rw [hd] at h
  have hcs := run_loadCells_list (P := P) w ⟨b, o, none⟩ vs (fun j v hj => by rw [add_mk]; exact hc w s j v hj)
  rw [hl] at hcs
  cases hq : P.info? t with
  | none => simp [hq] at hi
  | some i =>
    have hi' : i.size = size := by simpa [hq] using hi
    simp [execOp, he _ _ hx, Instr.loadAt, Instr.sureAddr, loadVar, h, sizeOf, typeInfo, hq, hi', hcs]
theorem heap_setRow_ne (w : World) (g : Nat) (cs : Array Value) (j : Nat) (h : j ≠ g) : (w.setRow g cs).heap[j]? = w.heap[j]? := by
  simp only [World.setRow, Array.getElem?_modify]
  rw [if_neg (by omega)]
theorem below_setRow {N0 : Nat} {w : World} {g : Nat} (h : N0 ≤ g) (cs : Array Value) : Below N0 w (w.setRow g cs) :=
  ⟨rfl, rfl, rfl, by simp [World.setRow], fun j hj => heap_setRow_ne _ _ _ _ (by omega)⟩
theorem St.setRow {cs : Array Value} {e : TypeId} {fz : Nat × Nat} {w : World} (h : St N0 B (SL.blk b (.cells cs e fz) * R) w) (cs' : Array Value) :
    St N0 B (SL.blk b (.cells cs' e fz) * R) (w.setRow b cs') ∧ Below N0 w (w.setRow b cs') :=
  ⟨h.put (setRow_heap _ _ _ _ _ _ h.blk.1) (fun j hj => heap_setRow_ne _ _ _ _ hj) (by simp [World.setRow]), below_setRow h.blk.2.2 _⟩
variable {e : Env} {ds : List Deferred}
theorem Ox.of_run {op : Op} {Φ : Value → Frag → HP → Prop} (hd : ∀ c, op ≠ .defer c)
    (h : ∀ (f : Operand → Value) (w : World) (dst : Option Tmp) (pos : String) (after : Array Edge) (guard : Option (Nat × Bool)), Ev ρ f → St e.N0 B H w →
      ∃ v w' B' H', (execOp f ⟨dst, op, ty, pos, after, guard⟩).run e.P w = .ok (.value v) w' ∧ Φ v B' H' ∧ B.le B' ∧ Below e.N0 w w' ∧ St e.N0 B' H' w') : Ox e ds op ty ρ B H Φ :=
  ⟨hd, fun a w dst pos after guard K Q f b s k => by
    obtain ⟨v, w', B', H', hr, hΦ, hB, hb, hs⟩ := h a.eval w dst pos after guard f.ev s
    rw [hr]
    exact k v B' H' w' hΦ hB (b.trans hb) hs⟩
theorem Ox.of_skip {op : Op} {Φ : Value → Frag → HP → Prop} (hd : ∀ c, op ≠ .defer c)
    (h : ∀ (f : Operand → Value) (w : World) (dst : Option Tmp) (pos : String) (after : Array Edge) (guard : Option (Nat × Bool)), Ev ρ f → St e.N0 B H w →
      ∃ w' B' H', (execOp f ⟨dst, op, ty, pos, after, guard⟩).run e.P w = .ok .skip w' ∧ Φ undef B' H' ∧ B.le B' ∧ Below e.N0 w w' ∧ St e.N0 B' H' w') : Ox e ds op ty ρ B H Φ :=
  ⟨hd, fun a w dst pos after guard K Q f b s k => by
    obtain ⟨w', B', H', hr, hΦ, hB, hb, hs⟩ := h a.eval w dst pos after guard f.ev s
    rw [hr]
    exact k undef B' H' w' hΦ hB (b.trans hb) hs⟩
theorem stO {d : TypeDesc} {cs cs' : List Value} {et : TypeId} (ht : e.P.underlying t = some d) (hi : (e.P.info? t).map (·.size) = some 1) (hx : ev ρ x = some (.pointer (some ⟨b, o, none⟩))) (hy : ev ρ y = some v) (h1 : v.oneCell' = true)
    [hp : PickB H b (.cells cs.toArray et (0, 0)) R] (ho : o < cs.length) (hn : frc (cs.set o v) some = some cs') : Ox e ds (.store t x y) ty ρ B H (fun _ B' H' => B' = B ∧ H' = row b et cs' * R) :=
  .of_skip (fun _ h => by cases h) fun f w _ _ _ _ he s => by
    rw [← frc_eq hn]
    have s' : St e.N0 B (blk b (.cells cs.toArray et (0, 0)) * R) w := hp.eq ▸ s
    have hh := s'.blk.1
    have hv1 : v.cells = #[v] := by cases v <;> simp_all [Value.cells, Value.oneCell']
    have hst := run_storeCells_at (P := e.P) b o et [v] 0 cs.toArray w hh (by simp; omega) (by simpa using h1)
    have hl : (cs.take (o + 0) ++ [v] ++ cs.drop (o + 0 + 1)) = cs.set o v := by
      simp only [Nat.add_zero]
      rw [List.set_eq_take_append_cons_drop, if_pos ho]; simp
    simp only [List.toList_toArray, List.length_cons, List.length_nil, Nat.zero_add] at hst
    rw [hl] at hst
    cases hq : e.P.info? t with
    | none => simp [hq] at hi
    | some i =>
      have hi' : i.size = 1 := by simpa [hq] using hi
      refine ⟨_, B, _, ?_, ⟨rfl, rfl⟩, Fl _, (s'.setRow (cs.set o v).toArray).2, (s'.setRow (cs.set o v).toArray).1⟩
      simp [execOp, he _ _ hx, he _ _ hy, Instr.storeAt, Instr.sureAddr, storeVar, sizeOf, typeInfo, hq, hi', hv1, hst]
theorem stA {d : TypeDesc} {cs vs cs' : List Value} {et : TypeId} {size : Nat} (hi : (e.P.info? t).map (·.size) = some size) (hx : ev ρ x = some (.pointer (some ⟨b, o, none⟩))) (hy : ev ρ y = some (.agg vs.toArray)) (hl : vs.length = size) (h1 : vs.all (·.oneCell') = true)
    [hp : PickB H b (.cells cs.toArray et (0, 0)) R] (ho : o + vs.length ≤ cs.length) (hn : frc (cs.take o ++ vs ++ cs.drop (o + vs.length)) some = some cs') : Ox e ds (.store t x y) ty ρ B H (fun _ B' H' => B' = B ∧ H' = row b et cs' * R) :=
  .of_skip (fun _ h => by cases h) fun f w _ _ _ _ he s => by
    rw [← frc_eq hn]
    have s' : St e.N0 B (blk b (.cells cs.toArray et (0, 0)) * R) w := hp.eq ▸ s
    have hh := s'.blk.1
    have hst := run_storeCells_at (P := e.P) b o et vs 0 cs.toArray w hh (by simpa using ho) (by simpa using h1)
    simp only [List.toList_toArray, Nat.add_zero] at hst
    cases hq : e.P.info? t with
    | none => simp [hq] at hi
    | some i =>
      have hi' : i.size = size := by simpa [hq] using hi
      refine ⟨_, B, _, ?_, ⟨rfl, rfl⟩, Fl _, (s'.setRow (cs.take o ++ vs ++ cs.drop (o + vs.length)).toArray).2, (s'.setRow _).1⟩
      simp only [execOp, he _ _ hx, he _ _ hy, Instr.storeAt, Instr.sureAddr, storeVar, sizeOf, typeInfo, Sem.run_bind, Result.andThen, Sem.run_pure, Value.cells, List.size_toArray, run_program, hq, hi', hl, ne_eq, not_true_eq_false, if_false, hst]
theorem newO {op : Op} {et : TypeId} {cs : List Value} (hd : ∀ c, op ≠ .defer c)
    (h : ∀ (f : Operand → Value) (w : World) (dst : Option Tmp) (pos : String) (after : Array Edge) (guard : Option (Nat × Bool)), Ev ρ f → St e.N0 B H w → (execOp f ⟨dst, op, ty, pos, after, guard⟩).run e.P w = .ok (.value (.pointer (some ⟨w.heap.size, 0, none⟩))) (w.alloc (.cells cs.toArray et (0, 0)))) :
    Ox e ds op ty ρ B H (fun v B' H' => ∃ b, v = .pointer (some ⟨b, 0, none⟩) ∧ B' = B ∧ H' = row b et cs * H) :=
  .of_run hd fun f w dst pos after guard he s => ⟨_, _, B, _, h f w dst pos after guard he s, ⟨_, rfl, rfl, rfl⟩, Fl _, (Below.refl _ _).alloc s.sz _, s.alloc _⟩
theorem allocO {zs : List Value} {size bytes : Nat} (hz : TI e.P t zs size bytes) : Ox e ds (.alloc t) ty ρ B H (fun v B' H' => ∃ b, v = .pointer (some ⟨b, 0, none⟩) ∧ B' = B ∧ H' = row b t zs * H) :=
  newO (fun _ h => by cases h) fun f w _ _ _ _ he s => by
    obtain ⟨i, z, h1, h2, h3, h4, h5, h6, h7⟩ := hz
    simp [execOp, Instr.alloc, zeroValue, typeInfo, h1, h2, newVar, newRow, h3]
theorem boxO (hx : ev ρ x = some v) (h1 : v.oneCell' = true) : Ox e ds (.box t x) ty ρ B H (fun u B' H' => ∃ b, u = .pointer (some ⟨b, 0, none⟩) ∧ B' = B ∧ H' = row b t [v] * H) :=
  newO (fun _ h => by cases h) fun f w _ _ _ _ he s => by
    have hv1 : v.cells = #[v] := by cases v <;> simp_all [Value.cells, Value.oneCell']
    simp [execOp, Instr.box, newVar, newRow, he _ _ hx, hv1]
theorem boxA {vs : List Value} (hx : ev ρ x = some (.agg vs.toArray)) : Ox e ds (.box t x) ty ρ B H (fun u B' H' => ∃ b, u = .pointer (some ⟨b, 0, none⟩) ∧ B' = B ∧ H' = row b t vs * H) :=
  newO (fun _ h => by cases h) fun f w _ _ _ _ he s => by simp [execOp, Instr.box, newVar, newRow, he _ _ hx, Value.cells]
variable {ops : Array Oper} {rest : List Oper} {Q : Exit → Act → World → Prop}
theorem Lx.new {op : Op} {et : TypeId} {cs : List Value} {pos : String} {af : Array Edge} {d : Nat} (h : Ox e ds op ty ρ B H (fun v B' H' => ∃ b, v = .pointer (some ⟨b, 0, none⟩) ∧ B' = B ∧ H' = row b et cs * H)) (hd : Nat.blt d e.nt = true)
    (k : ∀ b, Lx e ds ops Q rest ((d, .pointer (some ⟨b, 0, none⟩)) :: ρ) B (row b et cs * H)) : Lx e ds ops Q (⟨some d, op, ty, pos, af, none⟩ :: rest) ρ B H :=
  Lx.o h hd fun v B' H' ⟨b, e1, e2, e3⟩ _ => by subst e1; subst e2; subst e3; exact k b
theorem Lx.st {op : Op} {pos : String} {af : Array Edge} {H2 : HP} (h : Ox e ds op ty ρ B H (fun _ B' H' => B' = B ∧ H' = H2)) (k : Lx e ds ops Q rest ρ B H2) : Lx e ds ops Q (⟨none, op, ty, pos, af, none⟩ :: rest) ρ B H :=
  Lx.o0 h fun v B' H' ⟨e1, e2⟩ _ => by subst e1; subst e2; exact k
end
end Go.SL
namespace Go.SL
open Go.RowKit
def sbuf (et : TypeId) (size : Nat) (A : Option Addr) (n c : Nat) (xs : List Value) : HP := fun h =>
  (A = none ∧ n = 0 ∧ c = 0 ∧ xs = [] ∧ h = Frag.none) ∨
  ∃ b sp, A = some ⟨b, 0, none⟩ ∧ xs.length = n * size ∧ n ≤ c ∧ (xs ++ sp).length = c * size ∧ h = Frag.one b (.cells (xs ++ sp).toArray et (0, 0))
theorem sbuf_nil (et : TypeId) (size : Nat) : sbuf et size none 0 0 [] = 1 := HP.ext fun h =>
  ⟨fun x => (by rcases x with ⟨_, _, _, _, e⟩ | ⟨b, sp, e, _⟩; exact e; cases e), fun x => Or.inl ⟨rfl, rfl, rfl, rfl, x⟩⟩
theorem sbuf_one {et : TypeId} {size b n c : Nat} {xs sp : List Value} (h1 : xs.length = n * size) (h2 : n ≤ c) (h3 : (xs ++ sp).length = c * size) : ∀ k, row b et (xs ++ sp) k → sbuf et size (some ⟨b, 0, none⟩) n c xs k :=
  fun k hk => .inr ⟨b, sp, rfl, h1, h2, h3, hk⟩
def Src' (B : Frag) (p : HP) (size : Nat) (A : Option Addr) (n : Nat) (xs : List Value) : Prop :=
  xs.length = n * size ∧ ((A = none ∧ n = 0) ∨ ∃ b o, A = some ⟨b, o, none⟩ ∧ ∀ N0 R w, St N0 B (p * R) w → ∀ j v, xs[j]? = some v → w.cell? ⟨b, o + j, none⟩ = some v)
theorem St.cases_sbuf {N0 : Nat} {B : Frag} {et : TypeId} {size n c : Nat} {A : Option Addr} {xs : List Value} {R : HP} {w : World} (s : St N0 B (sbuf et size A n c xs * R) w) :
    (A = none ∧ n = 0 ∧ c = 0 ∧ xs = [] ∧ St N0 B R w) ∨ ∃ b sp, A = some ⟨b, 0, none⟩ ∧ xs.length = n * size ∧ n ≤ c ∧ (xs ++ sp).length = c * size ∧ St N0 B (row b et (xs ++ sp) * R) w := by
  obtain ⟨ro, sz, k, hk, a, d, dj, e, x, y⟩ := s
  rcases x with ⟨e1, e2, e3, e4, e5⟩ | ⟨b, sp, e1, e2, e3, e4, e5⟩
  · left
    subst e5
    exact ⟨e1, e2, e3, e4, ro, sz, d, fun b o hb => hk b o (by rw [e]; simp [Frag.un, Frag.none, hb]), y⟩
  · exact .inr ⟨b, sp, e1, e2, e3, e4, ro, sz, k, hk, a, d, dj, e, e5, y⟩
theorem St.of_sbuf {N0 : Nat} {B : Frag} {et : TypeId} {size b n c : Nat} {xs sp : List Value} {R : HP} {w : World} (h1 : xs.length = n * size) (h2 : n ≤ c) (h3 : (xs ++ sp).length = c * size) (s : St N0 B (row b et (xs ++ sp) * R) w) :
    St N0 B (sbuf et size (some ⟨b, 0, none⟩) n c xs * R) w := s.imp (star_mono (sbuf_one h1 h2 h3) fun _ h => h)
theorem Xx.sbuf_facts {e : Env} {ds : List Deferred} {K : Act → World → Prop} {ρ : Sl} {B : Frag} {et : TypeId} {size n c : Nat} {A : Option Addr} {xs : List Value} {R : HP}
    (h : xs.length = n * size → n ≤ c → Xx e ds K ρ B (sbuf et size A n c xs * R)) : Xx e ds K ρ B (sbuf et size A n c xs * R) := fun a w f b s => by
  rcases s.cases_sbuf with ⟨_, e2, e3, e4, _⟩ | ⟨_, _, _, e2, e3, _⟩
  · exact h (by simp [e2, e4]) (by omega) a w f b s
  · exact h e2 e3 a w f b s
def RoS (B : Frag) (size : Nat) (A : Option Addr) (n : Nat) (xs : List Value) : Prop :=
  xs.length = n * size ∧ ((A = none ∧ n = 0) ∨ ∃ b o cs et fz, A = some ⟨b, o, none⟩ ∧ B b = some (.cells (List.toArray cs) et fz) ∧ (cs.drop o).take (n * size) = xs)
theorem RoS.mono {B B' : Frag} {size n : Nat} {A : Option Addr} {xs : List Value} (h : RoS B size A n xs) (hB : B.le B') : RoS B' size A n xs := by
  obtain ⟨h1, h2 | ⟨b, o, cs, et, fz, h3, h4, h5⟩⟩ := h
  · exact ⟨h1, .inl h2⟩
  · exact ⟨h1, .inr ⟨b, o, cs, et, fz, h3, hB _ _ h4, h5⟩⟩
theorem RoS.nil (B : Frag) (size : Nat) : RoS B size none 0 [] := ⟨by simp, .inl ⟨rfl, rfl⟩⟩
theorem RoS.src {B : Frag} {size n : Nat} {A : Option Addr} {xs : List Value} (h : RoS B size A n xs) (p : HP) : Src' B p size A n xs := by
  obtain ⟨h1, h2 | ⟨b, o, cs, et, fz, h3, h4, h5⟩⟩ := h
  · exact ⟨h1, .inl h2⟩
  · refine ⟨h1, .inr ⟨b, o, h3, fun N0 R w s j v hj => ?_⟩⟩
    refine cell_of_heap (s.ro b _ h4) ?_
    subst h5
    simp only [List.getElem?_take, List.getElem?_drop] at hj
    split at hj
    · exact hj
    · cases hj
theorem Xx.freezeS {e : Env} {ds : List Deferred} {K : Act → World → Prop} {ρ : Sl} {B : Frag} {et : TypeId} {size n c : Nat} {A : Option Addr} {xs : List Value} {R : HP}
    (h : ∀ B', B.le B' → RoS B' size A n xs → n ≤ c → Xx e ds K ρ B' R) : Xx e ds K ρ B (sbuf et size A n c xs * R) := fun a w f b s => by
  rcases s.cases_sbuf with ⟨e1, e2, e3, e4, s'⟩ | ⟨bb, sp, e1, e2, e3, e4, s'⟩
  · subst e1; subst e2; subst e4; subst e3
    exact h B (Fl _) (RoS.nil _ _) (Nat.le_refl _) a w f b s'
  · refine h _ s'.freeze.2 ⟨e2, .inr ⟨bb, 0, xs ++ sp, et, (0, 0), e1, ?_, ?_⟩⟩ e3 a w f b s'.freeze.1
    · have := s'.blk.2.1
      simp [Frag.un, Frag.one, this]
    · simp [← e2]
theorem Src'.row {B : Frag} {size n b o : Nat} {et : TypeId} {cs xs : List Value} {fz : Nat × Nat} (hl : xs.length = n * size) (hx : (cs.drop o).take (n * size) = xs) : Src' B (blk b (.cells cs.toArray et fz)) size (some ⟨b, o, none⟩) n xs := by
  refine ⟨hl, .inr ⟨b, o, rfl, fun N0 R w s j v hj => cell_of_heap s.blk.1 ?_⟩⟩
  subst hx
  simp only [List.getElem?_take, List.getElem?_drop] at hj
  split at hj
  · exact hj
  · cases hj
theorem Src'.sbuf {B : Frag} {size n c : Nat} {A : Option Addr} {et : TypeId} {xs : List Value} (h : A = none ∧ n = 0 ∧ xs = [] ∨ ∃ b, A = some ⟨b, 0, none⟩ ∧ xs.length = n * size) : Src' B (sbuf et size A n c xs) size A n xs := by
  rcases h with ⟨h1, h2, h3⟩ | ⟨b, h1, h2⟩
  · subst h1; subst h2; subst h3; exact ⟨by simp, .inl ⟨rfl, rfl⟩⟩
  · refine ⟨h2, .inr ⟨b, 0, h1, fun N0 R w s j v hj => ?_⟩⟩
    subst h1
    rcases s.cases_sbuf with ⟨e1, _⟩ | ⟨bb, sp, e1, e2, e3, e4, s'⟩
    · cases e1
    · injection e1 with e1; injection e1 with e1; subst e1
      refine cell_of_heap s'.blk.1 ?_
      rw [Nat.zero_add, List.getElem?_append_left (List.getElem?_eq_some_iff.1 hj).1]
      exact hj
section
variable {ρ : Sl} {ty t tx : TypeId} {x y : Operand} {v u : Value} {B : Frag} {H R : HP} {k k' : IntKind} {m n z : Int} {e : Env} {ds : List Deferred}
theorem appO {et : TypeId} {size bytes nl c nx cx : Nat} {zs xs news : List Value} {A Ax : Option Addr} {p : HP} {tyx : TypeId}
    (ht : e.P.underlying t = some (.slice et)) (htx : e.P.underlying tx = some (.slice tyx)) (hz : TI e.P et zs size bytes)
    (hx : ev ρ x = some (.slice A nl c)) (hy : ev ρ y = some (.slice Ax nx cx)) (hs : Src' B p size Ax nx news) (h1 : news.all (·.oneCell') = true)
    (hH : H = sbuf et size A nl c xs * (p * R)) (hb : nl + nx ≤ 9223372036854775807) (hbb : (nl + nx) * bytes ≤ 140737488355328) :
    Ox e ds (.call { callee := .builtin .append, args := #[x, y], argTypes := #[t, tx] }) ty ρ B H
      (fun v B' H' => ∃ A' c', v = .slice A' (nl + nx) c' ∧ (0 < nl + nx → ∃ b, A' = some ⟨b, 0, none⟩) ∧ xs.length = nl * size ∧ nl + nx ≤ c' ∧ B' = B ∧ H' = sbuf et size A' (nl + nx) c' (xs ++ news) * (p * R)) :=
  .of_run (fun _ h => by cases h) fun f w dst pos after guard he s => by
    subst hH
    obtain ⟨i, zv, z1, z2, z3, z4, z5, z6, z7⟩ := hz
    have h1' : ∀ u ∈ news, u.oneCell' = true := by simpa using h1
    have hsrc : Src e.P i.size tx (.slice Ax nx cx) nx news w := by
      obtain ⟨hl, h2 | ⟨b, o, h3, h4⟩⟩ := hs
      · obtain ⟨rfl, rfl⟩ := h2
        have : news = [] := by simpa using hl
        subst this
        exact Src.ofNil w htx cx
      · subst h3
        have h5 := h4 e.N0 (sbuf et size A nl c xs * R) w (by rw [star_left]; exact s)
        exact Src.ofSlice w htx ⟨b, o, none⟩ nx cx news (by rw [z4]; exact hl) (fun j u hj => by rw [add_mk]; exact h5 j u hj) h1'
    have hrunE : ∀ {r w'}, (Builtin.append_ #[t, tx] ty #[.slice A nl c, .slice Ax nx cx]).run e.P w = .ok r w' → (execOp f ⟨dst, .call { callee := .builtin .append, args := #[x, y], argTypes := #[t, tx] }, ty, pos, after, guard⟩).run e.P w = .ok (.value r) w' := by
      intro r w' hr
      simp [execOp, resolve, he _ _ hx, he _ _ hy, invoke, builtin, hr]
    have hnl : news.length = nx * size := hs.1
    have grow : ∀ (olds : List Value), olds.length = nl * size → (Builtin.firstCells i.size nl (.slice A nl c)).run e.P w.drew = .ok olds.toArray w.drew → c < nl + nx → olds = xs → St e.N0 B (p * R) w →
        ∃ v w' B' H', (execOp f ⟨dst, .call { callee := .builtin .append, args := #[x, y], argTypes := #[t, tx] }, ty, pos, after, guard⟩).run e.P w = .ok (.value v) w' ∧
          (∃ A' c', v = .slice A' (nl + nx) c' ∧ (0 < nl + nx → ∃ b, A' = some ⟨b, 0, none⟩) ∧ xs.length = nl * size ∧ nl + nx ≤ c' ∧ B' = B ∧ H' = sbuf et size A' (nl + nx) c' (xs ++ news) * (p * R)) ∧ B.le B' ∧ Below e.N0 w w' ∧ St e.N0 B' H' w' := by
      intro olds hol hold hlt heq s0
      have hcap := nextslicecap_le (need := nl + nx) (old := c) hlt
      have hr := run_append_grow_src (P := e.P) w t tx ty et i zv ht z1 z2 A nl c olds hold (.slice Ax nx cx) nx news hsrc hlt (by omega) (by
        rw [z5]
        calc Builtin.nextslicecap (nl + nx) c * bytes ≤ (2 * (nl + nx)) * bytes := Nat.mul_le_mul_right _ hcap
          _ = 2 * ((nl + nx) * bytes) := by rw [Nat.mul_assoc]
          _ ≤ 281474976710656 := by omega)
      have hge : nl + nx ≤ grownCap w (nl + nx) c et := by
        unfold grownCap Question.cut; simp
      obtain ⟨sp, hsp⟩ : ∃ sp : List Value, (olds ++ news).toArray ++ Builtin.zeroCells zv.cells (grownCap w (nl + nx) c et - (nl + nx)) = (olds ++ news ++ sp).toArray ∧ sp.length = (grownCap w (nl + nx) c et - (nl + nx)) * size := by
        refine ⟨(Builtin.zeroCells zv.cells (grownCap w (nl + nx) c et - (nl + nx))).toList, by apply Array.toList_inj.1; simp, ?_⟩
        simp [Builtin.zeroCells, z3, z6]
      subst heq
      rw [hsp.1] at hr
      refine ⟨_, _, B, _, hrunE hr, ⟨_, _, rfl, fun _ => ⟨_, rfl⟩, hol, hge, rfl, rfl⟩, Fl _, ((Below.refl _ _).drew).alloc s.sz _, ?_⟩
      have := s0.drew.alloc (.cells (olds ++ news ++ sp).toArray et (0, 0))
      refine St.of_sbuf (sp := sp) (by simp [hol, hnl, Nat.add_mul]) hge ?_ this
      have : (grownCap w (nl + nx) c et) * size = (grownCap w (nl + nx) c et - (nl + nx)) * size + (nl + nx) * size := by
        rw [← Nat.add_mul]; congr 1; omega
      simp [hol, hnl, hsp.2, this, Nat.add_mul]; omega
    rcases s.cases_sbuf with ⟨e1, e2, e3, e4, s'⟩ | ⟨b, sp, e1, e2, e3, e4, s'⟩
    · subst e1; subst e2; subst e3; subst e4
      by_cases h0 : nx = 0
      · subst h0
        have hn : news = [] := by simpa using hnl
        subst hn
        refine ⟨.slice none 0 0, w, B, _, hrunE ?_, ⟨none, 0, rfl, fun h => by omega, by simp, Nat.le_refl _, rfl, rfl⟩, Fl _, Below.refl _ _, by simpa using s⟩
        have hfc := hsrc.cells
        have hlen := hsrc.len w
        simp [Builtin.append_, run_underlying ht, run_underlying htx, sizeOf, typeInfo, z1, hlen, hfc, Builtin.lenOf]
      · exact grow [] (by simp) (by simp [Builtin.firstCells]) (by omega) rfl s'
    · subst e1
      by_cases hroom : nl + nx ≤ c
      · have hspl : (nl + nx) * size ≤ c * size := Nat.mul_le_mul_right _ hroom
        have hlen1 : xs.length + sp.length = c * size := by simpa using e4
        have hh := s'.blk.1
        have hst := run_storeCells_at (P := e.P) b (nl * size) et news 0 (xs ++ sp).toArray w hh (by simp; rw [Nat.add_mul] at hspl; omega) h1'
        have hl2 : (xs ++ sp).take (nl * size + 0) ++ news ++ (xs ++ sp).drop (nl * size + 0 + news.length) = (xs ++ news) ++ sp.drop news.length := by
          simp only [Nat.add_zero]
          rw [List.take_append_of_le_length (by omega), ← e2, List.take_length, List.drop_append]
          simp
        simp only [List.toList_toArray] at hst
        rw [hl2] at hst
        have hlen := hsrc.len w
        have hfc := hsrc.cells
        rw [z4] at hfc
        have hr : (Builtin.append_ #[t, tx] ty #[.slice (some ⟨b, 0, none⟩) nl c, .slice Ax nx cx]).run e.P w = .ok (.slice (some ⟨b, 0, none⟩) (nl + nx) c) (w.setRow b ((xs ++ news) ++ sp.drop news.length).toArray) := by
          simp only [Builtin.append_, Sem.run_bind, Sem.run_pure, Result.andThen, run_underlying ht, run_underlying htx, sizeOf, typeInfo, run_program, z1, z4, hlen, hroom, if_true, hfc, add_mk, Nat.zero_add, hst, List.getElem?_toArray, List.getElem?_cons_zero, List.getElem?_cons_succ]
          simp [hlen, hroom, hfc, hst]
        refine ⟨_, _, B, _, hrunE hr, ⟨_, _, rfl, fun _ => ⟨_, rfl⟩, e2, hroom, rfl, rfl⟩, Fl _, (s'.setRow _).2, ?_⟩
        refine St.of_sbuf (sp := sp.drop news.length) (by simp [e2, hnl, Nat.add_mul]) hroom ?_ (s'.setRow _).1
        simp
        rw [Nat.add_mul] at hspl
        omega
      · exact grow xs e2 (by
          have := run_firstCells_some (P := e.P) w.drew i.size nl ⟨b, 0, none⟩ nl c xs (by rw [z4]; exact e2) (fun j u hj => by
            rw [add_mk, Nat.zero_add]
            refine cell_of_heap s'.drew.blk.1 ?_
            rw [List.getElem?_append_left (List.getElem?_eq_some_iff.1 hj).1]; exact hj)
          exact this) (by omega) rfl s'.drop
end
end Go.SL
namespace Go.SL
open Go.RowKit
def subA (A : Option Addr) (c l size : Nat) : Option Addr := if c = l then A else A.map (·.add (l * size))
section
variable {P : Program} {ρ : Sl} {S : World → Prop} {ty t : TypeId} {x y : Operand} {v u : Value} {B : Frag} {H R : HP} {k k' : IntKind} {m z : Int} {n c b o size : Nat} {et : TypeId} {A : Option Addr}
theorem ia {ix : Operand} {j : Nat} (ht : P.underlying t = some (.slice et)) (hs : (P.info? et).map (·.size) = some size) (hx : ev ρ x = some (.slice (some ⟨b, o, none⟩) n c)) (hi : ev ρ ix = some (.int k m)) (hj : m.toNat = j) (h0 : 0 ≤ m) (h1 : m < n) :
    Yx P (.indexAddr t x ix) ty ρ S (.pointer (some ⟨b, o + j * size, none⟩)) := .of (fun _ h => by cases h) fun f w _ _ _ _ he _ => by
  subst hj
  cases hq : P.info? et with
  | none => simp [hq] at hs
  | some i =>
    have hi' : i.size = size := by simpa [hq] using hs
    simp [execOp, he _ _ hx, he _ _ hi, Instr.indexAt, asIntOf, run_underlying ht, h0, h1, sizeOf, typeInfo, hq, hi', add_mk]
theorem iaArr {ix : Operand} {len j : Nat} (ht : P.underlying t = some (.array len et)) (hs : (P.info? et).map (·.size) = some size) (hx : ev ρ x = some (.pointer (some ⟨b, o, none⟩))) (hi : ev ρ ix = some (.int k m)) (hj : m.toNat = j) (h0 : 0 ≤ m) (h1 : m < len) :
    Yx P (.indexAddr t x ix) ty ρ S (.pointer (some ⟨b, o + j * size, none⟩)) := .of (fun _ h => by cases h) fun f w _ _ _ _ he _ => by
  subst hj
  cases hq : P.info? et with
  | none => simp [hq] at hs
  | some i =>
    have hi' : i.size = size := by simpa [hq] using hs
    simp [execOp, he _ _ hx, he _ _ hi, Instr.indexAt, asIntOf, run_underlying ht, Instr.sureAddr, h0, h1, sizeOf, typeInfo, hq, hi', add_mk]
theorem ixArr {ix : Operand} {len : Nat} {cs : List Value} {d : TypeDesc} (ht : P.underlying t = some (.array len et)) (hs : (P.info? et).map (·.size) = some 1) (he' : P.underlying et = some d) (hd : aggB d = false) (hx : ev ρ x = some (.agg cs.toArray)) (hi : ev ρ ix = some (.int k m)) (h0 : 0 ≤ m) (h1 : m < len) (hv : cs[m.toNat]? = some v) :
    Yx P (.index t x ix) ty ρ S v := .of (fun _ h => by cases h) fun f w _ _ _ _ he _ => by
  have hg := run_isAgg he' w
  rw [hd] at hg
  have h9 : cs.toArray[m.toNat]? = some v := by simpa using hv
  cases hq : P.info? et with
  | none => simp [hq] at hs
  | some i =>
    have hi' : i.size = 1 := by simpa [hq] using hs
    simp only [execOp, he _ _ hx, he _ _ hi, Instr.index, asIntOf, Sem.run_bind, Sem.run_pure, Result.andThen, run_underlying ht, h0, h1, and_self, if_true, sizeOf, typeInfo, run_program, hq, hi', Nat.mul_one, part, hg, Bool.false_eq_true, if_false, h9]
theorem lenV {ty' : TypeId} (ht : P.underlying t = some (.slice et)) (hx : ev ρ x = some (.slice A n c)) : Yx P (.call { callee := .builtin .len, args := #[x], argTypes := #[t] }) ty ρ S (i64 n) := .of (fun _ h => by cases h) fun f w _ _ _ _ he _ => by
  simp [execOp, resolve, invoke, builtin, Builtin.len_, he _ _ hx, run_underlying ht, goInt]
theorem capV (ht : P.underlying t = some (.slice et)) (hx : ev ρ x = some (.slice A n c)) : Yx P (.call { callee := .builtin .cap, args := #[x], argTypes := #[t] }) ty ρ S (i64 c) := .of (fun _ h => by cases h) fun f w _ _ _ _ he _ => by
  simp [execOp, resolve, invoke, builtin, Builtin.cap_, he _ _ hx, run_underlying ht, goInt]
theorem eqNilV (ht : P.underlying t = some (.slice et)) (hx : ev ρ x = some (.slice A n c)) (hy : ev ρ y = some (.slice none 0 0)) {t' : TypeId} : Yx P (.binOp .eql t x y t') ty ρ S (.bool A.isNone) := .of (fun _ h => by cases h) fun f w _ _ _ _ he _ =>
  run_binOp (he _ _ hx) (he _ _ hy) (by simp [eqGuard]) (by
    have := Lib.run_eql_slice_nil (P := P) w t et A n c 0 0 ht
    exact this)
theorem run_sliceAt_slice {w : World} {lo hi : Option Value} {l h : Nat} (ht : P.underlying t = some (.slice et)) (hs : (P.info? et).map (·.size) = some size)
    (hb : (Instr.sliceBounds true n c lo hi none).run P w = .ok (l, h, c) w) :
    (Instr.sliceAt t (.slice A n c) lo hi none).run P w = .ok (.slice (subA A c l size) (h - l) (c - l)) w := by
  cases hq : P.info? et with
  | none => simp [hq] at hs
  | some i =>
    have hi' : i.size = size := by simpa [hq] using hs
    simp only [Instr.sliceAt, Sem.run_bind, run_underlying ht, Result.andThen, Instr.slice, hb, sizeOf, typeInfo, run_program, hq, hi', Sem.run_pure, subA]
theorem sl1V {lo : Operand} {j : Nat} (ht : P.underlying t = some (.slice et)) (hs : (P.info? et).map (·.size) = some size) (hx : ev ρ x = some (.slice A n c)) (hi : ev ρ lo = some (.int k m)) (hj : m.toNat = j) (h0 : 0 ≤ m) (h1 : m ≤ n) :
    Yx P (.slice t x (some lo) none none) ty ρ S (.slice (subA A c j size) (n - j) (c - j)) := .of (fun _ h => by cases h) fun f w _ _ _ _ he _ => by
  subst hj
  have := run_sliceAt_slice (P := P) (t := t) (w := w) (A := A) (n := n) (c := c) (lo := some (.int k m)) (hi := none) (l := m.toNat) (h := n) ht hs (by simp [Instr.sliceBounds, Instr.sliceBound, asIntOf, h0, h1])
  simp only [execOp, Option.map_some, Option.map_none, he _ _ hx, he _ _ hi, Sem.run_bind, this, Result.andThen, Sem.run_pure]
theorem sl2V {hi : Operand} {j : Nat} (ht : P.underlying t = some (.slice et)) (hs : (P.info? et).map (·.size) = some size) (hx : ev ρ x = some (.slice A n c)) (hh : ev ρ hi = some (.int k m)) (hj : m.toNat = j) (h0 : 0 ≤ m) (h1 : m ≤ c) :
    Yx P (.slice t x none (some hi) none) ty ρ S (.slice A j c) := .of (fun _ h => by cases h) fun f w _ _ _ _ he _ => by
  subst hj
  have := run_sliceAt_slice (P := P) (t := t) (w := w) (A := A) (n := n) (c := c) (lo := none) (hi := some (.int k m)) (l := 0) (h := m.toNat) ht hs (by simp [Instr.sliceBounds, Instr.sliceBound, asIntOf, h0, h1])
  have e0 : subA A c 0 size = A := by
    unfold subA
    split
    · rfl
    · cases A with
      | none => rfl
      | some a => simp [Addr.add]
  simp only [execOp, Option.map_some, Option.map_none, he _ _ hx, he _ _ hh, Sem.run_bind, this, Result.andThen, Sem.run_pure, e0, Nat.sub_zero]
theorem sl3V {lo hi : Operand} {i j : Nat} (ht : P.underlying t = some (.slice et)) (hs : (P.info? et).map (·.size) = some size) (hx : ev ρ x = some (.slice A n c)) (hl : ev ρ lo = some (.int k m)) (hh : ev ρ hi = some (.int k' z)) (hi' : m.toNat = i) (hj : z.toNat = j) (h0 : 0 ≤ m) (hm : m ≤ z) (h1 : z ≤ c) :
    Yx P (.slice t x (some lo) (some hi) none) ty ρ S (.slice (subA A c i size) (j - i) (c - i)) := .of (fun _ h => by cases h) fun f w _ _ _ _ he _ => by
  subst hi'; subst hj
  have h2 : 0 ≤ z := by omega
  have h3 : m ≤ (z.toNat : Int) := by omega
  have := run_sliceAt_slice (P := P) (t := t) (w := w) (A := A) (n := n) (c := c) (lo := some (.int k m)) (hi := some (.int k' z)) (l := m.toNat) (h := z.toNat) ht hs (by simp [Instr.sliceBounds, Instr.sliceBound, asIntOf, h0, h1, h2]; omega)
  simp only [execOp, Option.map_some, Option.map_none, he _ _ hx, he _ _ hl, he _ _ hh, Sem.run_bind, this, Result.andThen, Sem.run_pure]
def u8s (l : List UInt8) : List Value := l.map fun b => .int .u8 (b.toNat : Nat)
theorem u8s_len (l : List UInt8) : (u8s l).length = l.length := by simp [u8s]
theorem fold_set (base : Nat) : ∀ (cs : List Value) (j : Nat) (l : List Value), base + j + cs.length ≤ l.length →
    (cs.zipIdx j).foldl (fun (a : Array Value) x => a.setIfInBounds (base + x.2) x.1) l.toArray = (l.take (base + j) ++ cs ++ l.drop (base + j + cs.length)).toArray := by
  intro cs
  induction cs with
  | nil => intro j l h; simp
  | cons v cs ih =>
    intro j l h
    simp only [List.zipIdx_cons, List.foldl_cons, List.setIfInBounds_toArray]
    rw [ih (j + 1) (l.set (base + j) v) (by simp at h ⊢; omega)]
    have := list_seg_step l (base + j) v cs (by simp at h; omega)
    rw [show base + (j + 1) = base + j + 1 by omega, this]
    simp [Nat.add_assoc, Nat.add_comm 1]
theorem fill_all (size : Nat) : ∀ (vs : List Value) (j : Nat) (pre : List Value) (post : List Value), pre.length = j * size → (∀ v ∈ vs, v.cells.size = size) → post.length = vs.length * size →
    Instr.fill (fun i => some (i * size, size)) (pre ++ post).toArray ((vs.zipIdx j).map fun (v, i) => (i, v)) = some (pre ++ vs.flatMap (·.cells.toList)).toArray := by
  intro vs
  induction vs with
  | nil => intro j pre post h1 _ h3; simp at h3; simp [Instr.fill, h3]
  | cons v vs ih =>
    intro j pre post h1 h2 h3
    have hv := h2 v (by simp)
    simp only [List.zipIdx_cons, List.map_cons, Instr.fill]
    rw [if_neg (by
      simp only [ne_eq, hv, not_true_eq_false, false_or, List.size_toArray, List.length_append, h1, h3]
      simp [Nat.add_mul]; try omega)]
    have key : (v.cells.zipIdx.foldl (fun cs x => cs.setIfInBounds (j * size + x.2) x.1) (pre ++ post).toArray) = ((pre ++ v.cells.toList) ++ post.drop v.cells.size).toArray := by
      rw [← Array.foldl_toList, Array.toList_zipIdx]
      have := fold_set (j * size) v.cells.toList 0 (pre ++ post) (by simp [h1, hv, h3, Nat.add_mul]; try omega)
      rw [this]
      simp [← h1, hv]
    rw [key, ih (j + 1) (pre ++ v.cells.toList) (post.drop v.cells.size) (by simp [h1, hv, Nat.add_mul]) (fun u hu => h2 u (by simp [hu])) (by simp [h3, hv, Nat.add_mul])]
    simp
variable {e : Env} {ds : List Deferred} {ops : Array Oper} {rest : List Oper} {Q : Exit → Act → World → Prop}
def evp (ρ : Sl) : Nat → List (Nat × Operand) → Option (List Value)
  | _, [] => some []
  | j, (i, x) :: xs => match Nat.beq i j, ev ρ x, evp ρ (j + 1) xs with
    | true, some v, some vs => some (v :: vs)
    | _, _, _ => none
theorem evp_map {f : Operand → Value} (h : Ev ρ f) : ∀ {xs : List (Nat × Operand)} {j : Nat} {vs : List Value}, evp ρ j xs = some vs → xs.map (fun (i, x) => (i, f x)) = (vs.zipIdx j).map fun (v, i) => (i, v) := by
  intro xs
  induction xs with
  | nil => intro j vs hv; simp [evp] at hv; simp [← hv]
  | cons a xs ih =>
    obtain ⟨i, x⟩ := a
    intro j vs hv
    simp only [evp] at hv
    split at hv
    · rename_i v us hij hx hs
      injection hv with hv
      subst hv
      have := Nat.eq_of_beq_eq_true hij
      subst this
      simp [h x v hx, ih hs]
    · simp at hv
theorem bslO {parts : Array (Nat × Operand)} {vs zs : List Value} {bytes len : Nat} (ht : e.P.underlying t = some (.slice et)) (hz : TI e.P et zs size bytes)
    (hp : evp ρ 0 parts.toList = some vs) (hl : vs.length = len) (hc : ∀ v ∈ vs, v.cells.size = size) (hb : len * size ≤ 16777216) :
    Ox e ds (.buildSlice t len parts) ty ρ B H (fun v B' H' => ∃ b, v = .slice (some ⟨b, 0, none⟩) len len ∧ B' = B ∧ H' = row b et (vs.flatMap (·.cells.toList)) * H) :=
  .of_run (fun _ h => by cases h) fun f w _ _ _ _ he s => by
    obtain ⟨i, zv, z1, z2, z3, z4, z5, z6, z7⟩ := hz
    have hpm : (parts.map fun (i, x) => (i, f x)) = ((vs.zipIdx 0).map fun (v, i) => (i, v)).toArray := by
      apply Array.toList_inj.1
      simp [evp_map he hp]
    obtain ⟨zz, hzz, hzl⟩ : ∃ zz : List Value, ((Array.range (len * size)).map (zv.cells[· % zv.cells.size]!)) = zz.toArray ∧ zz.length = len * size :=
      ⟨((Array.range (len * size)).map (zv.cells[· % zv.cells.size]!)).toList, (Array.toArray_toList).symm, by simp⟩
    have hfill := fill_all size vs 0 [] zz (by simp) hc (by rw [hzl, hl])
    simp only [List.nil_append] at hfill
    refine ⟨.slice (some ⟨w.heap.size, 0, none⟩) len len, w.alloc (.cells (vs.flatMap (·.cells.toList)).toArray et (0, 0)), B, _, ?_, ⟨_, rfl, rfl, rfl⟩, Fl _, (Below.refl _ _).alloc s.sz _, s.alloc _⟩
    have hn : ¬ (len * size > 2 ^ 24) := by omega
    have hbs : (Instr.buildSlice t len ((vs.zipIdx 0).map fun (v, i) => (i, v)).toArray).run e.P w = .ok (.slice (some ⟨w.heap.size, 0, none⟩) len len) (w.alloc (.cells (vs.flatMap (·.cells.toList)).toArray et (0, 0))) := by
      unfold Instr.buildSlice
      by_cases h0 : len * size = 0
      · have hl0 : len = 0 := by
          rcases Nat.mul_eq_zero.1 h0 with h | h
          · exact h
          · omega
        have : vs = [] := List.eq_nil_of_length_eq_zero (by omega)
        subst this
        have hr0 : Array.range 0 = #[] := rfl
        simp [run_underlying ht, sizeOf, typeInfo, z1, z4, hl0, Instr.fill, newRow, hr0]
      · simp only [Sem.run_bind, run_underlying ht, Result.andThen, sizeOf, typeInfo, run_program, z1, z4, Sem.run_pure, hn, if_false, h0, zeroValue, z2, hzz, hfill]
        simp [newRow]
    simp only [execOp, hpm, Sem.run_bind, hbs, Result.andThen, Sem.run_pure]
theorem Lx.bsl {op : Op} {cs : List Value} {pos : String} {af : Array Edge} {d len : Nat} (h : Ox e ds op ty ρ B H (fun v B' H' => ∃ b, v = .slice (some ⟨b, 0, none⟩) len len ∧ B' = B ∧ H' = row b et cs * H)) (hd : Nat.blt d e.nt = true)
    (k : ∀ b, Lx e ds ops Q rest ((d, .slice (some ⟨b, 0, none⟩) len len) :: ρ) B (row b et cs * H)) : Lx e ds ops Q (⟨some d, op, ty, pos, af, none⟩ :: rest) ρ B H :=
  Lx.o h hd fun v B' H' ⟨b, e1, e2, e3⟩ _ => by subst e1; subst e2; subst e3; exact k b
theorem flat_one : ∀ {vs : List Value}, vs.all (·.oneCell') = true → vs.flatMap (·.cells.toList) = vs := by
  intro vs
  induction vs with
  | nil => intro _; rfl
  | cons v vs ih =>
    intro h
    simp only [List.all_cons, Bool.and_eq_true] at h
    have hv1 : v.cells = #[v] := by cases v <;> simp_all [Value.cells, Value.oneCell']
    simp [List.flatMap_cons, hv1, ih h.2]
theorem bsl1 {parts : Array (Nat × Operand)} {vs zs : List Value} {bytes len : Nat} (ht : e.P.underlying t = some (.slice et)) (hz : TI e.P et zs 1 bytes)
    (hp : evp ρ 0 parts.toList = some vs) (hl : vs.length = len) (h1 : vs.all (·.oneCell') = true) (hb : len ≤ 16777216) :
    Ox e ds (.buildSlice t len parts) ty ρ B H (fun v B' H' => ∃ b, v = .slice (some ⟨b, 0, none⟩) len len ∧ B' = B ∧ H' = row b et vs * H) := by
  have := bslO (ρ := ρ) (ds := ds) (B := B) (H := H) (ty := ty) ht hz hp hl (fun v hv => by
    have := List.all_eq_true.1 h1 v hv
    cases v <;> simp_all [Value.cells, Value.oneCell']) (by omega)
  rw [flat_one h1] at this
  exact this
theorem bslA {x : Operand} {cs zs : List Value} {bytes : Nat} (ht : e.P.underlying t = some (.slice et)) (hz : TI e.P et zs size bytes)
    (hx : ev ρ x = some (.agg cs.toArray)) (hl : cs.length = size) (hb : size ≤ 16777216) :
    Ox e ds (.buildSlice t 1 #[(0, x)]) ty ρ B H (fun v B' H' => ∃ b, v = .slice (some ⟨b, 0, none⟩) 1 1 ∧ B' = B ∧ H' = row b et cs * H) := by
  have := bslO (ρ := ρ) (ds := ds) (B := B) (H := H) (ty := ty) (parts := #[(0, x)]) (vs := [.agg cs.toArray]) (len := 1) ht hz (by simp [evp, hx]) rfl (fun v hv => by
    simp at hv; subst hv; simpa [Value.cells] using hl) (by omega)
  simpa [Value.cells] using this
theorem mksO {l c : Operand} {k1 k2 : IntKind} {a d : Int} {z : Value} {bytes : Nat} (ht : e.P.underlying t = some (.slice et)) (hz : TI e.P et [z] 1 bytes) (hl : ev ρ l = some (.int k1 a)) (hc : ev ρ c = some (.int k2 d))
    (h0 : 0 ≤ a) (h1 : a ≤ d) (h2 : d ≤ 9223372036854775807) (hb : d * bytes ≤ 140737488355328) :
    Ox e ds (.makeSlice t l c) ty ρ B H (fun v B' H' => ∃ b, v = .slice (some ⟨b, 0, none⟩) a.toNat d.toNat ∧ B' = B ∧ H' = row b et (List.replicate d.toNat z) * H) :=
  .of_run (fun _ h => by cases h) fun f w _ _ _ _ he s => by
    obtain ⟨i, zv, z1, z2, z3, z4, z5, z6, z7⟩ := hz
    have hm : madeCells zv.cells (d.toNat * i.size) = (List.replicate d.toNat z).toArray := by
      rw [z3, z4, Nat.mul_one]
      apply Array.toList_inj.1
      apply List.ext_getElem?
      intro j
      by_cases hj : j < d.toNat
      · have h2 : (j : Int) < d := by omega
        simp [madeCells, List.getElem?_replicate, hj, h2, Nat.mod_one]
      · have h2 : ¬ (j : Int) < d := by omega
        have h3 : (List.range d.toNat)[j]? = none := List.getElem?_eq_none (by simp; omega)
        simp [madeCells, List.getElem?_replicate, hj, h2, h3]
    have hr := run_make (P := e.P) w t et i zv ht z1 z2 k1 k2 a d h0 h1 (by rw [z5, Int.mul_comm]; omega) h2
    rw [hm] at hr
    refine ⟨_, _, B, _, ?_, ⟨_, rfl, rfl, rfl⟩, Fl _, (Below.refl _ _).alloc s.sz _, s.alloc _⟩
    simp only [execOp, he _ _ hl, he _ _ hc, Sem.run_bind, hr, Result.andThen, Sem.run_pure]
theorem b2s {src dst : TypeId} {l : List UInt8} {p : HP} {N0 : Nat} (hs : P.underlying src = some (.slice et)) (he' : P.underlying et = some (.int .u8)) (hd : P.underlying dst = some .string) (hx : ev ρ x = some (.slice A n c))
    (hS : Src' B p 1 A n (u8s l)) (hH : H = p * R) : Yx P (.convert src dst x) ty ρ (St N0 B H) (str l) := .of (fun _ h => by cases h) fun f w _ _ _ _ he s => by
  obtain ⟨hl, hA⟩ := hS
  have hln : l.length = n := by simpa [u8s] using hl
  have hc : (convert src dst (.slice A n c)).run P w = .ok (str l) w := by
    rcases hA with ⟨h1, h2⟩ | ⟨b, o, h1, h2⟩
    · subst h1; subst h2
      rw [run_convert_bytes_nil w src et hs he' 0 c dst hd]
      have : l = [] := List.eq_nil_of_length_eq_zero hln
      subst this; rfl
    · subst h1
      have h3 := h2 N0 R w (hH ▸ s)
      rw [run_convert_bytes_arg w src et hs he' b o n c (l.map fun b => (b.toNat : Int)) (by simp [hln]) (fun i hi => by
        refine h3 i _ ?_
        simp [u8s, List.getElem?_map, List.getElem?_eq_getElem (show i < l.length by omega)]) dst hd]
      congr 1
      simp only [strOfNums, str, Value.string.injEq, ByteArray.mk.injEq, List.map_map]
      congr 1
      conv => rhs; rw [← List.map_id l]
      apply List.map_congr_left
      intro b _
      simp
  simp only [execOp, he _ _ hx, Sem.run_bind, hc, Result.andThen, Sem.run_pure]
theorem u8s_nil : u8s [] = [] := rfl
theorem u8s_cons {b : UInt8} {l : List UInt8} {vs : List Value} (h : u8s l = vs) : u8s (b :: l) = .int .u8 (b.toNat : Nat) :: vs := by rw [← h]; rfl
theorem b2sR {src dst : TypeId} {l : List UInt8} {vs : List Value} {N0 : Nat} {b0 : Nat} {fz : Nat × Nat} (hs : P.underlying src = some (.slice et)) (he' : P.underlying et = some (.int .u8)) (hd : P.underlying dst = some .string) (hx : ev ρ x = some (.slice (some ⟨b0, 0, none⟩) n c))
    [hp : PickB H b0 (.cells vs.toArray et fz) R] (hv : u8s l = vs) (hn : vs.length = n) : Yx P (.convert src dst x) ty ρ (St N0 B H) (str l) :=
  b2s hs he' hd hx (Src'.row (o := 0) (cs := vs) (fz := fz) (et := et) (by rw [hv, hn]; simp) (by rw [hv, ← hn]; simp)) hp.eq
end
end Go.SL
namespace Go.SL
open Go.RowKit
def edge (ops : Array Oper) (j i : Nat) : Bool := match ops[j]? with
  | some o => o.after.any fun x => Region.binds .any x && x.on == i
  | none => false
def anyJ (P : Program) (r : Option Nat) (ops : Array Oper) (Q : Exit → Act → World → Prop) (J : Nat → World → Prop) : Nat → Array Bool → Act → World → Prop
  | 0, listed, a, w => Region.ready .any ops listed = [] ∧ Q .normal a w
  | fuel + 1, listed, a, w =>
    (Region.ready .any ops listed = [] → Q .normal a w) ∧
    ∀ i ∈ Region.ready .any ops listed, wpOpIn (FW r) 0 P ops Q i (fun a' w' => (w' = w ∨ J i w') ∧ anyJ P r ops Q J fuel (listed.setIfInBounds i true) a' w') a w
section
variable {P : Program} {r : Option Nat} {ops : Array Oper} {Q : Exit → Act → World → Prop} {J J' : Nat → World → Prop}
theorem anyJ_any : ∀ (fuel : Nat) (listed : Array Bool) (a : Act) (w : World), anyJ P r ops Q J fuel listed a w → wpAnyIn (FW r) 0 P .any ops Q fuel listed a w
  | 0, _, _, _, h => h
  | fuel + 1, _, _, _, h => ⟨h.1, fun i hi => wpOpIn_mono (fun a' w' h' => anyJ_any fuel _ a' w' h'.2) (h.2 i hi)⟩
theorem anyJ_mono (hJ : ∀ j w, J j w → J' j w) : ∀ (fuel : Nat) (listed : Array Bool) (a : Act) (w : World), anyJ P r ops Q J fuel listed a w → anyJ P r ops Q J' fuel listed a w
  | 0, _, _, _, h => h
  | fuel + 1, _, _, _, h => ⟨h.1, fun i hi => wpOpIn_mono (fun a' w' h' => ⟨h'.1.imp id (hJ _ _), anyJ_mono hJ fuel _ a' w' h'.2⟩) (h.2 i hi)⟩
def YT (P : Program) (ops : Array Oper) (T : World → Prop) (o : Oper) (v : Value) (a : Act) : Prop := (∀ c, o.op ≠ .defer c) ∧ YieldsIf P ops T o v a
theorem semAt_FW {o : Oper} {ρ : Operand → Value} (h : ∀ c, o.op ≠ .defer c) : Oper.semAt (FW r).round ρ o = execOp ρ o := Oper.semAt_eq _ _ _ h
theorem YT.wpOpIn {T : World → Prop} {i : Nat} {o : Oper} {v : Value} {a : Act} (hi : ops[i]? = some o) (hy : YT P ops T o v a) {K : Act → World → Prop} {w : World} (hT : T w) (h : K (a.put o.dst v) w) : wpOpIn (FW r) 0 P ops Q i K a w := by
  unfold Go.wpOpIn
  simp only [hi]
  rcases hy with ⟨hd, ⟨hw, hv⟩ | ⟨hw, rfl⟩⟩
  · simp only [hw, if_true, Oper.wpIn, semAt_FW hd, hv w hT, Oper.uponIn]; exact ⟨fun _ _ => trivial, h⟩
  · simp only [hw, Bool.false_eq_true, if_false]; exact ⟨fun _ _ => trivial, h⟩
theorem semAt_put {oj : Oper} {a : Act} {dst : Option Tmp} {v : Value} (hsj : ∀ cs b, oj.op ≠ .select cs b) (h1 : ∀ d, dst = some d → d ∉ oj.looksAt ops) :
    Oper.semAt (FW r).round (a.put dst v).eval oj = Oper.semAt (FW r).round a.eval oj := by
  by_cases hd : ∃ c, oj.op = .defer c
  · obtain ⟨c, hc⟩ := hd
    have hr := resolve_congr (ρ := (a.put dst v).eval) (ρ' := a.eval) c oj.type (fun x hx => Act.eval_put fun d hd hxd => h1 d hd (by
      subst hxd
      exact List.mem_append_left _ (List.mem_filterMap.2 ⟨.tmp d, by rw [hc]; simpa [Op.operands] using hx, rfl⟩)))
    have he := execOp_put (ops := ops) oj hsj a dst v h1
    unfold Oper.semAt
    rw [hc]
    cases hq : (FW r).round with
    | none => exact he
    | some l => simp only [hr]
  · have hd' : ∀ c, oj.op ≠ .defer c := fun c h => hd ⟨c, h⟩
    rw [semAt_FW hd', semAt_FW hd', execOp_put (ops := ops) oj hsj a dst v h1]
theorem wpOpIn_putT {T : World → Prop} {j : Nat} {oi oj : Oper} {v : Value} (hj : ops[j]? = some oj) (hap : oi.apart ops oj = true)
    (hsi : ∀ cs b, oi.op ≠ .select cs b) (hsj : ∀ cs b, oj.op ≠ .select cs b)
    (hQ : ∀ c a w, Q (.panic c) (a.put oi.dst v) w → Q (.panic c) a w) {K : Act → World → Prop} {a : Act} {w : World}
    (hy : YT P ops T oi v a) (h : wpOpIn (FW r) 0 P ops Q j K (a.put oi.dst v) w) :
    wpOpIn (FW r) 0 P ops Q j (fun a' w' => YT P ops T oi v a' ∧ K (a'.put oi.dst v) w') a w := by
  obtain ⟨h1, h2, h3⟩ := Oper.apart_spec hap
  have keep : ∀ (a : Act), YT P ops T oi v a → ∀ u, YT P ops T oi v (a.put oj.dst u) := fun a hy u =>
    ⟨hy.1, hy.2.of_same (execOp_put oi hsi a oj.dst u h3) (wanted_put oi a oj.dst u h3)⟩
  have keepD : ∀ d, YT P ops T oi v { a with defers := d :: a.defers } := fun d => ⟨hy.1, hy.2.of_same rfl rfl⟩
  unfold wpOpIn at *
  simp only [hj] at *
  rw [wanted_put oj a oi.dst v h1] at h
  split
  · rename_i hw
    simp only [hw, if_true] at h
    unfold Oper.wpIn at *
    refine ⟨fun _ _ => trivial, ?_⟩
    have h := h.2
    rw [semAt_put hsj h1] at h
    generalize (Oper.semAt (FW r).round a.eval oj).run P w = q at *
    cases q with
    | ok x w' =>
      cases x <;> simp only [Oper.uponIn] at h ⊢
      case value u => exact ⟨keep a hy u, by rw [← Act.put_comm a v u h2]; exact h⟩
      case skip => exact ⟨keep a hy _, by rw [← Act.put_comm a v undef h2]; exact h⟩
      case defer d =>
        refine ⟨keep _ (keepD d) _, ?_⟩
        rw [← Act.put_comm _ v undef h2, ← Act.put_defers]
        exact h
      case enter f args =>
        refine ⟨h.1, CallsIn.mono h.2 fun e w'' he => ?_⟩
        cases e with
        | returned u => exact ⟨keep a hy u, by rw [← Act.put_comm a v u h2]; exact he⟩
        | panicked c => exact hQ _ _ _ he
        | outgrown => exact he
      case row row args => exact ⟨h.1, RowsIn.mono h.2 fun u w'' he => ⟨keep a hy u, by rw [← Act.put_comm a v u h2]; exact he⟩⟩
      case round l f tmps assign body =>
        refine ⟨h.1, RoundIn.mono h.2 fun e w'' he => ?_⟩
        cases e with
        | returned u => exact ⟨keep a hy u, by rw [← Act.put_comm a v u h2]; exact he⟩
        | panicked c => exact hQ _ _ _ he
        | outgrown => exact he
    | halt x w' =>
      cases x <;> simp only [Oper.uponIn] at h ⊢
      case panic u => exact hQ _ _ _ h
  · rename_i hw
    simp only [hw] at h
    exact ⟨fun _ _ => trivial, keep a hy _, by rw [← Act.put_comm a v undef h2]; exact h.2⟩
theorem anyJ_first {T : World → Prop} {i : Nat} {oi : Oper} {v : Value} (hi : ops[i]? = some oi) (hsel : ∀ (j : Nat) (o : Oper) cs b, ops[j]? = some o → o.op ≠ .select cs b)
    (hQ : ∀ c a w, Q (.panic c) (a.put oi.dst v) w → Q (.panic c) a w) (hJT : ∀ j w, J j w → edge ops j i = false → T w) :
    ∀ (fuel : Nat) (listed : Array Bool) (a : Act) (w : World),
      (∀ j oj, ops[j]? = some oj → j ≠ i → listed.getD j true = false → (∀ e ∈ oj.after, Region.binds .any e = true → e.on ≠ i) → oi.apart ops oj = true) →
      i ∈ Region.ready .any ops listed → YT P ops T oi v a → T w →
      anyJ P r ops Q J fuel (listed.setIfInBounds i true) (a.put oi.dst v) w → anyJ P r ops Q J (fuel + 1) listed a w := by
  intro fuel
  induction fuel with
  | zero =>
    intro listed a w _ hr hy hT H
    refine ⟨fun h => (by rw [h] at hr; cases hr), fun j hj => ?_⟩
    by_cases hji : j = i
    · subst hji; exact hy.wpOpIn hi hT ⟨.inl rfl, H⟩
    · have := ready_mono hj hji
      rw [H.1] at this
      cases this
  | succ fuel ih =>
    intro listed a w hfree hr hy hT H
    refine ⟨fun h => (by rw [h] at hr; cases hr), fun j hj => ?_⟩
    by_cases hji : j = i
    · subst hji; exact hy.wpOpIn hi hT ⟨.inl rfl, H⟩
    · have h1 := H.2 j (ready_mono hj hji)
      obtain ⟨hjun, oj, hoj, hall⟩ := mem_ready.1 hj
      have hnot : ∀ e ∈ oj.after, Region.binds .any e = true → e.on ≠ i := fun e he hb heq => by
        have h1 := hall e he hb
        have h0 := (mem_ready.1 hr).1
        rw [heq] at h1
        rcases Nat.lt_or_ge i listed.size with h' | h'
        · simp [h'] at h0 h1; rw [h0] at h1; cases h1
        · simp [Array.getElem?_eq_none h'] at h1
      have hed : edge ops j i = false := by
        simp only [edge, hoj]
        cases hq : oj.after.any fun x => Region.binds .any x && x.on == i with
        | false => rfl
        | true =>
          obtain ⟨x, hx, hb⟩ := Array.any_eq_true'.1 hq
          simp only [Bool.and_eq_true, beq_iff_eq] at hb
          exact absurd hb.2 (hnot x hx hb.1)
      have h2 := wpOpIn_putT hoj (hfree j oj hoj hji hjun hnot) (fun cs b => hsel i oi cs b hi) (fun cs b => hsel j oj cs b hoj) hQ hy h1
      have hfree' : ∀ k ok, ops[k]? = some ok → k ≠ i → (listed.setIfInBounds j true).getD k true = false →
          (∀ e ∈ ok.after, Region.binds .any e = true → e.on ≠ i) → oi.apart ops ok = true := fun k ok hk hki hun hno => by
        refine hfree k ok hk hki ?_ hno
        by_cases hjk : j = k
        · subst hjk; exact hjun
        · rw [getD_set_ne true hjk] at hun; exact hun
      refine wpOpIn_mono (fun a' w' h3 => ⟨h3.2.1, ih (listed.setIfInBounds j true) a' w' hfree' (ready_mono hr (Ne.symm hji)) h3.1 (h3.2.1.elim (fun e => e ▸ hT) fun h => hJT j w' h hed) ?_⟩) h2
      rw [Array.setIfInBounds_comm _ _ hji]
      exact h3.2.2
def tk (ops : Array Oper) (listed : Array Bool) (i : Nat) : Bool := Region.noSelect ops && Region.free .any ops listed i && (Region.ready .any ops listed).contains i
theorem anyJ_take {T : World → Prop} {i : Nat} {oi : Oper} {v : Value} {fuel : Nat} {listed : Array Bool} {a : Act} {w : World} (hi : ops[i]? = some oi) (ht : tk ops listed i = true)
    (hQ : ∀ c a w, Q (.panic c) (a.put oi.dst v) w → Q (.panic c) a w) (hy : YT P ops T oi v a) (hT : T w)
    (h : anyJ P r ops Q (fun j w => J j w ∧ (edge ops j i = false → T w)) fuel (listed.setIfInBounds i true) (a.put oi.dst v) w) : anyJ P r ops Q J (fuel + 1) listed a w := by
  simp only [tk, Bool.and_eq_true] at ht
  refine anyJ_mono (fun j w h => h.1) _ _ _ _ (anyJ_first (J := fun j w => J j w ∧ (edge ops j i = false → T w)) hi (Region.noSelect_spec ht.1.1) hQ (fun j w h => h.2) fuel listed a w (Region.free_spec hi ht.1.2) (by simpa using ht.2) hy hT h)
end
def Dx (e : Env) (ds : List Deferred) (ops : Array Oper) (Q : Exit → Act → World → Prop) (J : Nat → World → Prop) (fuel : Nat) (listed : Array Bool) (ρ : Sl) (B : Frag) (H : HP) : Prop :=
  Xx e ds (fun a w => anyJ e.P e.r ops Q J fuel listed a w) ρ B H
def J0 : Nat → World → Prop := fun _ _ => True
def J1 (P : Program) (ops : Array Oper) (J : Nat → World → Prop) (i : Nat) (op : Op) (ty : TypeId) (ρ : Sl) (v : Value) : Nat → World → Prop :=
  fun j w => J j w ∧ (edge ops j i = false → Yx P op ty ρ (fun w' => w' = w) v)
def JOk (e : Env) (B : Frag) (H : HP) (J : Nat → World → Prop) (j : Nat) : Prop := ∀ w, St e.N0 B H w → J j w
section
variable {e : Env} {ds : List Deferred} {Q : Exit → Act → World → Prop} {ρ ρ' : Sl} {B B' : Frag} {H H' : HP} {K : Act → World → Prop} {ops : Array Oper} {J : Nat → World → Prop} {fuel : Nat} {listed : Array Bool}
theorem JOk.top {j : Nat} : JOk e B H J0 j := fun _ _ => trivial
set_option linter.defProp false
def Jt := @JOk.top
theorem JOk.edge {i j : Nat} {op : Op} {ty : TypeId} {v : Value} (h : JOk e B H J j) (he : SL.edge ops j i = true) : JOk e B H (J1 e.P ops J i op ty ρ v) j := fun w s => ⟨h w s, fun hf => by rw [he] at hf; cases hf⟩
set_option linter.defProp false
def Je := @JOk.edge
theorem JOk.yes {i j : Nat} {op : Op} {ty : TypeId} {v : Value} (h : JOk e B H J j) (hy : Yx e.P op ty ρ (St e.N0 B H) v) : JOk e B H (J1 e.P ops J i op ty ρ v) j :=
  fun w s => ⟨h w s, fun _ => ⟨hy.1, fun f w' d p a g he hw => by subst hw; exact hy.2 f w' d p a g he s⟩⟩
set_option linter.defProp false
def Jy := @JOk.yes
theorem Cx.drawn {id : Nat} {l : List Oper} (hm : e.P.follows .mixedOrders = true) (h : Dx e ds l.toArray (NoPanic Q) J0 l.length (List.replicate l.length false).toArray ρ B H) : Cx e ds (.region id l.toArray true) Q ρ B H :=
  fun a w f b s => by
    have h1 := h a w.drew f b.drew s.drew
    have h2 : anyJ e.P e.r l.toArray (NoPanic Q) J0 l.toArray.size (Array.replicate l.toArray.size false) a w.drew := by simpa using h1
    exact wpIn_mono (wpIn_region_any hm (anyJ_any _ _ _ _ h2)) NoPanic.imp
theorem Dx.done (hr : Region.ready .any ops listed = []) (h : Xx e ds (Q .normal) ρ B H) : Dx e ds ops (NoPanic Q) J fuel listed ρ B H := fun a w f b s => by
  have hq : NoPanic Q .normal a w := h a w f b s
  cases fuel with
  | zero => exact ⟨hr, hq⟩
  | succ n => exact ⟨fun _ => hq, by rw [hr]; simp⟩
theorem Dx.p {i d : Nat} {op : Op} {ty : TypeId} {pos : String} {af : Array Edge} {v : Value} (hi : ops[i]? = some ⟨some d, op, ty, pos, af, none⟩) (ht : tk ops listed i = true)
    (hy : Yx e.P op ty ρ (fun _ => True) v) (hd : Nat.blt d e.nt = true) (k : Dx e ds ops (NoPanic Q) J fuel (listed.setIfInBounds i true) ((d, v) :: ρ) B H) : Dx e ds ops (NoPanic Q) J (fuel + 1) listed ρ B H :=
  fun a w f b s => anyJ_take (T := fun _ => True) hi ht (fun _ _ _ h => h) ⟨hy.1, .inl ⟨by simp [Region.wanted], fun w hw => hy.2 a.eval w _ _ _ _ f.ev hw⟩⟩ trivial
    (anyJ_mono (fun j w h => ⟨h, fun _ => trivial⟩) _ _ _ _ (k _ w (f.put hd v) b s))
theorem Dx.r {i d : Nat} {op : Op} {ty : TypeId} {pos : String} {af : Array Edge} {v : Value} (hi : ops[i]? = some ⟨some d, op, ty, pos, af, none⟩) (ht : tk ops listed i = true)
    (hy : Yx e.P op ty ρ (St e.N0 B H) v) (hd : Nat.blt d e.nt = true) (k : Dx e ds ops (NoPanic Q) (J1 e.P ops J i op ty ρ v) fuel (listed.setIfInBounds i true) ((d, v) :: ρ) B H) : Dx e ds ops (NoPanic Q) J (fuel + 1) listed ρ B H :=
  fun a w f b s => anyJ_take (T := fun w => Yx e.P op ty ρ (fun w' => w' = w) v) hi ht (fun _ _ _ h => h)
    ⟨hy.1, .inl ⟨by simp [Region.wanted], fun w hw => hw.2 a.eval w _ _ _ _ f.ev rfl⟩⟩ ⟨hy.1, fun f' w' d' p a' g he hw => by subst hw; exact hy.2 f' w' d' p a' g he s⟩ (k _ w (f.put hd v) b s)
theorem Dx.pT {i d j t : Nat} {u : Bool} {o : Oper} {op : Op} {ty : TypeId} {pos : String} {af : Array Edge} {v : Value} (hi : ops[i]? = some ⟨some d, op, ty, pos, af, some (j, u)⟩) (hj : ops[j]? = some o) (ho : o.dst = some t) (hv : lk ρ t = some (.bool u)) (ht : tk ops listed i = true)
    (hy : Yx e.P op ty ρ (fun _ => True) v) (hd : Nat.blt d e.nt = true) (k : Dx e ds ops (NoPanic Q) J fuel (listed.setIfInBounds i true) ((d, v) :: ρ) B H) : Dx e ds ops (NoPanic Q) J (fuel + 1) listed ρ B H :=
  fun a w f b s => anyJ_take (T := fun _ => True) hi ht (fun _ _ _ h => h) ⟨hy.1, .inl ⟨by simp [Region.wanted, yielded_of (e := e) f hj ho hv], fun w hw => hy.2 a.eval w _ _ _ _ f.ev hw⟩⟩ trivial
    (anyJ_mono (fun j w h => ⟨h, fun _ => trivial⟩) _ _ _ _ (k _ w (f.put hd v) b s))
theorem Dx.rT {i d j t : Nat} {u : Bool} {o : Oper} {op : Op} {ty : TypeId} {pos : String} {af : Array Edge} {v : Value} (hi : ops[i]? = some ⟨some d, op, ty, pos, af, some (j, u)⟩) (hj : ops[j]? = some o) (ho : o.dst = some t) (hv : lk ρ t = some (.bool u)) (ht : tk ops listed i = true)
    (hy : Yx e.P op ty ρ (St e.N0 B H) v) (hd : Nat.blt d e.nt = true) (k : Dx e ds ops (NoPanic Q) (J1 e.P ops J i op ty ρ v) fuel (listed.setIfInBounds i true) ((d, v) :: ρ) B H) : Dx e ds ops (NoPanic Q) J (fuel + 1) listed ρ B H :=
  fun a w f b s => anyJ_take (T := fun w => Yx e.P op ty ρ (fun w' => w' = w) v) hi ht (fun _ _ _ h => h)
    ⟨hy.1, .inl ⟨by simp [Region.wanted, yielded_of (e := e) f hj ho hv], fun w hw => hw.2 a.eval w _ _ _ _ f.ev rfl⟩⟩ ⟨hy.1, fun f' w' d' p a' g he hw => by subst hw; exact hy.2 f' w' d' p a' g he s⟩ (k _ w (f.put hd v) b s)
theorem Dx.pF {i d j t : Nat} {u : Bool} {o : Oper} {op : Op} {ty : TypeId} {pos : String} {af : Array Edge} (hi : ops[i]? = some ⟨some d, op, ty, pos, af, some (j, u)⟩) (hop : ∀ c, op ≠ .defer c) (hj : ops[j]? = some o) (ho : o.dst = some t) (hv : lk ρ t = some (.bool (!u))) (ht : tk ops listed i = true)
    (hd : Nat.blt d e.nt = true) (k : Dx e ds ops (NoPanic Q) J fuel (listed.setIfInBounds i true) ((d, undef) :: ρ) B H) : Dx e ds ops (NoPanic Q) J (fuel + 1) listed ρ B H :=
  fun a w f b s => anyJ_take (T := fun _ => True) hi ht (fun _ _ _ h => h) ⟨hop, .inr ⟨by simp [Region.wanted, yielded_of (e := e) f hj ho hv], rfl⟩⟩ trivial
    (anyJ_mono (fun j w h => ⟨h, fun _ => trivial⟩) _ _ _ _ (k _ w (f.put hd undef) b s))
def Dstep (e : Env) (ds : List Deferred) (ops : Array Oper) (Q : Exit → Act → World → Prop) (J : Nat → World → Prop) (fuel : Nat) (listed : Array Bool) (ρ : Sl) (B : Frag) (H : HP) (i : Nat) : Prop :=
  Xx e ds (fun a w => wpOpIn (FW e.r) 0 e.P ops Q i (fun a' w' => (w' = w ∨ J i w') ∧ anyJ e.P e.r ops Q J fuel (listed.setIfInBounds i true) a' w') a w) ρ B H
theorem Dx.all {is : List Nat} (hr : Region.ready .any ops listed = is) (hne : is ≠ []) (h : ∀ i ∈ is, Dstep e ds ops Q J fuel listed ρ B H i) : Dx e ds ops Q J (fuel + 1) listed ρ B H :=
  fun a w f b s => ⟨fun h0 => absurd (hr ▸ h0) hne, fun i hi => h i (hr ▸ hi) a w f b s⟩
theorem Dx.one {i : Nat} (hr : Region.ready .any ops listed = [i]) (h : Dstep e ds ops Q J fuel listed ρ B H i) : Dx e ds ops Q J (fuel + 1) listed ρ B H :=
  Dx.all hr (by simp) fun j hj => by rw [List.mem_singleton.1 hj]; exact h
theorem Dx.two {i j : Nat} (hr : Region.ready .any ops listed = [i, j]) (h : Dstep e ds ops Q J fuel listed ρ B H i) (h2 : Dstep e ds ops Q J fuel listed ρ B H j) : Dx e ds ops Q J (fuel + 1) listed ρ B H :=
  Dx.all hr (by simp) fun k hk => by
    simp at hk
    rcases hk with rfl | rfl
    · exact h
    · exact h2
theorem Dx.three {i j l : Nat} (hr : Region.ready .any ops listed = [i, j, l]) (h : Dstep e ds ops Q J fuel listed ρ B H i) (h2 : Dstep e ds ops Q J fuel listed ρ B H j) (h3 : Dstep e ds ops Q J fuel listed ρ B H l) : Dx e ds ops Q J (fuel + 1) listed ρ B H :=
  Dx.all hr (by simp) fun k hk => by
    simp at hk
    rcases hk with rfl | rfl | rfl
    · exact h
    · exact h2
    · exact h3
theorem Dstep.o {i d : Nat} {op : Op} {ty : TypeId} {pos : String} {af : Array Edge} {Φ : Value → Frag → HP → Prop} (hi : ops[i]? = some ⟨some d, op, ty, pos, af, none⟩) (h : Ox e ds op ty ρ B H Φ) (hd : Nat.blt d e.nt = true)
    (k : ∀ v B' H', Φ v B' H' → B.le B' → JOk e B' H' J i ∧ Dx e ds ops Q J fuel (listed.setIfInBounds i true) ((d, v) :: ρ) B' H') : Dstep e ds ops Q J fuel listed ρ B H i := by
  intro a w f b s
  unfold wpOpIn
  simp only [hi]
  rw [if_pos (by simp [Region.wanted])]
  exact Oper.wpIn_FW h.1 (h.2 a w _ _ _ _ _ _ f b s fun v B' H' w' hΦ hB b' s' => ⟨.inr ((k v B' H' hΦ hB).1 w' s'), (k v B' H' hΦ hB).2 _ w' (f.put hd v) b' s'⟩)
theorem Dstep.o0 {i : Nat} {op : Op} {ty : TypeId} {pos : String} {af : Array Edge} {Φ : Value → Frag → HP → Prop} (hi : ops[i]? = some ⟨none, op, ty, pos, af, none⟩) (h : Ox e ds op ty ρ B H Φ)
    (k : ∀ v B' H', Φ v B' H' → B.le B' → JOk e B' H' J i ∧ Dx e ds ops Q J fuel (listed.setIfInBounds i true) ρ B' H') : Dstep e ds ops Q J fuel listed ρ B H i := by
  intro a w f b s
  unfold wpOpIn
  simp only [hi]
  rw [if_pos (by simp [Region.wanted])]
  exact Oper.wpIn_FW h.1 (h.2 a w _ _ _ _ _ _ f b s fun v B' H' w' hΦ hB b' s' => ⟨.inr ((k v B' H' hΦ hB).1 w' s'), (k v B' H' hΦ hB).2 _ w' (f.put_none v) b' s'⟩)
theorem Dstep.oT {i d j t : Nat} {u : Bool} {o : Oper} {op : Op} {ty : TypeId} {pos : String} {af : Array Edge} {Φ : Value → Frag → HP → Prop} (hi : ops[i]? = some ⟨some d, op, ty, pos, af, some (j, u)⟩) (hj : ops[j]? = some o) (ho : o.dst = some t) (hv : lk ρ t = some (.bool u)) (h : Ox e ds op ty ρ B H Φ) (hd : Nat.blt d e.nt = true)
    (k : ∀ v B' H', Φ v B' H' → B.le B' → JOk e B' H' J i ∧ Dx e ds ops Q J fuel (listed.setIfInBounds i true) ((d, v) :: ρ) B' H') : Dstep e ds ops Q J fuel listed ρ B H i := by
  intro a w f b s
  unfold wpOpIn
  simp only [hi]
  rw [if_pos (by simp [Region.wanted, yielded_of (e := e) f hj ho hv])]
  exact Oper.wpIn_FW h.1 (h.2 a w _ _ _ _ _ _ f b s fun v B' H' w' hΦ hB b' s' => ⟨.inr ((k v B' H' hΦ hB).1 w' s'), (k v B' H' hΦ hB).2 _ w' (f.put hd v) b' s'⟩)
theorem Xx.ifD {t : Nat} {p : Prop} [Decidable p] (hv : lk ρ t = some (.bool (decide p))) (h1 : p → Xx e ds K ((t, .bool true) :: ρ) B H) (h2 : ¬ p → Xx e ds K ((t, .bool false) :: ρ) B H) : Xx e ds K ρ B H := by
  by_cases h : p
  · refine (h1 h).sub (Sub.cons ?_ (Sub.refl ρ)); rw [hv]; simp [h]
  · refine (h2 h).sub (Sub.cons ?_ (Sub.refl ρ)); rw [hv]; simp [h]
theorem Xx.ifN {t : Nat} {p : Prop} [Decidable p] (hv : lk ρ t = some (.bool (!decide p))) (h1 : ¬ p → Xx e ds K ((t, .bool true) :: ρ) B H) (h2 : p → Xx e ds K ((t, .bool false) :: ρ) B H) : Xx e ds K ρ B H := by
  by_cases h : p
  · refine (h2 h).sub (Sub.cons ?_ (Sub.refl ρ)); rw [hv]; simp [h]
  · refine (h1 h).sub (Sub.cons ?_ (Sub.refl ρ)); rw [hv]; simp [h]
theorem Xx.ifB {t : Nat} {b : Bool} (hv : lk ρ t = some (.bool b)) (h1 : b = true → Xx e ds K ((t, .bool true) :: ρ) B H) (h2 : b = false → Xx e ds K ((t, .bool false) :: ρ) B H) : Xx e ds K ρ B H := by
  cases b with
  | true => exact (h1 rfl).sub (Sub.cons hv (Sub.refl ρ))
  | false => exact (h2 rfl).sub (Sub.cons hv (Sub.refl ρ))
end
end Go.SL
namespace Go.SL
open Go.RowKit
def CtB (P : Program) (f : FuncId) (args : List Value) (B : Frag) (Φ : Value → Frag → Prop) : Prop :=
  (∀ args w, (callFunc f args).run P w = .ok (.enter f args) w) ∧
  ∀ (N0 : Nat) (w : World) (R : HP), St N0 B R w → Calls P f args.toArray w fun x w' => ∃ v B', x = .returned v ∧ Φ v B' ∧ B.le B' ∧ Below N0 w w' ∧ St N0 B' R w'
def FinB (N0 : Nat) (w0 : World) (R : HP) (B : Frag) (Φ : Value → Frag → Prop) (x : Ending) (w' : World) : Prop :=
  ∃ v B', x = .returned v ∧ Φ v B' ∧ B.le B' ∧ Below N0 w0 w' ∧ St N0 B' R w'
abbrev CtP (P : Program) (f : FuncId) (args : List Value) (B : Frag) (v : Value) : Prop := CtB P f args B fun v' B' => v' = v ∧ B' = B
section
variable {e : Env} {ds : List Deferred} {Q : Exit → Act → World → Prop} {ρ ρ' : Sl} {B B' B0 : Frag} {H H' R : HP} {K : Act → World → Prop} {P : Program}
theorem CtB.ct {f : FuncId} {args : List Value} {Φ : Value → Frag → Prop} (h : CtB P f args B Φ) : Ct P f args B 1 (fun v B' H' => Φ v B' ∧ H' = 1) :=
  ⟨h.1, fun N0 w R s => (h.2 N0 w R (by rw [← one_star R]; exact s)).mono fun x w' ⟨v, B', h1, h2, h3, h4, h5⟩ => ⟨v, B', 1, h1, ⟨h2, rfl⟩, h3, h4, by rw [one_star]; exact h5⟩⟩
theorem CtB.of_body {f : FuncId} {fn : Func} {c : Code} {args : List Value} {Φ : Value → Frag → Prop} {nt : Nat}
    (hf : P.funcs[f]? = some fn) (hb : fn.body = some c) (hnt : fn.ntmps = nt) (hn : (fn.name == "runtime.NumGoroutine") = false) (hs : Nat.ble args.length nt = true)
    (h : ∀ (N0 : Nat) (w0 : World) (R : HP), Cx ⟨P, none, N0, w0, nt⟩ [] c (bodyPost P fn (FinB N0 w0 R B Φ)) (mk0 0 args) B R) : CtB P f args B Φ :=
  ⟨enters_of hf hb hn, fun N0 w R s => by
    refine (callsIn_FW (r := none) (n := 0)).1 (callsIn_of_wp hf hb trivial ?_)
    rw [hnt]
    exact h N0 w R _ w (Fr.start hs) (Below.refl _ _) s⟩
theorem CtB.of_bodyM {f : FuncId} {fn : Func} {c : Code} {args : List Value} {Φ : Value → Frag → Prop} {nt : Nat}
    (hf : P.funcs[f]? = some fn) (hb : fn.body = some c) (hnt : fn.ntmps = nt) (hn : (fn.name == "runtime.NumGoroutine") = false) (hs : Nat.ble args.length nt = true)
    (h : ∀ (N0 : Nat) (w0 : World) (R : HP), Cx ⟨P, none, N0, w0, nt⟩ [] c (bodyPostM (FW none) 0 P fn (FinB N0 w0 R B Φ)) (mk0 0 args) B R) : CtB P f args B Φ :=
  ⟨enters_of hf hb hn, fun N0 w R s => by
    refine (callsIn_FW (r := none) (n := 0)).1 (callsIn_of_wp_marks hf hb trivial ?_)
    rw [hnt]
    exact h N0 w R _ w (Fr.start hs) (Below.refl _ _) s⟩
def rv (ρ : Sl) : ResultVar → Option Value
  | .tmp t => lk ρ t
  | .cell _ _ => none
def rvs (ρ : Sl) : List ResultVar → Option (List Value)
  | [] => some []
  | x :: xs => match rv ρ x, rvs ρ xs with
    | some v, some vs => some (v :: vs)
    | _, _ => none
theorem Xx.rB {fn : Func} {N0 nt : Nat} {w0 : World} {r : Option Nat} {Φ : Value → Frag → Prop} {v : Value} (hr : ∀ a w, Fr ρ nt [] a → St N0 B H w → (results fn a.tmps).run P w = .ok v w)
    (hΦ : Φ v B) (hB : B0.le B) (hH : H = R) : Xx ⟨P, r, N0, w0, nt⟩ [] (bodyPost P fn (FinB N0 w0 R B0 Φ) .ret) ρ B H := fun a w f b s =>
  ⟨f.defers, v, hr a w f s, v, B, rfl, hΦ, hB, b, hH ▸ s⟩
theorem Xx.rB1 {fn : Func} {N0 nt : Nat} {w0 : World} {r : Option Nat} {Φ : Value → Frag → Prop} {t : Tmp} {v : Value} (hr : fn.results = #[.tmp t]) (hv : lk ρ t = some v)
    (hΦ : Φ v B) (hB : B0.le B) (hH : H = R) : Xx ⟨P, r, N0, w0, nt⟩ [] (bodyPost P fn (FinB N0 w0 R B0 Φ) .ret) ρ B H :=
  Xx.rB (fun a w f _ => by rw [results_tmp hr]; have := f.get t v hv; simp [this]) hΦ hB hH
theorem Xx.rB2 {fn : Func} {N0 nt : Nat} {w0 : World} {r : Option Nat} {Φ : Value → Frag → Prop} {t u : Tmp} {v x : Value} (hr : fn.results = #[.tmp t, .tmp u]) (hv : lk ρ t = some v) (hx : lk ρ u = some x)
    (hΦ : Φ (.tuple #[v, x]) B) (hB : B0.le B) (hH : H = R) : Xx ⟨P, r, N0, w0, nt⟩ [] (bodyPost P fn (FinB N0 w0 R B0 Φ) .ret) ρ B H :=
  Xx.rB (fun a w f _ => by rw [results_tmp2 hr]; have h1 := f.get t v hv; have h2 := f.get u x hx; simp [h1, h2]) hΦ hB hH
theorem Xx.rBc {fn : Func} {N0 nt size : Nat} {w0 : World} {r : Option Nat} {Φ : Value → Frag → Prop} {t u : Tmp} {ty : TypeId} {x : Value} {d : TypeDesc} {vs : List Value} {b : Nat} {et : TypeId}
    (hr : fn.results = #[.cell t ty, .tmp u]) (ht : P.underlying ty = some d) (hd : aggB d = true) (hi : (P.info? ty).map (·.size) = some size) (hv : lk ρ t = some (.pointer (some ⟨b, 0, none⟩))) [hp : PickB H b (.cells vs.toArray et (0, 0)) R] (hl : vs.length = size) (hx : lk ρ u = some x)
    (hΦ : Φ (.tuple #[.agg vs.toArray, x]) B) (hB : B0.le B) : Xx ⟨P, r, N0, w0, nt⟩ [] (bodyPost P fn (FinB N0 w0 R B0 Φ) .ret) ρ B H := fun a w f bl s => by
  have s' : St N0 B (blk b (.cells vs.toArray et (0, 0)) * R) w := hp.eq ▸ s
  have hl := run_loadVar_row (P := P) w b et ty vs.toArray (0, 0) d s'.blk.1 ht (by cases d <;> simp_all [aggB]) (by rw [hi]; simp [hl])
  have h1 := f.get t _ hv
  have h2 := f.get u _ hx
  refine ⟨f.defers, .tuple #[.agg vs.toArray, x], ?_, _, B, rfl, hΦ, hB, bl, s'.drop⟩
  simp [results, hr, h1, h2, Sem.run_bind, asAddr, hl]
theorem Ox.cb {x : Operand} {xs : Array Operand} {ts : Array TypeId} {ty : TypeId} {fi : FuncId} {first caps : Array Value} {args vs : List Value} {Φ : Value → Frag → Prop}
    (hf : ev ρ x = some (.func (.func fi) first caps)) (hx : evl ρ xs.toList = some vs) (ha : first.toList ++ vs ++ caps.toList = args) (hc : CtB e.P fi args B Φ) :
    Ox e ds (.call { callee := .value x, args := xs, argTypes := ts }) ty ρ B H (fun v B' H' => H' = H ∧ Φ v B') :=
  ⟨fun _ h => (by cases h), fun a w dst pos after guard K Q f b s k => (Ox.call (ds := ds) hf hx ha hc.ct (one_star H).symm).2 a w dst pos after guard K Q f b s
    fun v B' H' w' ⟨H1, h1, h2, h3⟩ hB hb hs => k v B' H' w' ⟨by rw [h1, h3, one_star], h2⟩ hB hb hs⟩
variable {ops : Array Oper} {rest : List Oper}
theorem Lx.cb {x : Operand} {xs : Array Operand} {ts : Array TypeId} {ty : TypeId} {pos : String} {af : Array Edge} {d : Nat} {fi : FuncId} {first caps : Array Value} {args vs : List Value} {Φ : Value → Frag → Prop}
    (hf : ev ρ x = some (.func (.func fi) first caps)) (hx : evl ρ xs.toList = some vs) (ha : first.toList ++ vs ++ caps.toList = args) (hc : CtB e.P fi args B Φ) (hd : Nat.blt d e.nt = true)
    (k : ∀ v B', Φ v B' → B.le B' → Lx e ds ops Q rest ((d, v) :: ρ) B' H) : Lx e ds ops Q (⟨some d, .call { callee := .value x, args := xs, argTypes := ts }, ty, pos, af, none⟩ :: rest) ρ B H :=
  Lx.o (Ox.cb hf hx ha hc) hd fun v B' H' ⟨e1, hΦ⟩ hB => by subst e1; exact k v B' hΦ hB
theorem Lx.cp {x : Operand} {xs : Array Operand} {ts : Array TypeId} {ty : TypeId} {pos : String} {af : Array Edge} {d : Nat} {fi : FuncId} {first caps : Array Value} {args vs : List Value} {v : Value}
    (hf : ev ρ x = some (.func (.func fi) first caps)) (hx : evl ρ xs.toList = some vs) (ha : first.toList ++ vs ++ caps.toList = args) (hc : CtP e.P fi args B v) (hd : Nat.blt d e.nt = true)
    (k : Lx e ds ops Q rest ((d, v) :: ρ) B H) : Lx e ds ops Q (⟨some d, .call { callee := .value x, args := xs, argTypes := ts }, ty, pos, af, none⟩ :: rest) ρ B H :=
  Lx.cb hf hx ha hc hd fun v' B' ⟨e1, e2⟩ hB => by subst e1; subst e2; exact k
theorem Cx.loopK {c : Code} {σ : Sl} (hσ : Sub ρ σ) (I : Nat → Sl → Frag → HP → Prop) {m : Nat} (h0 : I m ρ' B H) (hs : Sub ρ (ρ' ++ σ))
    (round : ∀ m ρ' B H, I m ρ' B H → Cx e ds c (Exit.then (LK e ds (fun m ρ B H => ∃ ρ', ρ = ρ' ++ σ ∧ I m ρ' B H) m) Q) (ρ' ++ σ) B H) : Cx e ds (.loop c) Q ρ B H :=
  Cx.loop (fun m ρ B H => ∃ ρ', ρ = ρ' ++ σ ∧ I m ρ' B H) ⟨ρ', rfl, h0⟩ hs fun m ρ B H ⟨ρ', h1, h2⟩ => by subst h1; exact round m ρ' B H h2
theorem Xx.againK {σ : Sl} {I : Nat → Sl → Frag → HP → Prop} {m m' : Nat} (hi : I m' ρ' B H) (hm : m' < m) (hs : Sub ρ (ρ' ++ σ)) :
    Xx e ds (LK e ds (fun m ρ B H => ∃ ρ', ρ = ρ' ++ σ ∧ I m ρ' B H) m) ρ B H := Xx.again (I := fun m ρ B H => ∃ ρ', ρ = ρ' ++ σ ∧ I m ρ' B H) ⟨ρ', rfl, hi⟩ hm hs
theorem Cx.cutK {x y : Code} {ds' : List Deferred} {σ : Sl} (hσ : Sub ρ σ) (M : Sl → Frag → HP → Prop) (hx : Cx e ds x (Exit.then (MK e ds' (fun ρ B H => ∃ ρ', ρ = ρ' ++ σ ∧ M ρ' B H)) Q) ρ B H) (hy : ∀ ρ' B H, M ρ' B H → Cx e ds' y Q (ρ' ++ σ) B H) : Cx e ds (.seq x y) Q ρ B H :=
  Cx.cut _ hx fun ρ B H ⟨ρ', h1, h2⟩ => by subst h1; exact hy ρ' B H h2
theorem Xx.mkK {σ : Sl} {M : Sl → Frag → HP → Prop} (hm : M ρ' B H) (hs : Sub ρ (ρ' ++ σ)) : Xx e ds (MK e ds (fun ρ B H => ∃ ρ', ρ = ρ' ++ σ ∧ M ρ' B H)) ρ B H := Xx.mk (M := fun ρ B H => ∃ ρ', ρ = ρ' ++ σ ∧ M ρ' B H) ⟨ρ', rfl, hm⟩ hs
def PL (P : Program) (t : TypeId) (ps : List (Nat × Nat)) : Prop := ∃ fs, P.underlying t = some (.struct fs) ∧ (fs.mapM fun f => do pure (f.offset, ← sizeOf f.type) : Sem (Array (Nat × Nat))).run P = fun w => .ok ps.toArray w
theorem PL.of {t : TypeId} {ps : List (Nat × Nat)} {fs : Array Field} (h1 : P.underlying t = some (.struct fs)) (h2 : (fs.toList.map fun f => (f.offset, (P.info? f.type).map (·.size))) = ps.map fun p => (p.1, some p.2)) : PL P t ps := by
  refine ⟨fs, h1, ?_⟩
  funext w
  obtain ⟨l⟩ := fs
  simp only [] at h2
  have key : ∀ (l : List Field) (ps : List (Nat × Nat)), (l.map fun f => (f.offset, (P.info? f.type).map (·.size))) = ps.map (fun p => (p.1, some p.2)) →
      (l.mapM fun f => (do pure (f.offset, ← sizeOf f.type) : Sem (Nat × Nat))).run P w = .ok ps w := by
    intro l
    induction l with
    | nil => intro ps h; simp at h; subst h; simp [Sem.run_pure]
    | cons f l ih =>
      intro ps h
      cases ps with
      | nil => simp at h
      | cons p ps =>
        simp only [List.map_cons, List.cons.injEq, Prod.mk.injEq] at h
        obtain ⟨⟨h3, h4⟩, h5⟩ := h
        cases hq : P.info? f.type with
        | none => rw [hq] at h4; simp at h4
        | some i =>
          rw [hq] at h4
          simp at h4
          have h6 := ih ps h5
          have h7 : (sizeOf f.type).run P w = .ok p.2 w := by simp [sizeOf, typeInfo, hq, h4]
          simp only [List.mapM_cons, Sem.run_bind, h7, Result.andThen, Sem.run_pure, h6, h3]
  have := key l ps (by simpa using h2)
  rw [Array.mapM_eq_mapM_toList]
  rw [map_eq_pure_bind]
  simp only [Sem.run_bind, this, Result.andThen, Sem.run_pure]
def fillL (ps : List (Nat × Nat)) : List Value → List (Nat × Value) → Option (List Value)
  | cs, [] => some cs
  | cs, (i, v) :: rest => match ps[i]? with
    | some (off, size) => bif Nat.beq v.cells.size size && Nat.ble (off + size) cs.length then fillL ps (cs.take off ++ v.cells.toList ++ cs.drop (off + size)) rest else none
    | none => none
theorem fillL_fill {ps : List (Nat × Nat)} : ∀ {parts : List (Nat × Value)} {cs out : List Value}, fillL ps cs parts = some out → Instr.fill (ps.toArray[·]?) cs.toArray parts = some out.toArray := by
  intro parts
  induction parts with
  | nil => intro cs out h; simp [fillL] at h; simp [Instr.fill, h]
  | cons p parts ih =>
    obtain ⟨i, v⟩ := p
    intro cs out h
    simp only [fillL] at h
    cases hq : ps[i]? with
    | none => rw [hq] at h; simp at h
    | some q =>
      obtain ⟨off, size⟩ := q
      rw [hq] at h
      simp only [cond_eq_ite, Bool.and_eq_true] at h
      split at h
      · rename_i hc
        have h1 := Nat.eq_of_beq_eq_true hc.1
        have h2 : off + size ≤ cs.length := by simpa using hc.2
        have h3 : ps.toArray[i]? = some (off, size) := by simpa using hq
        simp only [Instr.fill, h3]
        rw [if_neg (by simp [h1]; omega)]
        have key : (v.cells.zipIdx.foldl (fun cs x => cs.setIfInBounds (off + x.2) x.1) cs.toArray) = (cs.take off ++ v.cells.toList ++ cs.drop (off + size)).toArray := by
          rw [← Array.foldl_toList, Array.toList_zipIdx]
          have := fold_set off v.cells.toList 0 cs (by simp; omega)
          rw [this]
          simp [h1]
        rw [key]
        exact ih h
      · cases h
def evps (ρ : Sl) : List (Nat × Operand) → Option (List (Nat × Value))
  | [] => some []
  | (i, x) :: xs => match ev ρ x, evps ρ xs with
    | some v, some vs => some ((i, v) :: vs)
    | _, _ => none
theorem evps_map {f : Operand → Value} (h : Ev ρ f) : ∀ {xs : List (Nat × Operand)} {vs : List (Nat × Value)}, evps ρ xs = some vs → xs.map (fun (i, x) => (i, f x)) = vs := by
  intro xs
  induction xs with
  | nil => intro vs hv; simp [evps] at hv; simp [← hv]
  | cons a xs ih =>
    obtain ⟨i, x⟩ := a
    intro vs hv
    simp only [evps] at hv
    split at hv
    · rename_i v us hx hs
      injection hv with hv
      subst hv
      simp [h x v hx, ih hs]
    · simp at hv
theorem bld {S : World → Prop} {t ty : TypeId} {parts : Array (Nat × Operand)} {vs : List (Nat × Value)} {zs cs : List Value} {ps : List (Nat × Nat)} {size bytes : Nat} (hz : TI P t zs size bytes) (hp : PL P t ps) (hv : evps ρ parts.toList = some vs) (hfn : (fillL ps zs vs).bind (frc · some) = some cs) :
    Yx P (.build t parts) ty ρ S (.agg cs.toArray) := .of (fun _ h => by cases h) fun f w _ _ _ _ he _ => by
  obtain ⟨i, zv, z1, z2, z3, z4, z5, z6, z7⟩ := hz
  obtain ⟨fs, p1, p2⟩ := hp
  have hf : fillL ps zs vs = some cs := by
    cases hq : fillL ps zs vs with
    | none => rw [hq] at hfn; simp at hfn
    | some c => rw [hq] at hfn; rw [frc_eq hfn]
  have hpm : (parts.map fun (i, x) => (i, f x)) = vs.toArray := by
    apply Array.toList_inj.1
    simp [evps_map he hv]
  have hfl := fillL_fill hf
  have hpw := congrFun p2 w
  have hb : (Instr.build t vs.toArray).run P w = .ok (.agg cs.toArray) w := by
    simp only [Instr.build, Sem.run_bind, zeroValue, typeInfo, run_program, z1, Sem.run_pure, Result.andThen, z2, run_underlying p1, hpw, z3, hfl]
  simp only [execOp, hpm, Sem.run_bind, hb, Result.andThen, Sem.run_pure]
end
end Go.SL
namespace Go.SL
open Go.RowKit
def Yd (P : Program) (l : Nat) (args : List Value) (B : Frag) (pre : HP) (Φ : Bool → Frag → HP → Prop) : Prop :=
  ∀ (N0 : Nat) (w : World) (R : HP), St N0 B (pre * R) w → ∃ fn tmps assign body, (Instr.yield l args.toArray).run P w = .ok (.round l fn tmps assign body) w ∧
    RoundIn (FW none) 0 P l fn tmps assign body w fun x w' => ∃ t B' H', x = .returned (.bool t) ∧ Φ t B' H' ∧ B.le B' ∧ Below N0 w w' ∧ St N0 B' (H' * R) w'
def It (P : Program) (gf : FuncId) (caps : List Value) {α : Type} (enc : α → List Value) (xs : List α) (B : Frag) (own : HP) : Prop :=
  (∀ args w, (callFunc gf args).run P w = .ok (.enter gf args) w) ∧
  ∀ (l : Nat) (J Jx : List α → Frag → HP → Prop),
    (∀ pre x post B1 H1, xs = pre ++ x :: post → B.le B1 → J pre B1 H1 → Yd P l (enc x) B1 H1 fun t B' H' => (t = true ∧ J (pre ++ [x]) B' H') ∨ (t = false ∧ Jx (pre ++ [x]) B' H')) →
    ∀ B1 H1, B.le B1 → J [] B1 H1 → Ct P gf (.func (.yield l) #[] #[] :: caps) B1 (own * H1) fun v B' H' => ∃ H2, H' = own * H2 ∧ (J xs B' H2 ∨ ∃ pre post, xs = pre ++ post ∧ Jx pre B' H2)
section
variable {e : Env} {ds : List Deferred} {Q : Exit → Act → World → Prop} {ρ ρ' : Sl} {B B' B0 B1 : Frag} {H H' R : HP} {K : Act → World → Prop} {P : Program}
theorem Ox.yield {x : Operand} {xs : Array Operand} {ts : Array TypeId} {ty : TypeId} {l : Nat} {vs : List Value} {pre R : HP} {Φ : Bool → Frag → HP → Prop}
    (hf : ev ρ x = some (.func (.yield l) #[] #[])) (hx : evl ρ xs.toList = some vs) (hy : Yd e.P l vs B pre Φ) (hH : H = pre * R) :
    Ox e ds (.call { callee := .value x, args := xs, argTypes := ts }) ty ρ B H (fun v B' H' => ∃ t H1, v = .bool t ∧ H' = H1 * R ∧ Φ t B' H1) :=
  ⟨fun _ h => (by cases h), fun a w dst pos after guard K Q f b s k => by
    have hfv := f.ev _ _ hf
    have hxv : xs.map a.eval = vs.toArray := by
      have := f.ev.map hx
      apply Array.toList_inj.1
      simp [this]
    obtain ⟨fn, tmps, assign, body, hr, hR⟩ := hy e.N0 w R (hH ▸ s)
    have hrun : (execOp a.eval ⟨dst, .call { callee := .value x, args := xs, argTypes := ts }, ty, pos, after, guard⟩).run e.P w = .ok (.round l fn tmps assign body) w := by
      simp only [execOp, resolve, hfv, Deferred.ofValue, hxv, Sem.run_bind, Sem.run_pure, Result.andThen, invoke]
      simpa using hr
    rw [hrun]
    refine ⟨fun h => by simp [FW] at h, RoundIn.mono (F := FW e.r) hR ?_⟩
    rintro y w' ⟨t, B', H', rfl, hΦ, hB, b', s'⟩
    exact k (.bool t) B' _ w' ⟨t, H', rfl, rfl, hΦ⟩ hB (b.trans b') s'⟩
variable {ops : Array Oper} {rest : List Oper}
theorem Lx.yield {x : Operand} {xs : Array Operand} {ts : Array TypeId} {ty : TypeId} {pos : String} {af : Array Edge} {d l : Nat} {vs : List Value} {pre R : HP} {Φ : Bool → Frag → HP → Prop}
    (hf : ev ρ x = some (.func (.yield l) #[] #[])) (hx : evl ρ xs.toList = some vs) (hy : Yd e.P l vs B pre Φ) (hH : H = pre * R) (hd : Nat.blt d e.nt = true)
    (k : ∀ t B' H', Φ t B' H' → B.le B' → Lx e ds ops Q rest ((d, .bool t) :: ρ) B' (H' * R)) : Lx e ds ops Q (⟨some d, .call { callee := .value x, args := xs, argTypes := ts }, ty, pos, af, none⟩ :: rest) ρ B H :=
  Lx.o (Ox.yield hf hx hy hH) hd fun v B' H' ⟨t, H1, e1, e2, hΦ⟩ hB => by subst e1; subst e2; exact k t B' H1 hΦ hB
def asgn : List Tmp → List Value → Sl → Sl
  | p :: ps, v :: vs, ρ => asgn ps vs ((p, v) :: ρ)
  | _, _, ρ => ρ
theorem asgn_fr {nt : Nat} : ∀ (ps : List Tmp) (vs : List Value) (ρ : Sl) (t : Array Value), ps.all (fun p => Nat.blt p nt) = true → Fr ρ nt [] ⟨t, []⟩ →
    Fr (asgn ps vs ρ) nt [] ⟨(ps.zip vs).foldl (fun t (x : Tmp × Value) => t.setIfInBounds x.1 x.2) t, []⟩ := by
  intro ps
  induction ps with
  | nil => intro vs ρ t _ h; simpa [asgn] using h
  | cons p ps ih =>
    intro vs ρ t hp h
    cases vs with
    | nil => simpa [asgn] using h
    | cons v vs =>
      simp only [List.all_cons, Bool.and_eq_true] at hp
      simp only [asgn, List.zip_cons_cons, List.foldl_cons]
      exact ih vs _ _ hp.2 (h.put hp.1 v)
def RQ {α : Type} (N0 : Nat) (w0 : World) (B1 : Frag) (J : List α → Frag → HP → Prop) (Jx : Code → List α → Frag → HP → Prop) (pre : List α) (F : HP) : Exit → Act → World → Prop
  | .normal, _, w => ∃ B' H', J pre B' H' ∧ B1.le B' ∧ Below N0 w0 w ∧ St N0 B' (H' * F) w
  | .ret, _, w => ∃ B' H', Jx .ret pre B' H' ∧ B1.le B' ∧ Below N0 w0 w ∧ St N0 B' (H' * F) w
  | .exit id, _, w => ∃ B' H', Jx (.exit id) pre B' H' ∧ B1.le B' ∧ Below N0 w0 w ∧ St N0 B' (H' * F) w
  | _, _, _ => False
variable {α : Type} {N0 nt : Nat} {w0 : World} {r : Option Nat} {J : List α → Frag → HP → Prop} {Jx : Code → List α → Frag → HP → Prop} {pre : List α} {F : HP}
theorem Xx.rqn (hJ : J pre B H') (hB : B1.le B) (hH : H = H' * F) : Xx ⟨P, r, N0, w0, nt⟩ ds (RQ N0 w0 B1 J Jx pre F .normal) ρ B H := fun _ _ _ b s => ⟨B, H', hJ, hB, b, hH ▸ s⟩
theorem St.putObj {o o' : Obj} {b : Nat} {w : World} (h : St N0 B (SL.blk b o * R) w) : St N0 B (SL.blk b o' * R) (w.putObj b o') ∧ Below N0 w (w.putObj b o') := by
  have hlt : b < w.heap.size := (Array.getElem?_eq_some_iff.1 h.blk.1).1
  exact ⟨h.put (World.putObj_heap_same hlt) (fun k hk => World.putObj_heap_other hk) (by simp), ⟨rfl, rfl, rfl, by simp, fun k hk => World.putObj_heap_other (by have := h.blk.2.2; omega)⟩⟩
abbrev mkRec (fn : FuncId) (tmps : Array Value) (ps : Array Tmp) (assign body : Code) (D : Nat) (st : LoopState) (pe : Option Code) : Loop :=
  { state := st, pending := pe, fn, tmps, params := ps, assign, body, defers := D }
abbrev dfr : Obj := .deferred (some [])
abbrev mark (D : Nat) : Deferred := { target := .collected D, args := #[] }
theorem Cx.rangeF {g : Operand} {ps : Array Tmp} {assign body : Code} {gf : FuncId} {caps : List Value} {enc : α → List Value} {xs : List α} {own H1 R : HP}
    (hr : e.r = none) (hg : ev ρ g = some (.func (.func gf) #[] caps.toArray)) (hIt : It e.P gf caps enc xs B own) (hH : H = own * (H1 * R)) (hnt : ps.toList.all (fun p => Nat.blt p e.nt) = true) (hps : ∀ x, (enc x).length = ps.size)
    (J : List α → Frag → HP → Prop) (Jx : Code → List α → Frag → HP → Prop) (AS : List α → α → Frag → Sl → Frag → HP → Prop) (h0 : J [] B H1)
    (hassign : ∀ (l N0 : Nat) (w0 : World) pre x post B1 H1 (F : HP) (K : Act → World → Prop), xs = pre ++ x :: post → B.le B1 → J pre B1 H1 →
      (∀ ρ' B' H', AS pre x B1 ρ' B' H' → B1.le B' → Xx ⟨e.P, some l, N0, w0, e.nt⟩ [] K ρ' B' (H' * F)) →
      Cx ⟨e.P, some l, N0, w0, e.nt⟩ [] assign (Exit.then K (fun _ _ _ => False)) (asgn ps.toList (enc x) ρ) B1 (H1 * F))
    (hbody : ∀ (l N0 : Nat) (w0 : World) pre x post B1 (F : HP) ρ' B' H', xs = pre ++ x :: post → B.le B1 → B1.le B' → AS pre x B1 ρ' B' H' → Cx ⟨e.P, some l, N0, w0, e.nt⟩ [] body (RQ N0 w0 B1 J Jx (pre ++ [x]) F) ρ' B' (H' * F))
    (hdone : ∀ D B' H', B.le B' → J xs B' H' → Xx e (mark D :: ds) (Q .normal) ρ B' (H' * (blk D dfr * (own * R))))
    (hstop : ∀ D c pre post B' H', xs = pre ++ post → B.le B' → Jx c pre B' H' → Cx e (mark D :: ds) c Q ρ B' (H' * (blk D dfr * (own * R)))) :
    Cx e ds (.rangeFunc g ps assign body) Q ρ B H := by
  intro a w f b s
  refine wpIn_rangeFunc ?_
  intro fn _
  have hgv := f.ev _ _ hg
  have s1 := (s.alloc dfr).alloc (.loop (mkRec fn a.tmps ps assign body w.heap.size .ready none))
  have b1 : Below e.N0 e.w0 ((w.alloc dfr).alloc (.loop (mkRec fn a.tmps ps assign body w.heap.size .ready none))) := (b.alloc s.sz _).alloc (s.alloc dfr).sz _
  rw [World.size_alloc, hH] at s1
  generalize hl : w.heap.size + 1 = l at *
  generalize hD : w.heap.size = D at *
  generalize hw1 : (w.alloc dfr).alloc (.loop (mkRec fn a.tmps ps assign body D .ready none)) = w1 at *
  have s2 : St e.N0 B ((own * (H1 * (blk l (.loop (mkRec fn a.tmps ps assign body D .ready none)) * blk D dfr))) * R) w1 := by
    exact s1.of_eq (by ac_rfl)
  have heg := hIt.1 #[.func (.yield l) #[] #[], ] w1
  let J' : List α → Frag → HP → Prop := fun pre B' H' => ∃ H1, H' = H1 * (blk l (.loop (mkRec fn a.tmps ps assign body D .ready none)) * blk D dfr) ∧ J pre B' H1
  let Jx' : List α → Frag → HP → Prop := fun pre B' H' => ∃ c H1, H' = H1 * (blk l (.loop (mkRec fn a.tmps ps assign body D .done (some c))) * blk D dfr) ∧ Jx c pre B' H1
  have hct := hIt.2 l J' Jx' ?round B _ (Fl _) ⟨H1, rfl, h0⟩
  case round =>
    rintro pre x post B1 _ hxs hB1 ⟨H2, rfl, hJ⟩ N0 wy Rf sy
    have hrl : wy.heap[l]? = some (.loop (mkRec fn a.tmps ps assign body D .ready none)) := by
      have : St N0 B1 (blk l (.loop (mkRec fn a.tmps ps assign body D .ready none)) * (H2 * (blk D dfr * Rf))) wy := sy.of_eq (by ac_rfl)
      exact this.blk.1
    have hy := run_yield (P := e.P) (args := (enc x).toArray) hrl (by simpa using hps x)
    refine ⟨fn, _, assign, body, hy, roundIn_of_wpIn trivial ?_⟩
    have hfr := asgn_fr (nt := e.nt) ps.toList (enc x) ρ a.tmps hnt ⟨f.size, f.get, rfl⟩
    have hzip : (ps.zip (enc x).toArray).foldl (fun tmps (t, a) => tmps.setIfInBounds t a) a.tmps = (ps.toList.zip (enc x)).foldl (fun t (y : Tmp × Value) => t.setIfInBounds y.1 y.2) a.tmps := by
      rw [← Array.foldl_toList, Array.toList_zip]
    show Code.wpIn (FW (some l)) 0 e.P assign _ { tmps := (ps.zip (enc x).toArray).foldl (fun tmps (t, a) => tmps.setIfInBounds t a) a.tmps, defers := [] } wy
    rw [hzip]
    refine hassign l N0 wy pre x post B1 H2 ((blk l (.loop (mkRec fn a.tmps ps assign body D .ready none)) * blk D dfr) * Rf) _ hxs hB1 hJ ?_ _ wy hfr (Below.refl _ _) (by rw [← star_assoc]; exact sy)
    intro ρ' B' H' hAS hB' a1 wa fa ba sa
    have sa' : St N0 B' (blk l (.loop (mkRec fn a.tmps ps assign body D .ready none)) * (H' * (blk D dfr * Rf))) wa := sa.of_eq (by ac_rfl)
    have hbr := run_beginRound (P := e.P) sa'.blk.1 rfl
    refine ⟨_, hbr, ?_⟩
    have sb := sa'.putObj (o' := .loop { mkRec fn a.tmps ps assign body D .ready none with state := .busy })
    have sb2 : St N0 B' (H' * ((blk l (.loop { mkRec fn a.tmps ps assign body D .ready none with state := .busy }) * blk D dfr) * Rf)) (wa.putObj l (.loop { mkRec fn a.tmps ps assign body D .ready none with state := .busy })) := sb.1.of_eq (by ac_rfl)
    refine wpIn_mono (hbody l N0 wy pre x post B1 _ ρ' B' H' hxs hB1 hB' hAS a1 _ fa (ba.trans sb.2) sb2) ?_
    have fin : ∀ (jump : Option Code) (w3 : World) B3 H3, St N0 B3 (H3 * ((blk l (.loop { mkRec fn a.tmps ps assign body D .ready none with state := .busy }) * blk D dfr) * Rf)) w3 →
        (Instr.endRound l jump).run e.P w3 = .ok (.bool jump.isNone) (w3.putObj l (.loop (mkRec fn a.tmps ps assign body D (if jump.isNone then .ready else .done) jump))) ∧ Below N0 w3 (w3.putObj l (.loop (mkRec fn a.tmps ps assign body D (if jump.isNone then .ready else .done) jump))) ∧
        St N0 B3 ((H3 * (blk l (.loop (mkRec fn a.tmps ps assign body D (if jump.isNone then .ready else .done) jump)) * blk D dfr)) * Rf) (w3.putObj l (.loop (mkRec fn a.tmps ps assign body D (if jump.isNone then .ready else .done) jump))) := by
      intro jump w3 B3 H3 s3
      have s3' : St N0 B3 (blk l (.loop { mkRec fn a.tmps ps assign body D .ready none with state := .busy }) * (H3 * (blk D dfr * Rf))) w3 := s3.of_eq (by ac_rfl)
      have h1 := run_endRound (P := e.P) jump s3'.blk.1
      have h2 := s3'.putObj (o' := .loop (mkRec fn a.tmps ps assign body D (if jump.isNone then .ready else .done) jump))
      refine ⟨h1, h2.2, h2.1.of_eq (by ac_rfl)⟩
    rintro x3 a3 w3 hp
    cases x3 with
    | normal =>
      obtain ⟨B3, H3, hJ3, hB3, b3, s3⟩ := hp
      obtain ⟨h1, h2, h3⟩ := fin none w3 B3 H3 s3
      exact ⟨_, _, h1, true, B3, _, rfl, .inl ⟨rfl, H3, rfl, hJ3⟩, hB3, b3.trans h2, h3⟩
    | ret =>
      obtain ⟨B3, H3, hJ3, hB3, b3, s3⟩ := hp
      obtain ⟨h1, h2, h3⟩ := fin (some .ret) w3 B3 H3 s3
      exact ⟨_, _, h1, false, B3, _, rfl, .inr ⟨rfl, _, H3, rfl, hJ3⟩, hB3, b3.trans h2, h3⟩
    | exit id =>
      obtain ⟨B3, H3, hJ3, hB3, b3, s3⟩ := hp
      obtain ⟨h1, h2, h3⟩ := fin (some (.exit id)) w3 B3 H3 s3
      exact ⟨_, _, h1, false, B3, _, rfl, .inr ⟨rfl, _, H3, rfl, hJ3⟩, hB3, b3.trans h2, h3⟩
    | goto t => exact hp.elim
    | panic ch => exact hp.elim
    | outgrown => exact hp.elim
  refine ⟨l, [mark D], w1, { target := .fn (.func gf) caps.toArray, args := #[.func (.yield l) #[] #[]] }, w1, gf, (.func (.yield l) #[] #[] :: caps).toArray, w1, ?_, ?_, fun _ _ => trivial, ?_, fun h => by simp [FW] at h, ?_⟩
  · have : (FW e.r).round = none := hr
    rw [this, ← hw1, ← hl]
    have := run_enterLoop_outer (P := e.P) (w := w) fn a.tmps ps assign body
    rw [hD] at this
    exact this
  · simp only [resolve, hgv, Deferred.ofValue]
    simp [Act.eval]
  · simp only [invoke]
    have := hIt.1 (#[.func (.yield l) #[] #[]] ++ caps.toArray) w1
    simpa using this
  · refine callsIn_FW.2 ((hct.2 e.N0 w1 R s2).mono ?_)
    rintro y w2 ⟨v, B', _, rfl, ⟨H2, rfl, (⟨H3, rfl, hJ⟩ | ⟨pre, post, hpp, c, H3, rfl, hJ⟩)⟩, hB', b2, s3⟩
    · have s3' : St e.N0 B' (blk l (.loop (mkRec fn a.tmps ps assign body D .ready none)) * (H3 * (blk D dfr * (own * R)))) w2 := s3.of_eq (by ac_rfl)
      have h1 := run_endLoop (P := e.P) s3'.blk.1 (by simp)
      have h2 := s3'.putObj (o' := .loop { mkRec fn a.tmps ps assign body D .ready none with state := .exhausted })
      refine ⟨none, _, h1, ?_⟩
      exact hdone D B' H3 hB' hJ _ _ ⟨f.size, f.get, by simp [f.defers]⟩ ((b1.trans b2).trans h2.2) h2.1.drop
    · have s3' : St e.N0 B' (blk l (.loop (mkRec fn a.tmps ps assign body D .done (some c))) * (H3 * (blk D dfr * (own * R)))) w2 := s3.of_eq (by ac_rfl)
      have h1 := run_endLoop (P := e.P) s3'.blk.1 (by simp)
      have h2 := s3'.putObj (o' := .loop { mkRec fn a.tmps ps assign body D .done (some c) with state := .exhausted })
      refine ⟨some c, _, h1, ?_⟩
      exact hstop D c pre post B' H3 hpp hB' hJ _ _ ⟨f.size, f.get, by simp [f.defers]⟩ ((b1.trans b2).trans h2.2) h2.1.drop
theorem Cx.rangeK {g : Operand} {ps : Array Tmp} {assign body : Code} {gf : FuncId} {caps : List Value} {enc : α → List Value} {xs : List α} {own H1 R : HP} {σ : Sl} (hσ : Sub ρ σ)
    (hr : e.r = none) (hg : ev ρ g = some (.func (.func gf) #[] caps.toArray)) (hIt : It e.P gf caps enc xs B own) (hH : H = own * (H1 * R)) (hnt : ps.toList.all (fun p => Nat.blt p e.nt) = true) (hps : ∀ x, (enc x).length = ps.size)
    (J : List α → Frag → HP → Prop) (Jx : Code → List α → Frag → HP → Prop) (AS : List α → α → Frag → Sl → Frag → HP → Prop) (h0 : J [] B H1)
    (hassign : ∀ (l N0 : Nat) (w0 : World) pre x post B1 H1 (F : HP) (K : Act → World → Prop), xs = pre ++ x :: post → B.le B1 → J pre B1 H1 →
      (∀ ρ' B' H', AS pre x B1 ρ' B' H' → B1.le B' → Xx ⟨e.P, some l, N0, w0, e.nt⟩ [] K (ρ' ++ σ) B' (H' * F)) →
      Cx ⟨e.P, some l, N0, w0, e.nt⟩ [] assign (Exit.then K (fun _ _ _ => False)) (asgn ps.toList (enc x) ρ) B1 (H1 * F))
    (hbody : ∀ (l N0 : Nat) (w0 : World) pre x post B1 (F : HP) ρ' B' H', xs = pre ++ x :: post → B.le B1 → B1.le B' → AS pre x B1 ρ' B' H' → Cx ⟨e.P, some l, N0, w0, e.nt⟩ [] body (RQ N0 w0 B1 J Jx (pre ++ [x]) F) (ρ' ++ σ) B' (H' * F))
    (hdone : ∀ D B' H', B.le B' → J xs B' H' → Xx e (mark D :: ds) (Q .normal) ρ B' (H' * (blk D dfr * (own * R))))
    (hstop : ∀ D c pre post B' H', xs = pre ++ post → B.le B' → Jx c pre B' H' → Cx e (mark D :: ds) c Q ρ B' (H' * (blk D dfr * (own * R)))) :
    Cx e ds (.rangeFunc g ps assign body) Q ρ B H :=
  Cx.rangeF hr hg hIt hH hnt hps J Jx (fun pre x B1 ρ' B' H' => ∃ ρ'', ρ' = ρ'' ++ σ ∧ AS pre x B1 ρ'' B' H') h0
    (fun l N0 w0 pre x post B1 H1 F K hxs hB1 hJ hK => hassign l N0 w0 pre x post B1 H1 F K hxs hB1 hJ fun ρ' B' H' hAS hB' => hK _ B' H' ⟨ρ', rfl, hAS⟩ hB')
    (fun l N0 w0 pre x post B1 F ρ' B' H' hxs hB1 hB' ⟨ρ'', h1, hAS⟩ => by subst h1; exact hbody l N0 w0 pre x post B1 F ρ'' B' H' hxs hB1 hB' hAS) hdone hstop
def marks : List Nat → HP
  | [] => 1
  | D :: l => blk D dfr * marks l
theorem leavesM {fn : Func} {tmps : Array Value} {Rr : Ending → World → Prop} {HR : HP} : ∀ (Ds : List Nat) (w : World), Below N0 w0 w → St N0 B (marks Ds * HR) w →
    (∀ w', Below N0 w0 w' → St N0 B HR w' → ∃ v, (results fn tmps).run P w' = .ok v w' ∧ Rr (.returned v) w') → LeavesInM (FW r) 0 P fn tmps Rr (Ds.map mark) .returning w := by
  intro Ds
  induction Ds with
  | nil =>
    intro w hb hs h
    simp only [marks, one_star] at hs
    exact h w hb hs
  | cons D Ds ih =>
    intro w hb hs h
    have hs' : St N0 B (SL.blk D dfr * (marks Ds * HR)) w := hs.of_eq (by simp only [marks]; ac_rfl)
    have h2 := hs'.putObj (o' := .deferred none)
    exact ⟨by simp, .inl ⟨D, _, rfl, run_takeDeferred hs'.blk.1, ih _ (hb.trans h2.2) h2.1.drop h⟩⟩
theorem Xx.rM {fn : Func} {Ds : List Nat} {Φ : Value → Frag → HP → Prop} {v : Value} (hr : ∀ a w, Fr ρ nt (Ds.map mark) a → St N0 B (H' * R) w → (results fn a.tmps).run P w = .ok v w)
    (hΦ : Φ v B H') (hB : B0.le B) (hH : H = marks Ds * (H' * R)) : Xx ⟨P, r, N0, w0, nt⟩ (Ds.map mark) (bodyPostM (FW none) 0 P fn (Fin N0 w0 R B0 Φ) .ret) ρ B H := fun a w f b s => by
  show LeavesInM (FW none) 0 P fn a.tmps _ a.defers .returning w
  rw [f.defers]
  exact leavesM Ds w b (hH ▸ s) fun w' b' s' => ⟨v, hr a w' f s', v, B, H', rfl, hΦ, hB, b', s'⟩
theorem Xx.rBM {fn : Func} {Ds : List Nat} {Φ : Value → Frag → Prop} {v : Value} (hr : ∀ a w, Fr ρ nt (Ds.map mark) a → St N0 B R w → (results fn a.tmps).run P w = .ok v w)
    (hΦ : Φ v B) (hB : B0.le B) (hH : H = marks Ds * R) : Xx ⟨P, r, N0, w0, nt⟩ (Ds.map mark) (bodyPostM (FW none) 0 P fn (FinB N0 w0 R B0 Φ) .ret) ρ B H := fun a w f b s => by
  show LeavesInM (FW none) 0 P fn a.tmps _ a.defers .returning w
  rw [f.defers]
  exact leavesM Ds w b (hH ▸ s) fun w' b' s' => ⟨v, hr a w' f s', v, B, rfl, hΦ, hB, b', s'⟩
theorem res1 {fn : Func} {t : Tmp} {v : Value} {ds : List Deferred} (hr : fn.results = #[.tmp t]) (hv : lk ρ t = some v) : ∀ a w, Fr ρ nt ds a → St N0 B H w → (results fn a.tmps).run P w = .ok v w := fun a w f _ => by
  rw [results_tmp hr]; have := f.get t v hv; simp [this]
theorem res2 {fn : Func} {t u : Tmp} {v x : Value} {ds : List Deferred} (hr : fn.results = #[.tmp t, .tmp u]) (hv : lk ρ t = some v) (hx : lk ρ u = some x) : ∀ a w, Fr ρ nt ds a → St N0 B H w → (results fn a.tmps).run P w = .ok (.tuple #[v, x]) w := fun a w f _ => by
  rw [results_tmp2 hr]; have h1 := f.get t v hv; have h2 := f.get u x hx; simp [h1, h2]
theorem resC1 {fn : Func} {t : Tmp} {ty : TypeId} {v : Value} {ds : List Deferred} {b : Nat} {et : TypeId} {d : TypeDesc} (hr : fn.results = #[.cell t ty]) (ht : P.underlying ty = some d) (hd : aggB d = false) (hv : lk ρ t = some (.pointer (some ⟨b, 0, none⟩))) [hp : PickB H b (.cells [v].toArray et (0, 0)) R] :
    ∀ a w, Fr ρ nt ds a → St N0 B H w → (results fn a.tmps).run P w = .ok v w := fun a w f s => by
  have s' : St N0 B (blk b (.cells [v].toArray et (0, 0)) * R) w := hp.eq ▸ s
  have h1 := f.get t _ hv
  have hc := cell_of_heap (o := 0) s'.blk.1 (v := v) rfl
  have hg := run_isAgg (P := P) ht w
  rw [hd] at hg
  simp [results, hr, h1, Sem.run_bind, asAddr, loadVar, hg, hc]
theorem Xx.dropB (b : Nat) {o : Obj} [hp : PickB H b o R] (h : Xx e ds K ρ B R) : Xx e ds K ρ B H := Xx.perm (Xx.drop h) hp.eq
theorem Xx.freezeB (b : Nat) {o : Obj} [hp : PickB H b o R] (h : ∀ B', B.le B' → B' b = some o → Xx e ds K ρ B' R) : Xx e ds K ρ B H := Xx.perm (Xx.freeze h) hp.eq
class PickS (H : HP) (A : Option Addr) (et : outParam TypeId) (size n c : outParam Nat) (xs : outParam (List Value)) (R : outParam HP) : Prop where
  eq : H = sbuf et size A n c xs * R
instance (A : Option Addr) (et : TypeId) (size n c : Nat) (xs : List Value) (R : HP) : PickS (sbuf et size A n c xs * R) A et size n c xs R := ⟨rfl⟩
instance (y H : HP) (A : Option Addr) (et : TypeId) (size n c : Nat) (xs : List Value) (R : HP) [h : PickS H A et size n c xs R] : PickS (y * H) A et size n c xs (y * R) := ⟨by rw [h.eq, star_left]⟩
theorem Xx.freezeT (A : Option Addr) {et : TypeId} {size n c : Nat} {xs : List Value} [hp : PickS H A et size n c xs R]
    (h : ∀ B', B.le B' → RoS B' size A n xs → n ≤ c → xs.length = n * size → Xx e ds K ρ B' R) : Xx e ds K ρ B H :=
  Xx.perm (Xx.sbuf_facts fun h1 _ => Xx.freezeS fun B' h2 h3 h4 => h B' h2 h3 h4 h1) hp.eq
theorem appR {e : Env} {ds : List Deferred} {ρ : Sl} {B : Frag} {H R1 R : HP} {t tx et ty : TypeId} {x y : Operand} {size bytes nl c nx cx b : Nat} {zs xs news cs : List Value} {A : Option Addr} {tyx et' : TypeId} {fz : Nat × Nat}
    (ht : e.P.underlying t = some (.slice et)) (htx : e.P.underlying tx = some (.slice tyx)) (hz : TI e.P et zs size bytes)
    (hx : ev ρ x = some (.slice A nl c)) (hy : ev ρ y = some (.slice (some ⟨b, 0, none⟩) nx cx)) [h1 : PickS H A et size nl c xs R1] [h2 : PickB R1 b (.cells cs.toArray et' fz) R] (hl : news.length = nx * size) (hn : (cs.drop 0).take (nx * size) = news) (h1 : news.all (·.oneCell') = true)
    (hb : nl + nx ≤ 9223372036854775807) (hbb : (nl + nx) * bytes ≤ 140737488355328) :
    Ox e ds (.call { callee := .builtin .append, args := #[x, y], argTypes := #[t, tx] }) ty ρ B H
      (fun v B' H' => ∃ A' c', v = .slice A' (nl + nx) c' ∧ (0 < nl + nx → ∃ b, A' = some ⟨b, 0, none⟩) ∧ xs.length = nl * size ∧ nl + nx ≤ c' ∧ B' = B ∧ H' = sbuf et size A' (nl + nx) c' (xs ++ news) * (blk b (.cells cs.toArray et' fz) * R)) :=
  appO ht htx hz hx hy (Src'.row hl hn) h1 (by rw [PickS.eq (H := H) (A := A), h2.eq]) hb hbb
theorem _root_.Go.SL.RoS.at {B : Frag} {size n k : Nat} {A : Option Addr} {xs : List Value} (h : RoS B size A n xs) (hk : k < n) :
    ∃ b o cs et fz, A = some ⟨b, o, none⟩ ∧ B b = some (.cells (List.toArray cs) et fz) ∧ (cs.drop (o + k * size)).take size = (xs.drop (k * size)).take size := by
  obtain ⟨h1, h2 | ⟨b, o, cs, et, fz, h3, h4, h5⟩⟩ := h
  · omega
  · refine ⟨b, o, cs, et, fz, h3, h4, ?_⟩
    subst h5
    rw [List.drop_take, List.drop_drop, List.take_take, Nat.min_eq_left]
    have : (k + 1) * size ≤ n * size := Nat.mul_le_mul_right _ hk
    rw [Nat.add_mul, Nat.one_mul] at this
    omega
theorem _root_.Go.SL.RoS.at1 {B : Frag} {n k : Nat} {A : Option Addr} {xs : List Value} (h : RoS B 1 A n xs) (hk : k < n) :
    ∃ b o cs et fz, A = some ⟨b, o, none⟩ ∧ B b = some (.cells (List.toArray cs) et fz) ∧ cs[o + k * 1]? = xs[k]? := by
  obtain ⟨b, o, cs, et, fz, h1, h2, h3⟩ := h.at hk
  refine ⟨b, o, cs, et, fz, h1, h2, ?_⟩
  have := congrArg (·[0]?) h3
  simpa [List.getElem?_take, List.getElem?_drop] using this
end
end Go.SL
namespace Go.SL
open Go.RowKit
abbrev u32 (x : BitVec 32) : Value := .int .u32 (x.toNat : Nat)
theorem wrapBV32 (n : Int) : IntKind.u32.wrap n = ((BitVec.ofInt 32 n).toNat : Nat) := by
  have h := BitVec.toNat_ofInt (n := 32) n
  rw [h]
  simp only [IntKind.wrap, IntKind.bits, IntKind.signed, Bool.false_and]
  have h1 : 0 ≤ n % (2 ^ 32 : Int) := Int.emod_nonneg _ (by decide)
  simp
  omega
theorem ofInt_nat32 (n : Nat) : BitVec.ofInt 32 (n : Int) = BitVec.ofNat 32 n := BitVec.ofInt_natCast _ _
theorem ofNat_bv32 (a : BitVec 32) : BitVec.ofNat 32 a.toNat = a := by rw [BitVec.ofNat_toNat, BitVec.setWidth_eq]
theorem ofInt_toNat32 (a : BitVec 32) : BitVec.ofInt 32 (a.toNat : Int) = a := by rw [ofInt_nat32]; simp
section
variable {P : Program} {ρ : Sl} {S : World → Prop} {ty t t' : TypeId} {x y : Operand} {a b : BitVec 32} {k k' : IntKind} {n : Int}
theorem addW32 (hx : ev ρ x = some (u32 a)) (hy : ev ρ y = some (u32 b)) : Yx P (.binOp .add t x y t') ty ρ S (u32 (a + b)) :=
  add hx hy (by rw [wrapBV32, BitVec.ofInt_add, ofInt_toNat32, ofInt_toNat32])
theorem xorW32 (hx : ev ρ x = some (u32 a)) (hy : ev ρ y = some (u32 b)) : Yx P (.binOp .xor t x y t') ty ρ S (u32 (a ^^^ b)) :=
  bxor hx hy (by unfold bXor; rw [wrapBV32, ofInt_nat32]; congr 2; show BitVec.ofNat 32 ((BitVec.ofInt 32 _ ^^^ BitVec.ofInt 32 _ : BitVec 32).toNat) = _; rw [ofInt_toNat32, ofInt_toNat32]; simp)
theorem andW32 (hx : ev ρ x = some (u32 a)) (hy : ev ρ y = some (u32 b)) : Yx P (.binOp .and t x y t') ty ρ S (u32 (a &&& b)) :=
  band hx hy (by unfold bAnd; rw [wrapBV32, ofInt_nat32]; congr 2; show BitVec.ofNat 32 ((BitVec.ofInt 32 _ &&& BitVec.ofInt 32 _ : BitVec 32).toNat) = _; rw [ofInt_toNat32, ofInt_toNat32]; simp)
theorem orW32 (hx : ev ρ x = some (u32 a)) (hy : ev ρ y = some (u32 b)) : Yx P (.binOp .or t x y t') ty ρ S (u32 (a ||| b)) :=
  bor hx hy (by unfold bOr; rw [wrapBV32, ofInt_nat32]; congr 2; show BitVec.ofNat 32 ((BitVec.ofInt 32 _ ||| BitVec.ofInt 32 _ : BitVec 32).toNat) = _; rw [ofInt_toNat32, ofInt_toNat32]; simp)
theorem shrW32 {c : Nat} (hx : ev ρ x = some (u32 a)) (hy : ev ρ y = some (.int k' (c : Nat))) (hc : Nat.ble c 32 = true) : Yx P (.binOp .shr t x y t') ty ρ S (u32 (a >>> c)) :=
  shr hx hy (by omega) (by
    have hc' : c ≤ 32 := by simpa using hc
    have hm : min (c : Int).toNat (IntKind.bits .u32) = c := by simp [IntKind.bits]; omega
    rw [hm, BitVec.toNat_ushiftRight, Nat.shiftRight_eq_div_pow, Int.fdiv_eq_ediv_of_nonneg _ (Int.le_of_lt (Int.pow_pos (by decide)))]
    simp)
theorem shlW32 {c : Nat} (hx : ev ρ x = some (u32 a)) (hy : ev ρ y = some (.int k' (c : Nat))) (hc : Nat.ble c 32 = true) : Yx P (.binOp .shl t x y t') ty ρ S (u32 (a <<< c)) :=
  shl hx hy (by omega) (by
    have hc' : c ≤ 32 := by simpa using hc
    have hm : min (c : Int).toNat (IntKind.bits .u32) = c := by simp [IntKind.bits]; omega
    rw [hm, wrapBV32, BitVec.toNat_shiftLeft, Nat.shiftLeft_eq]
    have : ((a.toNat : Nat) : Int) * 2 ^ c = ((a.toNat * 2 ^ c : Nat) : Int) := by simp
    rw [this, ofInt_nat32]; simp)
theorem negW32 (hx : ev ρ x = some (u32 a)) : Yx P (.unOp .neg t x) ty ρ S (u32 (-a)) :=
  neg hx (by rw [wrapBV32, Int.zero_sub, BitVec.ofInt_neg, ofInt_toNat32])
theorem complW32 (hx : ev ρ x = some (u32 a)) : Yx P (.unOp .xor t x) ty ρ S (u32 (~~~a)) :=
  compl hx (by
    unfold bXor; rw [wrapBV32, ofInt_nat32]; congr 2
    show BitVec.ofNat 32 ((BitVec.ofInt 32 (if IntKind.signed .u32 = true then -1 else IntKind.max .u32) ^^^ BitVec.ofInt 32 _ : BitVec 32).toNat) = _
    have : BitVec.ofInt 32 (if IntKind.signed .u32 = true then -1 else IntKind.max .u32) = BitVec.allOnes 32 := by decide
    rw [this, ofInt_toNat32, BitVec.allOnes_xor, ofNat_bv32])
theorem cvW32 {s d : TypeId} {D : TypeDesc} (hx : ev ρ x = some (.int k n)) (hs : P.underlying s = some D) (hd : P.underlying d = some (.int .u32)) : Yx P (.convert s d x) ty ρ S (u32 (BitVec.ofInt 32 n)) :=
  cvI hx hs hd (wrapBV32 n)
theorem eqW32 (hx : ev ρ x = some (u32 a)) (hy : ev ρ y = some (u32 b)) : Yx P (.binOp .eql t x y t') ty ρ S (.bool (decide (a = b))) := by
  have := eqI (P := P) (ty := ty) (S := S) (t := t) (t' := t') hx hy
  have e : decide ((a.toNat : Int) = (b.toNat : Int)) = decide (a = b) := by
    rw [decide_eq_decide]; constructor
    · intro h; apply BitVec.eq_of_toNat_eq; exact Int.ofNat.inj h
    · intro h; rw [h]
  rw [e] at this; exact this
theorem neW32 (hx : ev ρ x = some (u32 a)) (hy : ev ρ y = some (u32 b)) : Yx P (.binOp .neq t x y t') ty ρ S (.bool (!decide (a = b))) := by
  have := neI (P := P) (ty := ty) (S := S) (t := t) (t' := t') hx hy
  have e : decide ((a.toNat : Int) = (b.toNat : Int)) = decide (a = b) := by
    rw [decide_eq_decide]; constructor
    · intro h; apply BitVec.eq_of_toNat_eq; exact Int.ofNat.inj h
    · intro h; rw [h]
  rw [e] at this; exact this
end
abbrev u64 (x : BitVec 64) : Value := .int .u64 (x.toNat : Nat)
theorem wrapBV64 (n : Int) : IntKind.u64.wrap n = ((BitVec.ofInt 64 n).toNat : Nat) := by
  have h := BitVec.toNat_ofInt (n := 64) n
  rw [h]
  simp only [IntKind.wrap, IntKind.bits, IntKind.signed, Bool.false_and]
  have h1 : 0 ≤ n % (2 ^ 64 : Int) := Int.emod_nonneg _ (by decide)
  simp
  omega
theorem ofInt_nat64 (n : Nat) : BitVec.ofInt 64 (n : Int) = BitVec.ofNat 64 n := BitVec.ofInt_natCast _ _
theorem ofInt_toNat64 (a : BitVec 64) : BitVec.ofInt 64 (a.toNat : Int) = a := by rw [ofInt_nat64]; simp
section
variable {P : Program} {ρ : Sl} {S : World → Prop} {ty t t' : TypeId} {x y : Operand} {a b : BitVec 64} {k k' : IntKind} {n : Int}
theorem addW64 (hx : ev ρ x = some (u64 a)) (hy : ev ρ y = some (u64 b)) : Yx P (.binOp .add t x y t') ty ρ S (u64 (a + b)) :=
  add hx hy (by rw [wrapBV64, BitVec.ofInt_add, ofInt_toNat64, ofInt_toNat64])
theorem subW64 (hx : ev ρ x = some (u64 a)) (hy : ev ρ y = some (u64 b)) : Yx P (.binOp .sub t x y t') ty ρ S (u64 (a - b)) :=
  sub hx hy (by rw [wrapBV64, Int.sub_eq_add_neg, BitVec.ofInt_add, BitVec.ofInt_neg, ofInt_toNat64, ofInt_toNat64, BitVec.sub_eq_add_neg])
theorem mulW64 (hx : ev ρ x = some (u64 a)) (hy : ev ρ y = some (u64 b)) : Yx P (.binOp .mul t x y t') ty ρ S (u64 (a * b)) :=
  mul hx hy (by rw [wrapBV64, BitVec.ofInt_mul, ofInt_toNat64, ofInt_toNat64])
theorem andW64 (hx : ev ρ x = some (u64 a)) (hy : ev ρ y = some (u64 b)) : Yx P (.binOp .and t x y t') ty ρ S (u64 (a &&& b)) :=
  band hx hy (by unfold bAnd; rw [wrapBV64, ofInt_nat64]; congr 2; show BitVec.ofNat 64 ((BitVec.ofInt 64 _ &&& BitVec.ofInt 64 _ : BitVec 64).toNat) = _; rw [ofInt_toNat64, ofInt_toNat64]; simp)
theorem orW64 (hx : ev ρ x = some (u64 a)) (hy : ev ρ y = some (u64 b)) : Yx P (.binOp .or t x y t') ty ρ S (u64 (a ||| b)) :=
  bor hx hy (by unfold bOr; rw [wrapBV64, ofInt_nat64]; congr 2; show BitVec.ofNat 64 ((BitVec.ofInt 64 _ ||| BitVec.ofInt 64 _ : BitVec 64).toNat) = _; rw [ofInt_toNat64, ofInt_toNat64]; simp)
theorem shrW64 {c : Nat} (hx : ev ρ x = some (u64 a)) (hy : ev ρ y = some (.int k' (c : Nat))) (hc : Nat.ble c 64 = true) : Yx P (.binOp .shr t x y t') ty ρ S (u64 (a >>> c)) :=
  shr hx hy (by omega) (by
    have hc' : c ≤ 64 := by simpa using hc
    have hm : min (c : Int).toNat (IntKind.bits .u64) = c := by simp [IntKind.bits]; omega
    rw [hm, BitVec.toNat_ushiftRight, Nat.shiftRight_eq_div_pow, Int.fdiv_eq_ediv_of_nonneg _ (Int.le_of_lt (Int.pow_pos (by decide)))]
    simp)
theorem shlW64 {c : Nat} (hx : ev ρ x = some (u64 a)) (hy : ev ρ y = some (.int k' (c : Nat))) (hc : Nat.ble c 64 = true) : Yx P (.binOp .shl t x y t') ty ρ S (u64 (a <<< c)) :=
  shl hx hy (by omega) (by
    have hc' : c ≤ 64 := by simpa using hc
    have hm : min (c : Int).toNat (IntKind.bits .u64) = c := by simp [IntKind.bits]; omega
    rw [hm, wrapBV64, BitVec.toNat_shiftLeft, Nat.shiftLeft_eq]
    have : ((a.toNat : Nat) : Int) * 2 ^ c = ((a.toNat * 2 ^ c : Nat) : Int) := by simp
    rw [this, ofInt_nat64]; simp)
theorem cvW64 {s d : TypeId} {D : TypeDesc} (hx : ev ρ x = some (.int k n)) (hs : P.underlying s = some D) (hd : P.underlying d = some (.int .u64)) : Yx P (.convert s d x) ty ρ S (u64 (BitVec.ofInt 64 n)) :=
  cvI hx hs hd (wrapBV64 n)
theorem eqW64 (hx : ev ρ x = some (u64 a)) (hy : ev ρ y = some (u64 b)) : Yx P (.binOp .eql t x y t') ty ρ S (.bool (decide (a = b))) := by
  have := eqI (P := P) (ty := ty) (S := S) (t := t) (t' := t') hx hy
  have e : decide ((a.toNat : Int) = (b.toNat : Int)) = decide (a = b) := by
    rw [decide_eq_decide]; constructor
    · intro h; apply BitVec.eq_of_toNat_eq; exact Int.ofNat.inj h
    · intro h; rw [h]
  rw [e] at this; exact this
theorem neW64 (hx : ev ρ x = some (u64 a)) (hy : ev ρ y = some (u64 b)) : Yx P (.binOp .neq t x y t') ty ρ S (.bool (!decide (a = b))) := by
  have := neI (P := P) (ty := ty) (S := S) (t := t) (t' := t') hx hy
  have e : decide ((a.toNat : Int) = (b.toNat : Int)) = decide (a = b) := by
    rw [decide_eq_decide]; constructor
    · intro h; apply BitVec.eq_of_toNat_eq; exact Int.ofNat.inj h
    · intro h; rw [h]
  rw [e] at this; exact this
end
end Go.SL
set_option linter.defProp false
namespace Go.Proofs.YthlfffbcligocaaGreat
def U0 := Tryz.underlying0
def U3 := Tryz.underlying3
def U4 := Tryz.underlying4
def U5 := Tryz.underlying5
def U9 := Tryz.underlying9
def U20 := Tryz.underlying20
def U22 := Tryz.underlying22
def U23 := Tryz.underlying23
def U25 := Tryz.underlying25
def U26 := Tryz.underlying26
def U27 := Tryz.underlying27
def U28 := Tryz.underlying28
def U31 := Tryz.underlying31
def U40 := Tryz.underlying40
def U43 := Tryz.underlying43
def U51 := Tryz.underlying51
def U54 := Tryz.underlying54
def U59 := Tryz.underlying59
def U66 := Tryz.underlying66
def U85 := Tryz.underlying85
def U88 := Tryz.underlying88
def U90 := Tryz.underlying90
def U91 := Tryz.underlying91
def U92 := Tryz.underlying92
def U94 := Tryz.underlying94
def U104 := Tryz.underlying104
def U106 := Tryz.underlying106
def U107 := Tryz.underlying107
def U109 := Tryz.underlying109
def U117 := Tryz.underlying117
def U120 := Tryz.underlying120
def U123 := Tryz.underlying123
def U130 := Tryz.underlying130
def U132 := Tryz.underlying132
def U141 := Tryz.underlying141
def U143 := Tryz.underlying143
def U144 := Tryz.underlying144
def U146 := Tryz.underlying146
def U149 := Tryz.underlying149
def U151 := Tryz.underlying151
def U152 := Tryz.underlying152
def U161 := Tryz.underlying161
def U164 := Tryz.underlying164
def U168 := Tryz.underlying168
def U182 := Tryz.underlying182
def U190 := Tryz.underlying190
def U195 := Tryz.underlying195
def U202 := Tryz.underlying202
def U211 := Tryz.underlying211
def U216 := Tryz.underlying216
def U219 := Tryz.underlying219
def U225 := Tryz.underlying225
def U228 := Tryz.underlying228
def U234 := Tryz.underlying234
def U236 := Tryz.underlying236
def U239 := Tryz.underlying239
def U240 := Tryz.underlying240
def U246 := Tryz.underlying246
def U250 := Tryz.underlying250
def U251 := Tryz.underlying251
end Go.Proofs.YthlfffbcligocaaGreat
namespace Go.Proofs.YthlfffbcligocaaGreat
open Go.SL Go.RowKit
set_option maxRecDepth 100000
namespace Fr1
theorem ti5 : TI Tryz.prog 5 [.int .u8 0] 1 1 := TI.of (by kernel_rfl) rfl rfl
def poly : BitVec 32 := 3988292384#32
def crcBit (h : BitVec 32) : BitVec 32 := (h >>> 1) ^^^ (3988292384#32 &&& -(h &&& 1#32))
def crcBits : Nat → BitVec 32 → BitVec 32
  | 0, h => h
  | n + 1, h => crcBit (crcBits n h)
def crcStep (h : BitVec 32) (b : UInt8) : BitVec 32 := crcBits 8 (h ^^^ BitVec.ofInt 32 (b.toNat : Nat))
def crcTo (l : List UInt8) : BitVec 32 := l.foldl crcStep 4294967295#32
def crc (l : List UInt8) : BitVec 32 := ~~~(crcTo l)
theorem crcTo_take (l : List UInt8) (k : Nat) (h : k < l.length) : crcTo (l.take (k + 1)) = crcBits 8 (crcTo (l.take k) ^^^ BitVec.ofInt 32 ((l.getD k 0).toNat : Nat)) := by
  unfold crcTo
  rw [List.take_succ_eq_append_getElem h, List.foldl_append]
  simp [crcStep, List.getD, List.getElem?_eq_getElem h]
set_option maxHeartbeats 1000000 in
theorem Check_ct (l : List UInt8) (B : Frag) (hl : l.length ≤ 4611686018427387904) : CtP Tryz.prog 156 [str l] B (u32 (crc l)) := by
  refine CtB.of_body Tryz.func156 rfl (nt := 29) rfl (by kernel_rfl) rfl ?_
  intro N0 w0 R
  refine Cq (fun K1 k1 => ?_)
  refine Cr <| Lx.y (asg rfl) rfl <| Lx.nil <| ?_
  refine Xx.tn (k1 _ _ _ _ ?_)
  refine Cq (fun K2 k2 => ?_)
  refine Cr <| Lx.y (asg rfl) rfl <| Lx.nil <| ?_
  refine Xx.tn (k2 _ _ _ _ ?_)
  refine Cq (fun K3 k3 => ?_)
  refine Cq (fun K4 k4 => ?_)
  refine Cr <| Lx.y (mv rfl) rfl <| Lx.y (lenS U9 rfl) rfl <| Lx.y (mv rfl) rfl <| Lx.nil <| ?_
  refine Xx.tn (k4 _ _ _ _ ?_)
  refine Cx.block ?_
  refine Cx.loopK (Sc 0 rfl (Sc 2 rfl (Sc 5 rfl (Sc 6 rfl (Sub.nil _))))) (fun m ρ' B' H' => ∃ (k : Nat), (k ≤ l.length) ∧ m = l.length - k ∧ ρ' = [(3, u32 (crcTo (l.take k))), (7, i64 k)] ∧ B = B' ∧ R = H') ⟨0, Nat.zero_le _, rfl, rfl, rfl, rfl⟩ (Sc 3 rfl (Sc 7 rfl (Sc 0 rfl (Sc 2 rfl (Sc 5 rfl (Sc 6 rfl (Sub.nil _))))))) ?_
  rintro m ρ' B' H' ⟨k, hk, rfl, rfl, rfl, rfl⟩
  refine Cq (fun K5 k5 => ?_)
  refine Cr <| Lx.y (lss rfl rfl) rfl <| Lx.nil <| ?_
  refine Xx.tn (k5 _ _ _ _ ?_)
  refine Cq (fun K6 k6 => ?_)
  refine Cx.condD rfl (fun h7 => ?_) (fun h7 => ?_)
  · skip
    refine Cx.skip ?_
    refine Xx.tn (k6 _ _ _ _ ?_)
    refine Cq (fun K8 k8 => ?_)
    refine Cx.block ?_
    refine Cq (fun K9 k9 => ?_)
    refine Cr <| Lx.y (mv rfl) rfl <| Lx.y (asg rfl) rfl <| Lx.nil <| ?_
    refine Xx.tn (k9 _ _ _ _ ?_)
    refine Cq (fun K10 k10 => ?_)
    refine Cr <| Lx.y (mv rfl) rfl <| Lx.y (mv rfl) rfl <| Lx.y (mv rfl) rfl <| Lx.y (ixS U9 rfl rfl (by first | exact Int.toNat_natCast _ | rfl) (by omega) (by omega)) rfl <| Lx.y (cvW32 rfl U5 U104) rfl <| Lx.y (xorW32 rfl rfl) rfl <| Lx.y (asg rfl) rfl <| Lx.nil <| ?_
    refine Xx.tn (k10 _ _ _ _ ?_)
    refine Cq (fun K11 k11 => ?_)
    refine Cr <| Lx.y (mv rfl) rfl <| Lx.nil <| ?_
    refine Xx.tn (k11 _ _ _ _ ?_)
    refine Cx.block ?_
    refine Cx.loopK (Sc 0 rfl (Sc 2 rfl (Sc 4 rfl (Sc 5 rfl (Sc 6 rfl (Sc 7 rfl (Sc 8 rfl (Sc 9 rfl (Sc 10 rfl (Sc 11 rfl (Sc 12 rfl (Sc 13 rfl (Sc 14 rfl (Sc 15 rfl (Sub.nil _))))))))))))))) (fun m ρ' B' H' => ∃ (j : Nat), (j ≤ 8) ∧ m = 8 - j ∧ ρ' = [(3, u32 (crcBits j (crcTo (l.take k) ^^^ BitVec.ofInt 32 ((l.getD k 0).toNat : Nat)))), (16, i64 j)] ∧ B = B' ∧ R = H') ⟨0, Nat.zero_le _, rfl, rfl, rfl, rfl⟩ (Sc 3 rfl (Sc 16 rfl (Sc 0 rfl (Sc 2 rfl (Sc 4 rfl (Sc 5 rfl (Sc 6 rfl (Sc 7 rfl (Sc 8 rfl (Sc 9 rfl (Sc 10 rfl (Sc 11 rfl (Sc 12 rfl (Sc 13 rfl (Sc 14 rfl (Sc 15 rfl (Sub.nil _))))))))))))))))) ?_
    rintro m ρ' B' H' ⟨j, hj, rfl, rfl, rfl, rfl⟩
    refine Cq (fun K12 k12 => ?_)
    refine Cr <| Lx.y (lss rfl rfl) rfl <| Lx.nil <| ?_
    refine Xx.tn (k12 _ _ _ _ ?_)
    refine Cq (fun K13 k13 => ?_)
    refine Cx.condD rfl (fun h14 => ?_) (fun h14 => ?_)
    · skip
      refine Cx.skip ?_
      refine Xx.tn (k13 _ _ _ _ ?_)
      refine Cq (fun K15 k15 => ?_)
      refine Cx.block <| Cr <| Lx.y (mv rfl) rfl <| Lx.y (shrW32 (c := 1) rfl rfl rfl) rfl <| Lx.y (mv rfl) rfl <| Lx.y (andW32 (b := 1#32) rfl rfl) rfl <| Lx.y (negW32 rfl) rfl <| Lx.y (andW32 (a := 3988292384#32) rfl rfl) rfl <| Lx.y (xorW32 rfl rfl) rfl <| Lx.y (asg rfl) rfl <| Lx.nil <| Xx.bn <| ?_
      refine Xx.tn (k15 _ _ _ _ ?_)
      refine Cr <| Lx.y (add rfl rfl (by first | exact wrap64 (by omega) (by omega) | rfl)) rfl <| Lx.y (mv rfl) rfl <| Lx.nil <| ?_
      exact Xx.againK ⟨j + 1, by omega, rfl, rfl, rfl, rfl⟩ (by omega) (Sc 3 rfl (Sc 16 rfl (Sc 0 rfl (Sc 2 rfl (Sc 4 rfl (Sc 5 rfl (Sc 6 rfl (Sc 7 rfl (Sc 8 rfl (Sc 9 rfl (Sc 10 rfl (Sc 11 rfl (Sc 12 rfl (Sc 13 rfl (Sc 14 rfl (Sc 15 rfl (Sub.nil _)))))))))))))))))
    · skip
      obtain rfl : j = 8 := by omega
      refine Cx.exit <| Xx.te <| Xx.te <| Xx.bh <| Xx.bn <| ?_
      refine Xx.tn (k8 _ _ _ _ ?_)
      refine Cr <| Lx.y (add rfl rfl (by first | exact wrap64 (by omega) (by omega) | rfl)) rfl <| Lx.y (mv rfl) rfl <| Lx.nil <| ?_
      exact Xx.againK ⟨k + 1, by omega, rfl, rfl, rfl, rfl⟩ (by omega) (Sub.consE (s := 3) rfl (by rw [crcTo_take l k (by omega)]) (Sc 7 rfl (Sc 0 rfl (Sc 2 rfl (Sc 5 rfl (Sc 6 rfl (Sub.nil _)))))))
  · skip
    obtain rfl : k = l.length := by omega
    rw [List.take_length]
    refine Cx.exit <| Xx.te <| Xx.te <| Xx.bh <| ?_
    refine Xx.tn (k3 _ _ _ _ ?_)
    refine Cq (fun K16 k16 => ?_)
    refine Cr <| Lx.y (mv rfl) rfl <| Lx.y (complW32 rfl) rfl <| Lx.y (asg rfl) rfl <| Lx.nil <| ?_
    refine Xx.tn (k16 _ _ _ _ ?_)
    refine Cx.ret ?_
    exact Xx.rB1 rfl rfl ⟨rfl, rfl⟩ (Fl _) rfl
def halfBit (n : BitVec 32) : BitVec 32 := if n % 2#32 = 1#32 then n / 2#32 ^^^ 3988292384#32 else n / 2#32
def halfBits : Nat → BitVec 32 → BitVec 32
  | 0, h => h
  | n + 1, h => halfBit (halfBits n h)
def refMid (h : BitVec 32) : BitVec 32 := h / 16#32 ^^^ halfBits 4 (h % 16#32)
def refStep (h : BitVec 32) (b : UInt8) : BitVec 32 := refMid (refMid (h ^^^ BitVec.ofInt 32 (b.toNat : Nat)))
def refTo (l : List UInt8) : BitVec 32 := l.foldl refStep 4294967295#32
def refCrc (l : List UInt8) : BitVec 32 := 4294967295#32 - refTo l
def fourL (n : BitVec 32) : List UInt8 := [toB (n.toNat : Nat), toB ((n >>> 8).toNat : Nat), toB ((n >>> 16).toNat : Nat), toB ((n >>> 24).toNat : Nat)]
def refFourL (n : BitVec 32) : List UInt8 := [toB ((n % 256#32).toNat : Nat), toB ((n / 256#32 % 256#32).toNat : Nat), toB ((n / 65536#32 % 256#32).toNat : Nat), toB ((n / 16777216#32).toNat : Nat)]
@[simp] theorem fourL_len (n : BitVec 32) : (fourL n).length = 4 := rfl
@[simp] theorem refFourL_len (n : BitVec 32) : (refFourL n).length = 4 := rfl
def bW (b : UInt8) : BitVec 32 := BitVec.ofInt 32 (b.toNat : Nat)
def numL (l : List UInt8) : BitVec 32 := bW (l.getD 0 0) ||| bW (l.getD 1 0) <<< 8 ||| bW (l.getD 2 0) <<< 16 ||| bW (l.getD 3 0) <<< 24
def refNumL (l : List UInt8) : Int := ((l.getD 0 0).toNat : Nat) + ((l.getD 1 0).toNat : Nat) * 256 + ((l.getD 2 0).toNat : Nat) * 65536 + ((l.getD 3 0).toNat : Nat) * 16777216
set_option maxHeartbeats 1000000 in
theorem four_ct (n : BitVec 32) (B : Frag) : CtP Tryz.prog 155 [u32 n] B (str (fourL n)) := by
 refine CtB.of_body Tryz.func155 rfl (nt := 16) rfl (by kernel_rfl) rfl ?_
 intro N0 w0 R
 refine Cq (fun K1 k1 => ?_)
 refine Cr <| Lx.y (asg rfl) rfl <| Lx.nil <| ?_
 refine Xx.tn (k1 _ _ _ _ ?_)
 refine Cq (fun K2 k2 => ?_)
 refine Cr <| Lx.y (mv rfl) rfl <| Lx.y (cvI rfl U104 U5 (wrap_u8 _)) rfl <| Lx.y (mv rfl) rfl <| Lx.y (shrW32 (c := 8) rfl rfl rfl) rfl <| Lx.y (cvI rfl U104 U5 (wrap_u8 _)) rfl <| Lx.y (mv rfl) rfl <| Lx.y (shrW32 (c := 16) rfl rfl rfl) rfl <| Lx.y (cvI rfl U104 U5 (wrap_u8 _)) rfl <| Lx.y (mv rfl) rfl <| Lx.y (shrW32 (c := 24) rfl rfl rfl) rfl <| Lx.y (cvI rfl U104 U5 (wrap_u8 _)) rfl <| ?_
 refine Lx.bsl (bsl1 U107 ti5 rfl rfl rfl (by decide)) rfl (fun b3 => ?_)
 refine Lx.y (b2sR U107 U5 U9 rfl (u8s_cons (u8s_cons (u8s_cons (u8s_cons u8s_nil)))) rfl) rfl <| Lx.y (asg rfl) rfl <| Lx.nil <| ?_
 refine Xx.tn (k2 _ _ _ _ ?_)
 refine Cx.ret ?_
 refine Xx.drop ?_
 exact Xx.rB1 rfl rfl ⟨rfl, rfl⟩ (Fl _) rfl
set_option maxHeartbeats 1000000 in
theorem number_ct (l : List UInt8) (B : Frag) (hl : 4 ≤ l.length) : CtP Tryz.prog 174 [str l] B (u32 (numL l)) := by
 refine CtB.of_body Tryz.func174 rfl (nt := 21) rfl (by kernel_rfl) rfl ?_
 intro N0 w0 R
 refine Cq (fun K1 k1 => ?_)
 refine Cr <| Lx.y (asg rfl) rfl <| Lx.nil <| ?_
 refine Xx.tn (k1 _ _ _ _ ?_)
 refine Cq (fun K2 k2 => ?_)
 refine Cx.drawn (by kernel_rfl) ?_
 refine Dx.p (i := 0) rfl (by kernel_rfl) (mv rfl) rfl ?_
 refine Dx.p (i := 1) rfl (by kernel_rfl) (ixS U9 rfl rfl (show Int.toNat _ = 0 from rfl) (by omega) (by omega)) rfl ?_
 refine Dx.p (i := 2) rfl (by kernel_rfl) (cvW32 rfl U5 U104) rfl ?_
 refine Dx.p (i := 3) rfl (by kernel_rfl) (mv rfl) rfl ?_
 refine Dx.p (i := 4) rfl (by kernel_rfl) (ixS U9 rfl rfl (show Int.toNat _ = 1 from rfl) (by omega) (by omega)) rfl ?_
 refine Dx.p (i := 5) rfl (by kernel_rfl) (cvW32 rfl U5 U104) rfl ?_
 refine Dx.p (i := 6) rfl (by kernel_rfl) (shlW32 (c := 8) rfl rfl rfl) rfl ?_
 refine Dx.p (i := 7) rfl (by kernel_rfl) (orW32 rfl rfl) rfl ?_
 refine Dx.p (i := 8) rfl (by kernel_rfl) (mv rfl) rfl ?_
 refine Dx.p (i := 9) rfl (by kernel_rfl) (ixS U9 rfl rfl (show Int.toNat _ = 2 from rfl) (by omega) (by omega)) rfl ?_
 refine Dx.p (i := 10) rfl (by kernel_rfl) (cvW32 rfl U5 U104) rfl ?_
 refine Dx.p (i := 11) rfl (by kernel_rfl) (shlW32 (c := 16) rfl rfl rfl) rfl ?_
 refine Dx.p (i := 12) rfl (by kernel_rfl) (orW32 rfl rfl) rfl ?_
 refine Dx.p (i := 13) rfl (by kernel_rfl) (mv rfl) rfl ?_
 refine Dx.p (i := 14) rfl (by kernel_rfl) (ixS U9 rfl rfl (show Int.toNat _ = 3 from rfl) (by omega) (by omega)) rfl ?_
 refine Dx.p (i := 15) rfl (by kernel_rfl) (cvW32 rfl U5 U104) rfl ?_
 refine Dx.p (i := 16) rfl (by kernel_rfl) (shlW32 (c := 24) rfl rfl rfl) rfl ?_
 refine Dx.p (i := 17) rfl (by kernel_rfl) (orW32 rfl rfl) rfl ?_
 refine Dx.p (i := 18) rfl (by kernel_rfl) (asg rfl) rfl ?_
 refine Dx.done (by kernel_rfl) ?_
 refine Xx.tn (k2 _ _ _ _ ?_)
 refine Cx.ret ?_
 exact Xx.rB1 rfl rfl ⟨rfl, rfl⟩ (Fl _) rfl
def headL (l : List UInt8) : List UInt8 := fourL (BitVec.ofInt 32 (l.length : Nat)) ++ fourL (crc (fourL (BitVec.ofInt 32 (l.length : Nat)))) ++ fourL (crc l)
@[simp] theorem headL_len (l : List UInt8) : (headL l).length = 12 := by simp [headL]
def refFrameL (l : List UInt8) : List UInt8 := refFourL (BitVec.ofInt 32 (l.length : Nat)) ++ refFourL (refCrc (refFourL (BitVec.ofInt 32 (l.length : Nat)))) ++ refFourL (refCrc l) ++ l
def makeV (l : List UInt8) : Value := if (65536 : Int) < (l.length : Nat) then .tuple #[str [], i64 3] else .tuple #[str (headL l ++ l), i64 0]
set_option maxHeartbeats 1000000 in
theorem Head_ct (l : List UInt8) (B : Frag) (hl : l.length ≤ 4611686018427387904) : CtP Tryz.prog 127 [str l] B (str (headL l)) := by
 refine CtB.of_body Tryz.func127 rfl (nt := 17) rfl (by kernel_rfl) rfl ?_
 intro N0 w0 R
 refine Cq (fun K1 k1 => ?_)
 refine Cr <| Lx.y (asg rfl) rfl <| Lx.nil <| ?_
 refine Xx.tn (k1 _ _ _ _ ?_)
 refine Cq (fun K2 k2 => ?_)
 refine Cr <| Lx.y (mv rfl) rfl <| Lx.y (lenS U9 rfl) rfl <| Lx.y (cvW32 rfl U3 U104) rfl <| ?_
 refine Lx.cp rfl rfl rfl (four_ct _ _) rfl ?_
 refine Lx.y (asg rfl) rfl <| Lx.nil <| ?_
 refine Xx.tn (k2 _ _ _ _ ?_)
 refine Cq (fun K3 k3 => ?_)
 refine Cr <| Lx.y (mv rfl) rfl <| Lx.y (mv rfl) rfl <| ?_
 refine Lx.cp rfl rfl rfl (Check_ct _ _ (by first | omega | (simp <;> omega))) rfl ?_
 refine Lx.cp rfl rfl rfl (four_ct _ _) rfl ?_
 refine Lx.y (catS rfl rfl (by first | omega | (simp <;> omega))) rfl <| Lx.y (mv rfl) rfl <| ?_
 refine Lx.cp rfl rfl rfl (Check_ct _ _ (by first | omega | (simp <;> omega))) rfl ?_
 refine Lx.cp rfl rfl rfl (four_ct _ _) rfl ?_
 refine Lx.y (catS rfl rfl (by first | omega | (simp <;> omega))) rfl <| Lx.y (asg rfl) rfl <| Lx.nil <| ?_
 refine Xx.tn (k3 _ _ _ _ ?_)
 refine Cx.ret ?_
 exact Xx.rB1 rfl rfl ⟨rfl, rfl⟩ (Fl _) rfl
set_option maxHeartbeats 1000000 in
theorem Make_ct (l : List UInt8) (B : Frag) (hl : l.length ≤ 4611686018427387904) : CtP Tryz.prog 87 [str l] B (makeV l) := by
 refine CtB.of_body Tryz.func87 rfl (nt := 11) rfl (by kernel_rfl) rfl ?_
 intro N0 w0 R
 refine Cq (fun K1 k1 => ?_)
 refine Cr <| Lx.y (asg rfl) rfl <| Lx.y (asg rfl) rfl <| Lx.nil <| ?_
 refine Xx.tn (k1 _ _ _ _ ?_)
 refine Cq (fun K2 k2 => ?_)
 refine Cq (fun K3 k3 => ?_)
 refine Cr <| Lx.y (mv rfl) rfl <| Lx.y (lenS U9 rfl) rfl <| Lx.y (gtr rfl rfl) rfl <| Lx.nil <| ?_
 refine Xx.tn (k3 _ _ _ _ ?_)
 refine Cx.condD rfl (fun h4 => ?_) (fun h4 => ?_)
 ·
  have h3 := h4
  refine Cq (fun K5 k5 => ?_)
  refine Cr <| Lx.y (asg rfl) rfl <| Lx.y (asg rfl) rfl <| Lx.nil <| ?_
  refine Xx.tn (k5 _ _ _ _ ?_)
  refine Cx.ret <| Xx.tr <| ?_
  exact Xx.rB2 rfl rfl rfl ⟨by simp only [makeV]; rw [if_pos h3], rfl⟩ (Fl _) rfl
 ·
  have h3 := h4
  refine Cx.skip ?_
  refine Xx.tn (k2 _ _ _ _ ?_)
  refine Cq (fun K6 k6 => ?_)
  refine Cr <| Lx.y (mv rfl) rfl <| ?_
  refine Lx.cp rfl rfl rfl (Head_ct _ _ hl) rfl ?_
  refine Lx.y (mv rfl) rfl <| Lx.y (catS rfl rfl (by first | omega | (simp <;> omega))) rfl <| Lx.y (asg rfl) rfl <| Lx.y (asg rfl) rfl <| Lx.nil <| ?_
  refine Xx.tn (k6 _ _ _ _ ?_)
  refine Cx.ret ?_
  exact Xx.rB2 rfl rfl rfl ⟨by simp only [makeV]; rw [if_neg h3], rfl⟩ (Fl _) rfl
def fewL (l : List UInt8) : List UInt8 := if (300 : Int) < (l.length : Nat) then l.take 300 else l
end Fr1
end Go.Proofs.YthlfffbcligocaaGreat
namespace Go.Proofs.YthlfffbcligocaaGreat
open Go.SL Go.RowKit
set_option maxRecDepth 100000
open Fr1
namespace Fr2
theorem sz168 : (Tryz.prog.info? 168).map (·.size) = some 3 := by kernel_rfl
theorem ti168 : TI Tryz.prog 168 [.int .i64 0, str [], .bool false] 3 32 := TI.of (by kernel_rfl) rfl rfl
theorem fo168_0 : FO Tryz.prog 168 0 0 1 false := FO.of U168 rfl rfl (by kernel_rfl) U3 rfl rfl
theorem fo168_1 : FO Tryz.prog 168 1 1 1 false := FO.of U168 rfl rfl (by kernel_rfl) U9 rfl rfl
theorem pl168 : PL Tryz.prog 168 [(0, 1), (1, 1), (2, 1)] := PL.of U168 (by kernel_rfl)
structure Fm where
  pos : Nat
  body : List UInt8
  good : Bool
def nextF (l : List UInt8) (a : Nat) : Option Fm :=
  if (l.length : Int) - a < 12 then none
  else if (65536 : Int) < ((numL (l.drop a)).toNat : Nat) then none
  else if ¬ numL (l.drop (a + 4)) = crc ((l.take (a + 4)).drop a) then none
  else if (l.length : Int) - a - 12 < ((numL (l.drop a)).toNat : Nat) then none
  else some ⟨a + 12, (l.take (a + 12 + (numL (l.drop a)).toNat)).drop (a + 12), decide (numL (l.drop (a + 8)) = crc ((l.take (a + 12 + (numL (l.drop a)).toNat)).drop (a + 12)))⟩
def fmV (f : Fm) : Value := .agg #[i64 f.pos, str f.body, .bool f.good]
def nextV (l : List UInt8) (a : Nat) : Value := match nextF l a with
  | none => .tuple #[.agg #[i64 0, str [], .bool false], .bool false]
  | some f => .tuple #[fmV f, .bool true]
theorem nextV_no {l : List UInt8} {a : Nat} (h : nextF l a = none) : nextV l a = .tuple #[.agg [i64 0, str [], .bool false].toArray, .bool false] := by unfold nextV; rw [h]
theorem nextV_yes {l : List UInt8} {a : Nat} {f : Fm} (h : nextF l a = some f) : nextV l a = .tuple #[.agg [i64 f.pos, str f.body, .bool f.good].toArray, .bool true] := by unfold nextV; rw [h]; rfl
set_option maxHeartbeats 1000000 in
theorem next_ct (l : List UInt8) (a : Nat) (B : Frag) (hl : l.length ≤ 4611686018427387904) (ha : a ≤ l.length) : CtP Tryz.prog 161 [str l, i64 a] B (nextV l a) := by
 refine CtB.of_body Tryz.func161 rfl (nt := 66) rfl (by kernel_rfl) rfl ?_
 intro N0 w0 R
 refine Cq (fun K1 k1 => ?_)
 refine Cr ?_
 refine Lx.new (allocO ti168) rfl (fun b2 => ?_)
 refine Lx.y (asg rfl) rfl <| Lx.nil <| ?_
 refine Xx.tn (k1 _ _ _ _ ?_)
 refine Cq (fun K3 k3 => ?_)
 refine Cq (fun K4 k4 => ?_)
 refine Cr <| Lx.y (mv rfl) rfl <| Lx.y (lenS U9 rfl) rfl <| Lx.y (mv rfl) rfl <| Lx.y (sub rfl rfl (by first | exact wrap64 (by omega) (by omega) | rfl)) rfl <| Lx.y (lss rfl rfl) rfl <| Lx.nil <| ?_
 refine Xx.tn (k4 _ _ _ _ ?_)
 refine Cx.condD rfl (fun h5 => ?_) (fun h5 => ?_)
 ·
  have q0 := h5
  refine Cq (fun K6 k6 => ?_)
  refine Cr <| Lx.y (bld ti168 pl168 rfl rfl) rfl <| ?_
  refine Lx.st (stA (d := .bool) sz168 rfl rfl rfl rfl (by simp) rfl) ?_
  refine Lx.y (asg rfl) rfl <| Lx.nil <| ?_
  refine Xx.tn (k6 _ _ _ _ ?_)
  refine Cx.ret <| Xx.tr <| ?_
  exact Xx.rBc rfl U168 rfl sz168 rfl rfl rfl ⟨(nextV_no (by unfold nextF; rw [if_pos q0])).symm, rfl⟩ (Fl _)
 ·
  have q0 := h5
  refine Cx.skip ?_
  refine Xx.tn (k3 _ _ _ _ ?_)
  refine Cq (fun K7 k7 => ?_)
  refine Cr <| Lx.y (mv rfl) rfl <| Lx.y (mv rfl) rfl <| Lx.y (sl1S U9 rfl rfl (by first | exact Int.toNat_natCast _ | rfl) (by omega) (by omega)) rfl <| ?_
  refine Lx.cp rfl rfl rfl (number_ct _ _ (by simp; omega)) rfl ?_
  refine Lx.y (asg rfl) rfl <| Lx.nil <| ?_
  refine Xx.tn (k7 _ _ _ _ ?_)
  refine Cq (fun K8 k8 => ?_)
  refine Cq (fun K9 k9 => ?_)
  refine Cx.drawn (by kernel_rfl) ?_
  refine Dx.p (i := 0) rfl (by kernel_rfl) (mv rfl) rfl ?_
  refine Dx.p (i := 1) rfl (by kernel_rfl) (gtr rfl rfl) rfl ?_
  refine Dx.p (i := 2) rfl (by kernel_rfl) (mv rfl) rfl ?_
  refine Xx.ifD (t := 21) rfl (fun h10 => ?_) (fun h10 => ?_)
  ·
   have q1 := h10
   refine Dx.pF (i := 3) rfl (fun _ h => by cases h) rfl rfl rfl (by kernel_rfl) rfl ?_
   refine Dx.pF (i := 4) rfl (fun _ h => by cases h) rfl rfl rfl (by kernel_rfl) rfl ?_
   refine Dx.pF (i := 5) rfl (fun _ h => by cases h) rfl rfl rfl (by kernel_rfl) rfl ?_
   refine Dx.pF (i := 6) rfl (fun _ h => by cases h) rfl rfl rfl (by kernel_rfl) rfl ?_
   refine Dx.pF (i := 7) rfl (fun _ h => by cases h) rfl rfl rfl (by kernel_rfl) rfl ?_
   refine Dx.pF (i := 8) rfl (fun _ h => by cases h) rfl rfl rfl (by kernel_rfl) rfl ?_
   refine Dx.pF (i := 9) rfl (fun _ h => by cases h) rfl rfl rfl (by kernel_rfl) rfl ?_
   refine Dx.pF (i := 10) rfl (fun _ h => by cases h) rfl rfl rfl (by kernel_rfl) rfl ?_
   refine Dx.pF (i := 11) rfl (fun _ h => by cases h) rfl rfl rfl (by kernel_rfl) rfl ?_
   refine Dx.pF (i := 12) rfl (fun _ h => by cases h) rfl rfl rfl (by kernel_rfl) rfl ?_
   refine Dx.pF (i := 13) rfl (fun _ h => by cases h) rfl rfl rfl (by kernel_rfl) rfl ?_
   refine Dx.pF (i := 14) rfl (fun _ h => by cases h) rfl rfl rfl (by kernel_rfl) rfl ?_
   refine Dx.p (i := 15) rfl (by kernel_rfl) (pickT rfl rfl) rfl ?_
   refine Dx.p (i := 16) rfl (by kernel_rfl) (mv rfl) rfl ?_
   refine Dx.pF (i := 17) rfl (fun _ h => by cases h) rfl rfl rfl (by kernel_rfl) rfl ?_
   refine Dx.pF (i := 18) rfl (fun _ h => by cases h) rfl rfl rfl (by kernel_rfl) rfl ?_
   refine Dx.pF (i := 19) rfl (fun _ h => by cases h) rfl rfl rfl (by kernel_rfl) rfl ?_
   refine Dx.pF (i := 20) rfl (fun _ h => by cases h) rfl rfl rfl (by kernel_rfl) rfl ?_
   refine Dx.pF (i := 21) rfl (fun _ h => by cases h) rfl rfl rfl (by kernel_rfl) rfl ?_
   refine Dx.pF (i := 22) rfl (fun _ h => by cases h) rfl rfl rfl (by kernel_rfl) rfl ?_
   refine Dx.pF (i := 23) rfl (fun _ h => by cases h) rfl rfl rfl (by kernel_rfl) rfl ?_
   refine Dx.pF (i := 24) rfl (fun _ h => by cases h) rfl rfl rfl (by kernel_rfl) rfl ?_
   refine Dx.p (i := 25) rfl (by kernel_rfl) (pickT rfl rfl) rfl ?_
   refine Dx.done (by kernel_rfl) ?_
   refine Xx.tn (k9 _ _ _ _ ?_)
   refine Cx.condT rfl ?_
   refine Cq (fun K11 k11 => ?_)
   refine Cr <| Lx.y (bld ti168 pl168 rfl rfl) rfl <| ?_
   refine Lx.st (stA (d := .bool) sz168 rfl rfl rfl rfl (by simp) rfl) ?_
   refine Lx.y (asg rfl) rfl <| Lx.nil <| ?_
   refine Xx.tn (k11 _ _ _ _ ?_)
   refine Cx.ret <| Xx.tr <| ?_
   exact Xx.rBc rfl U168 rfl sz168 rfl rfl rfl ⟨(nextV_no (by unfold nextF; rw [if_neg q0, if_pos q1])).symm, rfl⟩ (Fl _)
  ·
   have q1 := h10
   have hn := (numL (l.drop a)).isLt
   refine Dx.pT (i := 3) rfl rfl rfl rfl (by kernel_rfl) (mv rfl) rfl ?_
   refine Dx.pT (i := 4) rfl rfl rfl rfl (by kernel_rfl) (mv rfl) rfl ?_
   refine Dx.pT (i := 5) rfl rfl rfl rfl (by kernel_rfl) (add rfl rfl (by first | exact wrap64 (by omega) (by omega) | rfl)) rfl ?_
   refine Dx.pT (i := 6) rfl rfl rfl rfl (by kernel_rfl) (sl1S U9 rfl rfl (by first | exact Int.toNat_natCast _ | rfl) (by omega) (by omega)) rfl ?_
   refine Dx.pT (i := 8) rfl rfl rfl rfl (by kernel_rfl) (mv rfl) rfl ?_
   refine Dx.pT (i := 9) rfl rfl rfl rfl (by kernel_rfl) (mv rfl) rfl ?_
   refine Dx.pT (i := 10) rfl rfl rfl rfl (by kernel_rfl) (mv rfl) rfl ?_
   refine Dx.pT (i := 11) rfl rfl rfl rfl (by kernel_rfl) (add rfl rfl (by first | exact wrap64 (by omega) (by omega) | rfl)) rfl ?_
   refine Dx.pT (i := 12) rfl rfl rfl rfl (by kernel_rfl) (sl3S U9 rfl rfl rfl (by first | exact Int.toNat_natCast _ | rfl) (by first | exact Int.toNat_natCast _ | rfl) (by omega) (by omega) (by omega)) rfl ?_
   refine Dx.one (i := 7) (by kernel_rfl) ?_
   refine Dstep.oT (i := 7) rfl rfl rfl rfl (Ox.cb rfl rfl rfl (number_ct _ _ (by simp; omega))) rfl (fun v B' H' hΦ hB => ?_)
   obtain ⟨rfl, rfl, rfl⟩ := hΦ; clear hB
   refine ⟨Jt, ?_⟩
   refine Dx.one (i := 13) (by kernel_rfl) ?_
   refine Dstep.oT (i := 13) rfl rfl rfl rfl (Ox.cb rfl rfl rfl (Check_ct _ _ (by simp; omega))) rfl (fun v B' H' hΦ hB => ?_)
   obtain ⟨rfl, rfl, rfl⟩ := hΦ; clear hB
   refine ⟨Jt, ?_⟩
   refine Dx.pT (i := 14) rfl rfl rfl rfl (by kernel_rfl) (neW32 rfl rfl) rfl ?_
   refine Dx.p (i := 15) rfl (by kernel_rfl) (pickF rfl rfl) rfl ?_
   refine Dx.p (i := 16) rfl (by kernel_rfl) (mv rfl) rfl ?_
   refine Xx.ifN (t := 35) rfl (fun h12 => ?_) (fun h12 => ?_)
   ·
    have q2 := h12
    refine Dx.pF (i := 17) rfl (fun _ h => by cases h) rfl rfl rfl (by kernel_rfl) rfl ?_
    refine Dx.pF (i := 18) rfl (fun _ h => by cases h) rfl rfl rfl (by kernel_rfl) rfl ?_
    refine Dx.pF (i := 19) rfl (fun _ h => by cases h) rfl rfl rfl (by kernel_rfl) rfl ?_
    refine Dx.pF (i := 20) rfl (fun _ h => by cases h) rfl rfl rfl (by kernel_rfl) rfl ?_
    refine Dx.pF (i := 21) rfl (fun _ h => by cases h) rfl rfl rfl (by kernel_rfl) rfl ?_
    refine Dx.pF (i := 22) rfl (fun _ h => by cases h) rfl rfl rfl (by kernel_rfl) rfl ?_
    refine Dx.pF (i := 23) rfl (fun _ h => by cases h) rfl rfl rfl (by kernel_rfl) rfl ?_
    refine Dx.pF (i := 24) rfl (fun _ h => by cases h) rfl rfl rfl (by kernel_rfl) rfl ?_
    refine Dx.p (i := 25) rfl (by kernel_rfl) (pickT rfl rfl) rfl ?_
    refine Dx.done (by kernel_rfl) ?_
    refine Xx.tn (k9 _ _ _ _ ?_)
    refine Cx.condT rfl ?_
    refine Cq (fun K13 k13 => ?_)
    refine Cr <| Lx.y (bld ti168 pl168 rfl rfl) rfl <| ?_
    refine Lx.st (stA (d := .bool) sz168 rfl rfl rfl rfl (by simp) rfl) ?_
    refine Lx.y (asg rfl) rfl <| Lx.nil <| ?_
    refine Xx.tn (k13 _ _ _ _ ?_)
    refine Cx.ret <| Xx.tr <| ?_
    exact Xx.rBc rfl U168 rfl sz168 rfl rfl rfl ⟨(nextV_no (by unfold nextF; rw [if_neg q0, if_neg q1, if_pos q2])).symm, rfl⟩ (Fl _)
   ·
    have q2 := h12
    refine Dx.pT (i := 17) rfl rfl rfl rfl (by kernel_rfl) (mv rfl) rfl ?_
    refine Dx.pT (i := 18) rfl rfl rfl rfl (by kernel_rfl) (cvI rfl U104 U3 (by first | exact wrap64 (by omega) (by omega) | rfl)) rfl ?_
    refine Dx.pT (i := 19) rfl rfl rfl rfl (by kernel_rfl) (mv rfl) rfl ?_
    refine Dx.pT (i := 20) rfl rfl rfl rfl (by kernel_rfl) (lenS U9 rfl) rfl ?_
    refine Dx.pT (i := 21) rfl rfl rfl rfl (by kernel_rfl) (mv rfl) rfl ?_
    refine Dx.pT (i := 22) rfl rfl rfl rfl (by kernel_rfl) (sub rfl rfl (by first | exact wrap64 (by omega) (by omega) | rfl)) rfl ?_
    refine Dx.pT (i := 23) rfl rfl rfl rfl (by kernel_rfl) (sub rfl rfl (by first | exact wrap64 (by omega) (by omega) | rfl)) rfl ?_
    refine Dx.pT (i := 24) rfl rfl rfl rfl (by kernel_rfl) (gtr rfl rfl) rfl ?_
    refine Dx.p (i := 25) rfl (by kernel_rfl) (pickF rfl rfl) rfl ?_
    refine Dx.done (by kernel_rfl) ?_
    refine Xx.tn (k9 _ _ _ _ ?_)
    refine Cx.condD rfl (fun h14 => ?_) (fun h14 => ?_)
    ·
     have q3 := h14
     refine Cq (fun K15 k15 => ?_)
     refine Cr <| Lx.y (bld ti168 pl168 rfl rfl) rfl <| ?_
     refine Lx.st (stA (d := .bool) sz168 rfl rfl rfl rfl (by simp) rfl) ?_
     refine Lx.y (asg rfl) rfl <| Lx.nil <| ?_
     refine Xx.tn (k15 _ _ _ _ ?_)
     refine Cx.ret <| Xx.tr <| ?_
     exact Xx.rBc rfl U168 rfl sz168 rfl rfl rfl ⟨(nextV_no (by unfold nextF; rw [if_neg q0, if_neg q1, if_neg (by simpa using q2), if_pos q3])).symm, rfl⟩ (Fl _)
    ·
     have q3 := h14
     refine Cx.skip ?_
     refine Xx.tn (k8 _ _ _ _ ?_)
     refine Cq (fun K16 k16 => ?_)
     refine Cr <| Lx.y (mv rfl) rfl <| Lx.y (add rfl rfl (by first | exact wrap64 (by omega) (by omega) | rfl)) rfl <| Lx.y (asg rfl) rfl <| Lx.nil <| ?_
     refine Xx.tn (k16 _ _ _ _ ?_)
     refine Cq (fun K17 k17 => ?_)
     refine Cr <| Lx.y (mv rfl) rfl <| Lx.y (mv rfl) rfl <| Lx.y (mv rfl) rfl <| Lx.y (mv rfl) rfl <| Lx.y (cvI rfl U104 U3 (by first | exact wrap64 (by omega) (by omega) | rfl)) rfl <| Lx.y (add rfl rfl (by first | exact wrap64 (by omega) (by omega) | rfl)) rfl <| Lx.y (sl3S U9 rfl rfl rfl (by first | exact Int.toNat_natCast _ | rfl) (by first | exact Int.toNat_natCast _ | rfl) (by omega) (by omega) (by omega)) rfl <| Lx.y (asg rfl) rfl <| Lx.nil <| ?_
     refine Xx.tn (k17 _ _ _ _ ?_)
     refine Cq (fun K18 k18 => ?_)
     refine Cr <| Lx.y (mv rfl) rfl <| Lx.y (mv rfl) rfl <| Lx.y (mv rfl) rfl <| Lx.y (mv rfl) rfl <| Lx.y (add rfl rfl (by first | exact wrap64 (by omega) (by omega) | rfl)) rfl <| Lx.y (sl1S U9 rfl rfl (by first | exact Int.toNat_natCast _ | rfl) (by omega) (by omega)) rfl <| ?_
     refine Lx.cp rfl rfl rfl (number_ct _ _ (by simp; omega)) rfl ?_
     refine Lx.y (mv rfl) rfl ?_
     refine Lx.cp rfl rfl rfl (Check_ct _ _ (by simp; omega)) rfl ?_
     refine Lx.y (eqW32 rfl rfl) rfl <| Lx.y (bld ti168 pl168 rfl rfl) rfl <| ?_
     refine Lx.st (stA (d := .bool) sz168 rfl rfl rfl rfl (by simp) rfl) ?_
     refine Lx.y (asg rfl) rfl <| Lx.nil <| ?_
     refine Xx.tn (k18 _ _ _ _ ?_)
     refine Cx.ret ?_
     refine Xx.rBc rfl U168 rfl sz168 rfl rfl rfl ⟨?_, rfl⟩ (Fl _)
     exact (nextV_yes (by unfold nextF; rw [if_neg q0, if_neg q1, if_neg (by simpa using q2), if_neg q3])).symm
def nx (l : List UInt8) (a : Nat) : Fm := (nextF l a).getD ⟨0, [], false⟩
theorem nextV_eq (l : List UInt8) (a : Nat) : nextV l a = .tuple #[.agg [i64 (nx l a).pos, str (nx l a).body, .bool (nx l a).good].toArray, .bool (nextF l a).isSome] := by
  unfold nextV nx; cases nextF l a <;> rfl
theorem nx_bound {l : List UInt8} {a : Nat} (ha : a ≤ l.length) (h : (nextF l a).isSome = true) : (nx l a).pos = a + 12 ∧ (nx l a).pos + (nx l a).body.length ≤ l.length := by
  unfold nx
  unfold nextF at *
  split at h
  · cases h
  · split at h
    · cases h
    · split at h
      · cases h
      · split at h
        · cases h
        · rename_i h1 h2 h3 h4
          rw [if_neg h1, if_neg h2, if_neg h3, if_neg h4]
          simp
          omega
def scanF (l : List UInt8) : Nat → Nat → List Fm
  | 0, _ => []
  | n + 1, a => if (nextF l a).isSome = true then nx l a :: scanF l n ((nx l a).pos + (nx l a).body.length) else []
def scanL (l : List UInt8) : List Fm := scanF l (l.length + 1) 0
theorem scanF_len (l : List UInt8) : ∀ (n a : Nat), a ≤ l.length → 12 * (scanF l n a).length + a ≤ l.length := by
  intro n
  induction n with
  | zero => intro a ha; simpa [scanF] using ha
  | succ n ih =>
    intro a ha
    unfold scanF
    split
    · rename_i h
      have h1 := nx_bound ha h
      have h2 := ih ((nx l a).pos + (nx l a).body.length) h1.2
      simp only [List.length_cons]
      omega
    · simpa using ha
theorem scanF_mem (l : List UInt8) : ∀ (n a : Nat), a ≤ l.length → ∀ f ∈ scanF l n a, f.pos + f.body.length ≤ l.length := by
  intro n
  induction n with
  | zero => intro a ha f hf; simp [scanF] at hf
  | succ n ih =>
    intro a ha f hf
    unfold scanF at hf
    split at hf
    · rename_i h
      have h1 := nx_bound ha h
      rcases List.mem_cons.1 hf with rfl | h2
      · exact h1.2
      · exact ih _ h1.2 f h2
    · cases hf
theorem next_ct' (l : List UInt8) (a : Nat) (B : Frag) (hl : l.length ≤ 4611686018427387904) (ha : a ≤ l.length) : CtP Tryz.prog 161 [str l, i64 a] B (.tuple #[.agg [i64 (nx l a).pos, str (nx l a).body, .bool (nx l a).good].toArray, .bool (nextF l a).isSome]) := by
  rw [← nextV_eq]; exact next_ct l a B hl ha
def endL (xs : List Fm) : Nat := match xs.getLast? with
  | none => 0
  | some f => f.pos + f.body.length
@[simp] theorem endL_snoc (xs : List Fm) (x : Fm) : endL (xs ++ [x]) = x.pos + x.body.length := by simp [endL]
def flatF (xs : List Fm) : List Value := xs.flatMap fun f => [i64 f.pos, str f.body, .bool f.good]
@[simp] theorem flatF_snoc (xs : List Fm) (x : Fm) : flatF (xs ++ [x]) = flatF xs ++ [i64 x.pos, str x.body, .bool x.good] := by simp [flatF]
set_option maxHeartbeats 1000000 in
theorem All_ct (l : List UInt8) (B : Frag) : CtB Tryz.prog 133 [str l] B (fun v B' => ∃ b, v = .func (.func 160) #[] #[.pointer (some ⟨b, 0, none⟩)] ∧ B' b = some (.cells [str l].toArray 9 (0, 0))) := by
 refine CtB.of_body Tryz.func133 rfl (nt := 4) rfl (by kernel_rfl) rfl ?_
 intro N0 w0 R
 refine Cq (fun K1 k1 => ?_)
 refine Cr ?_
 refine Lx.new (boxO rfl rfl) rfl (fun bb => ?_)
 refine Lx.y (asg rfl) rfl <| Lx.nil <| ?_
 refine Xx.tn (k1 _ _ _ _ ?_)
 refine Cq (fun K2 k2 => ?_)
 refine Cr <| Lx.y (mkf rfl rfl) rfl <| Lx.y (asg rfl) rfl <| Lx.nil <| ?_
 refine Xx.tn (k2 _ _ _ _ ?_)
 refine Cx.ret ?_
 refine Xx.freezeB bb fun B2 hB2 hb => ?_
 exact Xx.rB1 rfl rfl ⟨bb, rfl, hb⟩ hB2 rfl
set_option maxHeartbeats 1000000 in
theorem All1_it (l : List UInt8) (b : Nat) (B : Frag) (hl : l.length ≤ 4611686018427387904) (hb : B b = some (.cells [str l].toArray 9 (0, 0))) : It Tryz.prog 160 [.pointer (some ⟨b, 0, none⟩)] (fun f => [fmV f]) (scanL l) B 1 := by
 refine ⟨Go.SL.enters_of Tryz.func160 rfl (by kernel_rfl), fun lp J Jx hy B1 H1 hB1 hJ0 => ?_⟩
 refine Ct.of_body Tryz.func160 rfl (nt := 26) rfl (by kernel_rfl) rfl ?_
 intro N0 w0 R
 rw [one_star]
 refine Cq (fun K1 k1 => ?_)
 refine Cr <| Lx.y (asg rfl) rfl <| Lx.nil <| ?_
 refine Xx.tn (k1 _ _ _ _ ?_)
 refine Cx.block ?_
 refine Cx.loopK (Sc 0 rfl (Sc 1 rfl (Sub.nil _))) (fun m ρ' B' H' => ∃ (n a : Nat) (pre : List Fm) (B2 : Frag) (H2 : HP), (scanL l = pre ++ scanF l n a ∧ l.length < n + a ∧ a ≤ l.length ∧ J pre B2 H2 ∧ B1.le B2) ∧ m = 1 + n ∧ ρ' = [(3, i64 a)] ∧ B2 = B' ∧ H2 * R = H') ⟨l.length + 1, 0, [], B1, H1, ⟨rfl, by omega, by omega, hJ0, Fl _⟩, rfl, rfl, rfl, rfl⟩ (Sc 3 rfl (Sc 0 rfl (Sc 1 rfl (Sub.nil _)))) ?_
 rintro m ρ' B' H' ⟨n, a, pre, B2, H2, ⟨hxs, hn, ha, hJ, hB2⟩, rfl, rfl, rfl, rfl⟩
 obtain ⟨n, rfl⟩ : ∃ k, n = k + 1 := ⟨n - 1, by omega⟩
 refine Cx.block ?_
 refine Cq (fun K2 k2 => ?_)
 refine Cr <| Lx.y (ldB U9 rfl rfl (hB2 _ _ (hB1 _ _ hb)) rfl) rfl <| Lx.y (mv rfl) rfl <| ?_
 refine Lx.cp rfl rfl rfl (next_ct' l a _ hl ha) rfl ?_
 refine Lx.y (mv rfl) rfl <| Lx.y (ext rfl rfl) rfl <| Lx.y (ext rfl rfl) rfl <| ?_
 refine Lx.new (allocO ti168) rfl (fun b4 => ?_)
 refine Lx.st (stA (d := .bool) sz168 rfl rfl rfl rfl (by simp) rfl) ?_
 refine Lx.y (asg rfl) rfl <| Lx.nil <| ?_
 refine Xx.tn (k2 _ _ _ _ ?_)
 refine Cq (fun K3 k3 => ?_)
 refine Cq (fun K4 k4 => ?_)
 refine Cr <| Lx.y (mv rfl) rfl <| Lx.y (not' rfl) rfl <| Lx.y (mv rfl) rfl <| ?_
 refine Xx.ifB (t := 14) rfl (fun h5 => ?_) (fun h5 => ?_)
 ·
  have his : ¬ (nextF l a).isSome = true := by simpa using h5
  have hxs2 : scanL l = pre := by rw [hxs, scanF, if_neg his]; simp
  refine Lx.gF rfl rfl rfl rfl <| Lx.gF rfl rfl rfl rfl <| Lx.gF rfl rfl rfl rfl <| Lx.gF rfl rfl rfl rfl <| Lx.y (pickT rfl rfl) rfl <| Lx.nil <| ?_
  refine Xx.tn (k4 _ _ _ _ ?_)
  refine Cx.condT rfl <| Cx.ret <| Xx.tr <| ?_
  refine Xx.br ?_
  refine Xx.tr ?_
  refine Xx.br ?_
  refine Xx.dropB b4 ?_
  exact Xx.ret0 rfl ⟨H2, (one_star H2).symm, .inl (hxs2 ▸ hJ)⟩ hB2 rfl
 ·
  have his : (nextF l a).isSome = true := by simpa using h5
  have hnb := nx_bound ha his
  have hxs2 : scanL l = (pre ++ [nx l a]) ++ scanF l n ((nx l a).pos + (nx l a).body.length) := by rw [hxs, scanF, if_pos his]; simp
  refine Lx.gT rfl rfl rfl <| Lx.y (mv rfl) rfl <| Lx.gT rfl rfl rfl <| Lx.y (ldA U168 rfl sz168 rfl (Co (n := 3) Pe rfl) rfl) rfl <| Lx.gT rfl rfl rfl <| ?_
  refine Lx.yield rfl rfl (hy pre (nx l a) (scanF l n ((nx l a).pos + (nx l a).body.length)) B2 H2 (by rw [hxs2]; simp) (Fz hB1 hB2) hJ) (star_left _ _ _) rfl ?_
  rintro t B3 H3 hΦ hB3
  refine Lx.gT rfl rfl rfl <| Lx.y (not' rfl) rfl <| Lx.y (pickF rfl rfl) rfl <| Lx.nil <| ?_
  refine Xx.tn (k4 _ _ _ _ ?_)
  refine Cx.condB rfl (fun h6 => ?_) (fun h6 => ?_)
  ·
   obtain ⟨_, hΦ⟩ : t = false ∧ Jx (pre ++ [nx l a]) B3 H3 := by simpa [show t = false by simpa using h6] using hΦ
   refine Cx.ret <| Xx.tr <| ?_
   refine Xx.br ?_
   refine Xx.tr ?_
   refine Xx.br ?_
   refine Xx.dropB b4 ?_
   exact Xx.ret0 rfl ⟨H3, (one_star H3).symm, .inr ⟨_, _, hxs2, hΦ⟩⟩ (Fz hB2 hB3) rfl
  ·
   obtain ⟨_, hΦ⟩ : t = true ∧ J (pre ++ [nx l a]) B3 H3 := by simpa [show t = true by simpa using h6] using hΦ
   refine Cx.skip ?_
   refine Xx.tn (k3 _ _ _ _ ?_)
   refine Cr <| Lx.y (fa' fo168_0 rfl) rfl <| Lx.y (ld U3 rfl rfl rfl) rfl <| Lx.y (fa' fo168_1 rfl) rfl <| Lx.y (ld U9 rfl rfl rfl) rfl <| Lx.y (lenS U9 rfl) rfl <| Lx.y (add rfl rfl (by first | exact wrap64 (by omega) (by omega) | rfl)) rfl <| Lx.y (asg rfl) rfl <| Lx.nil <| Xx.bn <| ?_
   refine Xx.dropB b4 ?_
   exact Xx.againK ⟨n, (nx l a).pos + (nx l a).body.length, pre ++ [nx l a], B3, H3, ⟨hxs2, by omega, hnb.2, hΦ, Fz hB2 hB3⟩, rfl, rfl, rfl, rfl⟩ (by omega) (Sc 3 rfl (Sc 0 rfl (Sc 1 rfl (Sub.nil _))))
end Fr2
end Go.Proofs.YthlfffbcligocaaGreat
namespace Go.Proofs.YthlfffbcligocaaGreat
open Go.SL Go.RowKit
set_option maxRecDepth 100000
open Fr1 Fr2
namespace Fr3
theorem sz3 : (Tryz.prog.info? 3).map (·.size) = some 1 := by kernel_rfl
theorem sz164 : (Tryz.prog.info? 164).map (·.size) = some 1 := by kernel_rfl
theorem sz168 : (Tryz.prog.info? 168).map (·.size) = some 3 := by kernel_rfl
theorem ti3 : TI Tryz.prog 3 [.int .i64 0] 1 8 := TI.of (by kernel_rfl) rfl rfl
theorem ti164 : TI Tryz.prog 164 [.slice none 0 0] 1 24 := TI.of (by kernel_rfl) rfl rfl
theorem ti168 : TI Tryz.prog 168 [.int .i64 0, str [], .bool false] 3 32 := TI.of (by kernel_rfl) rfl rfl
theorem fo168_0 : FO Tryz.prog 168 0 0 1 false := FO.of U168 rfl rfl (by kernel_rfl) U3 rfl rfl
theorem fo168_1 : FO Tryz.prog 168 1 1 1 false := FO.of U168 rfl rfl (by kernel_rfl) U9 rfl rfl
set_option maxHeartbeats 1000000 in
theorem Scan_ct (l : List UInt8) (B : Frag) (hl : l.length ≤ 1048576) : CtB Tryz.prog 103 [str l] B (fun v B' => ∃ A c, v = .tuple #[.slice A (scanL l).length c, i64 (endL (scanL l))] ∧ RoS B' 3 A (scanL l).length (flatF (scanL l)) ∧ (scanL l).length ≤ c) := by
 refine CtB.of_bodyM Tryz.func103 rfl (nt := 22) rfl (by kernel_rfl) rfl ?_
 intro N0 w0 R
 refine Cq (fun K1 k1 => ?_)
 refine Cr <| Lx.y (asg rfl) rfl <| Lx.y (asg rfl) rfl <| Lx.nil <| ?_
 refine Xx.tn (k1 _ _ _ _ ?_)
 refine Cq (fun K2 k2 => ?_)
 refine Cr ?_
 refine Lx.new (allocO ti164) rfl (fun bo => ?_)
 refine Lx.nil ?_
 refine Xx.tn (k2 _ _ _ _ ?_)
 refine Cq (fun K3 k3 => ?_)
 refine Cr ?_
 refine Lx.new (allocO ti3) rfl (fun be => ?_)
 refine Lx.st (stO U3 sz3 rfl rfl rfl (by simp) rfl) ?_
 refine Lx.nil ?_
 refine Xx.tn (k3 _ _ _ _ ?_)
 refine Cq (fun K4 k4 => ?_)
 refine Cq (fun K5 k5 => ?_)
 refine Cr <| Lx.y (mv rfl) rfl <| ?_
 refine Lx.cb rfl rfl rfl (All_ct l _) rfl ?_
 rintro v B2 ⟨bb, rfl, hbb⟩ hB2
 refine Lx.nil ?_
 refine Xx.tn (k5 _ _ _ _ ?_)
 refine Cx.block ?_
 refine Cx.rangeK (σ := _) (Sc 4 rfl (Sc 5 rfl (Sub.nil _))) rfl rfl (All1_it l bb B2 (by omega) hbb) (show _ = 1 * ((sbuf 168 3 none 0 0 [] * (row bo 164 [.slice none 0 0] * row be 3 [.int .i64 0])) * R) by rw [sbuf_nil, one_star, one_star]; ac_rfl) rfl (fun _ => rfl) (fun pre B' H' => ∃ A c n e xs, n = pre.length ∧ e = endL pre ∧ xs = flatF pre ∧ H' = sbuf 168 3 A n c xs * (row bo 164 [.slice A n c] * row be 3 [i64 e])) (fun _ _ _ _ => False) (fun pre x B1 ρ' B' H' => ∃ bf A c n e xs, n = pre.length ∧ e = endL pre ∧ xs = flatF pre ∧ ρ' = [(6, .pointer (some ⟨bf, 0, none⟩))] ∧ B' = B1 ∧ H' = row bf 168 [i64 x.pos, str x.body, .bool x.good] * (sbuf 168 3 A n c xs * (row bo 164 [.slice A n c] * row be 3 [i64 e]))) (⟨none, 0, 0, 0, [], rfl, rfl, rfl, rfl⟩) ?_ ?_ ?_ ?_
 ·rintro lz Nz wz pre x post B1 H1 F K hxs hB1 hJ hK
  obtain ⟨A, c, n, e, xs, hn, he, hxs2, rfl⟩ := hJ
  refine Cr ?_
  refine Lx.new (allocO ti168) rfl (fun bf => ?_)
  refine Lx.st (stA (d := .bool) sz168 rfl rfl rfl rfl (by simp) rfl) ?_
  refine Lx.nil ?_
  refine Xx.tn ?_
  exact Xx.sub (Xx.perm (hK _ _ _ ⟨bf, A, c, n, e, xs, hn, he, hxs2, rfl, rfl, rfl⟩ (Fl _)) (star_assoc _ _ _).symm) (Sc 6 rfl (Sc 4 rfl (Sc 5 rfl (Sub.nil _))))
 ·rintro lz Nz wz pre x post B1 F ρ' B' H' hxs hB1 hBx hAS
  obtain ⟨bf, A, c, n, e, xs, hn, he, hxs2, rfl, rfl, rfl⟩ := hAS
  have hlen := scanF_len l (l.length + 1) 0 (by omega)
  have hxl : (scanL l).length = pre.length + 1 + post.length := by rw [hxs]; simp; omega
  have hxb := scanF_mem l (l.length + 1) 0 (by omega) x (by show x ∈ scanL l; rw [hxs]; simp)
  unfold scanL at hxl
  simp only [star_assoc]
  refine Cx.block ?_
  refine Cx.drawn (by kernel_rfl) ?_
  refine Dx.r (i := 0) rfl (by kernel_rfl) (ld U164 rfl rfl rfl) rfl ?_
  refine Dx.r (i := 1) rfl (by kernel_rfl) (ldA U168 rfl sz168 rfl (Co (n := 3) Pe rfl) rfl) rfl ?_
  refine Dx.p (i := 4) rfl (by kernel_rfl) (fa' fo168_0 rfl) rfl ?_
  refine Dx.r (i := 5) rfl (by kernel_rfl) (ld U3 rfl rfl rfl) rfl ?_
  refine Dx.p (i := 6) rfl (by kernel_rfl) (fa' fo168_1 rfl) rfl ?_
  refine Dx.r (i := 7) rfl (by kernel_rfl) (ld U9 rfl rfl rfl) rfl ?_
  refine Dx.p (i := 8) rfl (by kernel_rfl) (lenS U9 rfl) rfl ?_
  refine Dx.p (i := 9) rfl (by kernel_rfl) (add rfl rfl (by first | exact wrap64 (by omega) (by omega) | rfl)) rfl ?_
  refine Dx.one (i := 2) (by kernel_rfl) ?_
  refine Dstep.o (i := 2) rfl (bslA U164 ti168 rfl rfl (by decide)) rfl (fun v B' H' hΦ hB => ?_)
  obtain ⟨b12, rfl, rfl, rfl⟩ := hΦ; clear hB
  refine ⟨Jy (Jy (Je (Jy (Jt) (ld U164 rfl rfl rfl)) (by kernel_rfl)) (ld U3 rfl rfl rfl)) (ld U9 rfl rfl rfl), ?_⟩
  refine Dx.one (i := 3) (by kernel_rfl) ?_
  refine Dstep.o (i := 3) rfl (appR U164 U164 ti168 rfl rfl rfl rfl rfl (by omega) (by omega)) rfl (fun v B' H' hΦ hB => ?_)
  obtain ⟨A2, c2, rfl, hA2, hl2, hc2, rfl, rfl⟩ := hΦ
  refine ⟨Jy (Jy (Jy (Je (Jt) (by kernel_rfl)) (ldA U168 rfl sz168 rfl (Co (n := 3) Pe rfl) rfl)) (ld U3 rfl rfl rfl)) (ld U9 rfl rfl rfl), ?_⟩
  refine Dx.one (i := 10) (by kernel_rfl) ?_
  refine Dstep.o0 (i := 10) rfl (stO U164 sz164 rfl rfl rfl (by simp) rfl) (fun v B' H' hΦ hB => ?_)
  obtain ⟨rfl, rfl⟩ := hΦ; clear hB v
  refine ⟨Jy (Jy (Je (Je (Jt) (by kernel_rfl)) (by kernel_rfl)) (ld U3 rfl rfl rfl)) (ld U9 rfl rfl rfl), ?_⟩
  refine Dx.one (i := 11) (by kernel_rfl) ?_
  refine Dstep.o0 (i := 11) rfl (stO U3 sz3 rfl rfl rfl (by simp) rfl) (fun v B' H' hΦ hB => ?_)
  obtain ⟨rfl, rfl⟩ := hΦ; clear hB v
  refine ⟨Je (Je (Je (Je (Jt) (by kernel_rfl)) (by kernel_rfl)) (by kernel_rfl)) (by kernel_rfl), ?_⟩
  refine Dx.done (by kernel_rfl) ?_
  refine Xx.bn ?_
  refine Xx.dropB b12 (Xx.dropB bf ?_)
  exact Xx.rqn ⟨A2, c2, n + 1, x.pos + x.body.length, _, by simp [hn], by simp, (by rw [flatF_snoc, ← hxs2]), rfl⟩ hBx (show row be 3 [i64 (x.pos + x.body.length)] * (row bo 164 [.slice A2 (n + 1) c2] * (sbuf 168 3 A2 (n + 1) c2 (xs ++ [i64 x.pos, str x.body, .bool x.good]) * F)) = (sbuf 168 3 A2 (n + 1) c2 (xs ++ [i64 x.pos, str x.body, .bool x.good]) * (row bo 164 [.slice A2 (n + 1) c2] * row be 3 [i64 (x.pos + x.body.length)])) * F by ac_rfl)
 ·rintro D B' H' hBx hJ
  obtain ⟨A, c, n, e, xs, hn, he, hxs2, rfl⟩ := hJ
  simp only [star_assoc]
  refine Xx.bn ?_
  refine Xx.tn (k4 _ _ _ _ ?_)
  refine Cq (fun K7 k7 => ?_)
  refine Cx.drawn (by kernel_rfl) ?_
  refine Dx.r (i := 0) rfl (by kernel_rfl) (ld U164 rfl rfl rfl) rfl ?_
  refine Dx.r (i := 1) rfl (by kernel_rfl) (ld U3 rfl rfl rfl) rfl ?_
  refine Dx.p (i := 2) rfl (by kernel_rfl) (asg rfl) rfl ?_
  refine Dx.p (i := 3) rfl (by kernel_rfl) (asg rfl) rfl ?_
  refine Dx.done (by kernel_rfl) ?_
  refine Xx.tn (k7 _ _ _ _ ?_)
  refine Cx.ret ?_
  subst hn; subst he; subst hxs2
  refine Xx.freezeT A fun B3 hB3 hRo hnc _ => ?_
  refine Xx.dropB bo (Xx.dropB be ?_)
  exact Xx.rBM (Ds := [D]) (res2 rfl rfl rfl) ⟨A, c, rfl, hRo, hnc⟩ (Fz (Fz hB2 hBx) hB3) (by simp only [marks, star_assoc])
 ·rintro D c pre post B' H' hxs hBx hJx
  exact hJx.elim
end Fr3
end Go.Proofs.YthlfffbcligocaaGreat
namespace Go.Proofs.YthlfffbcligocaaGreat
open Go.SL Go.RowKit
set_option maxRecDepth 100000
open Fr1 Fr2 Fr3
namespace Fr4
def refN (l : List UInt8) : Nat := (l.getD 0 0).toNat + (l.getD 1 0).toNat * 256 + (l.getD 2 0).toNat * 65536 + (l.getD 3 0).toNat * 16777216
def rIs (l : List UInt8) (a : Nat) : Prop := a + 12 ≤ l.length ∧ refN ((l.take (a + 4)).drop a) ≤ 65536 ∧ refFourL (refCrc ((l.take (a + 4)).drop a)) = (l.take (a + 8)).drop (a + 4) ∧ a + 12 + refN ((l.take (a + 4)).drop a) ≤ l.length
instance (l : List UInt8) (a : Nat) : Decidable (rIs l a) := by unfold rIs; infer_instance
def rB (l : List UInt8) (a : Nat) : List UInt8 := (l.take (a + 12 + refN ((l.take (a + 4)).drop a))).drop (a + 12)
def rx (l : List UInt8) (a : Nat) : Fm := ⟨a + 12, rB l a, decide (refFourL (refCrc (rB l a)) = (l.take (a + 12)).drop (a + 8))⟩
def rscanF (l : List UInt8) : Nat → Nat → List Fm
  | 0, _ => []
  | n + 1, a => if rIs l a then rx l a :: rscanF l n (a + (12 + refN ((l.take (a + 4)).drop a))) else []
def rscanL (l : List UInt8) : List Fm := rscanF l (l.length + 1) 0
def rendF (l : List UInt8) : Nat → Nat → Nat
  | 0, a => a
  | n + 1, a => if rIs l a then rendF l n (a + (12 + refN ((l.take (a + 4)).drop a))) else a
def rendL (l : List UInt8) : Nat := rendF l (l.length + 1) 0
end Fr4
end Go.Proofs.YthlfffbcligocaaGreat
namespace Go.Proofs.YthlfffbcligocaaGreat
open Go.SL Go.RowKit
set_option maxRecDepth 100000
open Fr1 Fr2 Fr3 Fr4
namespace Fr5
def T4 : List UInt8 := [116, 101, 120, 116]
def AW : List UInt8 := headL T4 ++ T4
theorem aw_make : makeV T4 = .tuple #[str AW, i64 0] := rfl
theorem aw_len : AW.length = 16 := rfl
end Fr5
end Go.Proofs.YthlfffbcligocaaGreat
namespace Go.Proofs.YthlfffbcligocaaGreat
open Go.SL Go.RowKit
set_option maxRecDepth 100000
open Fr1 Fr2 Fr3 Fr4 Fr5
namespace Fr6
end Fr6
end Go.Proofs.YthlfffbcligocaaGreat
namespace Go.Proofs.YthlfffbcligocaaGreat
open Go.SL Go.RowKit
set_option maxRecDepth 100000
open Fr1 Fr2 Fr3 Fr4 Fr5 Fr6
namespace Fr7
theorem ti5 : TI Tryz.prog 5 [.int .u8 0] 1 1 := TI.of (by kernel_rfl) rfl rfl
theorem toB_nat (x : Nat) : (toB (x : Nat)).toNat = x % 256 := by
  have h : (toB ((x : Nat) : Int)).toNat = (((x : Nat) : Int) % 256).toNat % 256 := by simp [toB]
  rw [h]; omega
theorem bit_bW (b : UInt8) (i : Nat) : (bW b).getLsbD i = (decide (i < 32) && b.toNat.testBit i) := by
  unfold bW
  have : BitVec.ofInt 32 ((b.toNat : Nat) : Int) = BitVec.ofNat 32 b.toNat := by simp
  rw [this, BitVec.getLsbD_ofNat]
theorem numL_four (n : BitVec 32) (r : List UInt8) : numL (fourL n ++ r) = n := by
  have h0 : (fourL n ++ r).getD 0 0 = toB (n.toNat : Nat) := rfl
  have h1 : (fourL n ++ r).getD 1 0 = toB ((n >>> 8).toNat : Nat) := rfl
  have h2 : (fourL n ++ r).getD 2 0 = toB ((n >>> 16).toNat : Nat) := rfl
  have h3 : (fourL n ++ r).getD 3 0 = toB ((n >>> 24).toNat : Nat) := rfl
  unfold numL
  rw [h0, h1, h2, h3]
  apply BitVec.eq_of_getLsbD_eq
  intro i hi
  have hm : ∀ x j : Nat, (x % 256).testBit j = (decide (j < 8) && x.testBit j) := fun x j => Nat.testBit_mod_two_pow x 8 j
  simp only [BitVec.getLsbD_or, BitVec.getLsbD_shiftLeft, bit_bW, toB_nat, hm, BitVec.toNat_ushiftRight, Nat.testBit_shiftRight]
  have hn : n.getLsbD i = n.toNat.testBit i := rfl
  rw [hn]
  by_cases c8 : i < 8
  · simp [c8, hi, show i < 16 by omega, show i < 24 by omega]
  · by_cases c16 : i < 16
    · simp [c8, hi, c16, show i < 24 by omega, show i - 8 < 8 by omega, show i - 8 < 32 by omega, show 8 + (i - 8) = i by omega]
    · by_cases c24 : i < 24
      · simp [c8, hi, c16, c24, show ¬ i - 8 < 8 by omega, show i - 16 < 8 by omega, show i - 16 < 32 by omega, show 16 + (i - 16) = i by omega]
      · simp [c8, hi, c16, c24, show ¬ i - 8 < 8 by omega, show ¬ i - 16 < 8 by omega, show i - 24 < 8 by omega, show i - 24 < 32 by omega, show 24 + (i - 24) = i by omega]
def nextT (t : List UInt8) (a : Nat) : Option Fm :=
  if t.length < 12 then none
  else if 65536 < (numL t).toNat then none
  else if ¬ numL (t.drop 4) = crc (t.take 4) then none
  else if t.length < 12 + (numL t).toNat then none
  else some ⟨a + 12, (t.drop 12).take (numL t).toNat, decide (numL (t.drop 8) = crc ((t.drop 12).take (numL t).toNat))⟩
theorem nextF_eq (l : List UInt8) (a : Nat) (ha : a ≤ l.length) : nextF l a = nextT (l.drop a) a := by
  have e1 : (l.take (a + 4)).drop a = (l.drop a).take 4 := by rw [List.drop_take]; congr 1; omega
  have e2 : ∀ n, (l.take (a + 12 + n)).drop (a + 12) = ((l.drop a).drop 12).take n := fun n => by rw [List.drop_take, List.drop_drop]; congr 1; omega
  unfold nextF nextT
  rw [e1, e2, List.drop_drop, List.drop_drop, List.length_drop]
  have c1 : ((l.length : Int) - a < 12) ↔ (l.length - a < 12) := by omega
  have c2 : ((65536 : Int) < ((numL (l.drop a)).toNat : Nat)) ↔ (65536 < (numL (l.drop a)).toNat) := by omega
  by_cases d1 : l.length - a < 12
  · rw [if_pos (c1.2 d1), if_pos d1]
  · rw [if_neg (fun h => d1 (c1.1 h)), if_neg d1]
    by_cases d2 : 65536 < (numL (l.drop a)).toNat
    · rw [if_pos (c2.2 d2), if_pos d2]
    · rw [if_neg (fun h => d2 (c2.1 h)), if_neg d2]
      by_cases d3 : ¬ numL (l.drop (a + 4)) = crc ((l.drop a).take 4)
      · rw [if_pos d3, if_pos d3]
      · rw [if_neg d3, if_neg d3]
        by_cases d4 : l.length - a < 12 + (numL (l.drop a)).toNat
        · rw [if_pos (by omega), if_pos d4]
        · rw [if_neg (by omega), if_neg d4, List.drop_drop]
theorem nextT_frame (l q : List UInt8) (a : Nat) (hl : l.length ≤ 65536) : nextT (headL l ++ (l ++ q)) a = some ⟨a + 12, l, true⟩ := by
  generalize hn : BitVec.ofInt 32 ((l.length : Nat) : Int) = n
  have hnn : n.toNat = l.length := by rw [← hn]; simp; omega
  have hh : headL l ++ (l ++ q) = fourL n ++ (fourL (crc (fourL n)) ++ (fourL (crc l) ++ (l ++ q))) := by unfold headL; rw [hn]; simp
  have t4 : (headL l ++ (l ++ q)).take 4 = fourL n := by rw [hh]; rfl
  have d4 : (headL l ++ (l ++ q)).drop 4 = fourL (crc (fourL n)) ++ (fourL (crc l) ++ (l ++ q)) := by rw [hh]; rfl
  have d8 : (headL l ++ (l ++ q)).drop 8 = fourL (crc l) ++ (l ++ q) := by rw [hh]; rfl
  have d12 : (headL l ++ (l ++ q)).drop 12 = l ++ q := by rw [hh]; rfl
  have m0 : numL (headL l ++ (l ++ q)) = n := by rw [hh]; exact numL_four _ _
  unfold nextT
  rw [t4, d4, d8, d12, m0, numL_four, numL_four, hnn, if_neg (by simp), if_neg (by omega), if_neg (by simp), if_neg (by simp)]
  simp
theorem MakeY_ct (l : List UInt8) (B : Frag) (hl : l.length ≤ 65536) : CtP Tryz.prog 87 [str l] B (.tuple #[str (headL l ++ l), i64 0]) := by
  have := Make_ct l B (Nat.le_trans hl (by decide))
  unfold makeV at this
  rw [if_neg (by omega)] at this
  exact this
end Fr7
end Go.Proofs.YthlfffbcligocaaGreat
namespace Go.Proofs.YthlfffbcligocaaGreat
open Go.SL Go.RowKit
set_option maxRecDepth 100000
open Fr1 Fr2 Fr3 Fr4 Fr5 Fr6 Fr7
namespace Fr8
end Fr8
end Go.Proofs.YthlfffbcligocaaGreat
namespace Go.Proofs.YthlfffbcligocaaGreat
open Go.SL Go.RowKit
set_option maxRecDepth 100000
open Fr1 Fr2 Fr3 Fr4 Fr5 Fr6 Fr7 Fr8
namespace FrA
def fl (l : List UInt8) (k : Nat) (b : UInt8) : List UInt8 := l.take k ++ b :: l.drop (k + 1)
structure Ck where
  tx : List UInt8
  bd : List UInt8
  gd : Bool
def Ck.ok (c : Ck) : Prop := c.tx.length = 12 + c.bd.length ∧ ∀ r a, nextT (c.tx ++ r) a = some ⟨a + 12, c.bd, c.gd⟩
def cat (cs : List Ck) : List UInt8 := (cs.map (·.tx)).flatten
@[simp] theorem cat_nil : cat [] = [] := rfl
@[simp] theorem cat_cons (c : Ck) (cs : List Ck) : cat (c :: cs) = c.tx ++ cat cs := rfl
@[simp] theorem cat_app (a b : List Ck) : cat (a ++ b) = cat a ++ cat b := by simp [cat]
def fms : List Ck → Nat → List Fm
  | [], _ => []
  | c :: cs, a => ⟨a + 12, c.bd, c.gd⟩ :: fms cs (a + c.tx.length)
theorem scan_cat : ∀ (cs : List Ck), (∀ c ∈ cs, c.ok) → ∀ (p q : List UInt8) (n : Nat), cs.length ≤ n →
    scanF (p ++ (cat cs ++ q)) n p.length = fms cs p.length ++ scanF (p ++ (cat cs ++ q)) (n - cs.length) (p.length + (cat cs).length) := by
  intro cs
  induction cs with
  | nil => intro _ p q n _; simp [fms]
  | cons c cs ih =>
    intro hok p q n hn
    obtain ⟨m, rfl⟩ : ∃ m, n = m + 1 := ⟨n - 1, by simp at hn; omega⟩
    have hc := hok c (by simp)
    have h1 : nextF (p ++ (cat (c :: cs) ++ q)) p.length = some ⟨p.length + 12, c.bd, c.gd⟩ := by
      rw [nextF_eq _ _ (by simp), List.drop_left, cat_cons, List.append_assoc]
      exact hc.2 _ _
    have h2 : nx (p ++ (cat (c :: cs) ++ q)) p.length = ⟨p.length + 12, c.bd, c.gd⟩ := by unfold nx; rw [h1]; rfl
    have h3 := ih (fun x hx => hok x (by simp [hx])) (p ++ c.tx) q m (by simpa using hn)
    have e : p ++ c.tx ++ (cat cs ++ q) = p ++ (cat (c :: cs) ++ q) := by simp
    rw [e] at h3
    rw [scanF, if_pos (by rw [h1]; rfl), h2]
    have l1 : (p ++ c.tx).length = p.length + c.tx.length := List.length_append
    have l2 : p.length + 12 + c.bd.length = (p ++ c.tx).length := by rw [l1, hc.1]; omega
    simp only [fms, List.cons_append]
    rw [l2, h3, l1]
    congr 2
    simp [Nat.add_assoc]
theorem cat_len {cs : List Ck} (h : ∀ c ∈ cs, c.ok) : cs.length ≤ (cat cs).length := by
  induction cs with
  | nil => simp
  | cons c cs ih =>
    have h1 := (h c (by simp)).1
    have h2 := ih (fun x hx => h x (by simp [hx]))
    simp; omega
theorem scan_all {cs : List Ck} (h : ∀ c ∈ cs, c.ok) {q : List UInt8} (hq : ∀ a, nextT q a = none) : scanL (cat cs ++ q) = fms cs 0 := by
  have h1 := scan_cat cs h [] q ((cat cs ++ q).length + 1) (by have := cat_len h; simp; omega)
  simp only [List.nil_append, List.length_nil, Nat.zero_add] at h1
  unfold scanL
  rw [h1]
  cases (cat cs ++ q).length + 1 - cs.length with
  | zero => simp [scanF]
  | succ n =>
    have : nextF (cat cs ++ q) (cat cs).length = none := by rw [nextF_eq _ _ (by simp), List.drop_left]; exact hq _
    rw [scanF, if_neg (by rw [this]; simp)]
    simp
theorem fms_end {cs : List Ck} (h : ∀ c ∈ cs, c.ok) (hn : cs ≠ []) (a : Nat) : endL (fms cs a) = a + (cat cs).length := by
  induction cs generalizing a with
  | nil => exact absurd rfl hn
  | cons c cs ih =>
    have h1 := (h c (by simp)).1
    cases cs with
    | nil => simp [fms, endL]; omega
    | cons d cs =>
      have h2 := ih (fun x hx => h x (by simp [hx])) (by simp) (a + c.tx.length)
      have : endL (fms (c :: d :: cs) a) = endL (fms (d :: cs) (a + c.tx.length)) := by
        unfold endL
        simp [fms, List.getLast?_cons_cons]
      rw [this, h2]
      simp; omega
def fr (l : List UInt8) : Ck := ⟨headL l ++ l, l, true⟩
theorem fr_ok {l : List UInt8} (h : l.length ≤ 65536) : (fr l).ok := ⟨by simp [fr], fun r a => by
  have := nextT_frame l r a h
  simpa [fr] using this⟩
theorem nil_none (a : Nat) : nextT [] a = none := by unfold nextT; rw [if_pos (by simp)]
end FrA
end Go.Proofs.YthlfffbcligocaaGreat
namespace Go.SL
open Go.ChangeShapes Go.WideShapes Go.ChangeAt Go.RowKit
def base (W : World) : Frag := fun b => W.heap[b]?
theorem St.begin (W : World) : St W.heap.size (base W) 1 W :=
  ⟨fun _ _ h => h, Nat.le_refl _, Frag.none, fun b o h => by simp [Frag.none] at h, rfl⟩
theorem law_calls {P : Program} {f : FuncId} {args : List Value} {W : World} (h : CtB P f args (base W) (fun v _ => v = .bool true)) :
    Calls P f args.toArray W fun e w' => e = .returned (.bool true) ∧ Below W.heap.size W w' :=
  (h.2 W.heap.size W 1 (St.begin W)).mono fun e w' ⟨v, B', h1, h2, _, h3, _⟩ => by subst h2; exact ⟨h1, h3⟩
section
variable {H : Type} {enc : TypeId × Value → H} {P : Program}
theorem trodAll_carry (hl : laidOutB P = true) {W W' : World} (hb : Below W.heap.size W W') : ∀ {ts : List TypeId} {vs : List Value} {ds : List (DataW H)} {ps : List MemPlace},
    ts.all (fun t => P.readableRec t && decide (t < P.types.size)) = true → DataW.TrodAll enc P W 0 (fun _ => true) true ts vs ds ps → (∀ x ∈ ps, x.block < W.heap.size) → ∀ sp : Nat → Bool, (∀ x ∈ ps, sp x.block = true) →
    DataW.TrodAll enc P W' 0 sp true ts vs ds ps := by
  intro ts
  induction ts with
  | nil =>
    intro vs ds ps _ h _ sp _
    obtain ⟨rfl, rfl, rfl⟩ := trodAll_nil h
    exact trodAll_mk0
  | cons t ts ih =>
    intro vs ds ps hr h hlt sp hsp
    obtain ⟨v0, vs0, d0, ds0, p0, q0, rfl, rfl, rfl, h0, r0⟩ := trodAll_cons h
    simp only [List.all_cons, Bool.and_eq_true, decide_eq_true_eq] at hr
    exact trodAll_cons_mk (WideElems.Trod_stays hl hr.1.1 hr.1.2 h0 (fun x hx => hb.same (hlt x (by simp [hx]))) (fun x hx => hsp x (by simp [hx]))) (ih hr.2 r0 (fun x hx => hlt x (by simp [hx])) sp (fun x hx => hsp x (by simp [hx])))
theorem law_post {f : Func} {s : ChangeSpec} {apart fresh handsOn again : Bool} {W W' : World} {args : Array Value} {ds gs : List (DataW H)} {before : List MemPlace} {tb : TypeId}
    (hl : laidOutB P = true) (hr : f.params.toList.all (fun t => P.readableRec t && decide (t < P.types.size)) = true) (hrt : f.resultTypes = #[tb]) (hub : P.underlying tb = some .bool) (hv : s.vars = [])
    (hW : DataW.Whole enc P f.params.toList s.vars apart W args.toList ds gs before) (hfn : s.fn H (ds ++ gs) = { results := [.lit (.bool true)], args := ds }) (hb : Below W.heap.size W W') :
    s.post enc P f apart fresh handsOn again W args (.bool true) W' := by
  have hold : ∀ p ∈ before, (fun b => decide (b < W.heap.size)) p.block = true := fun p hp => by simpa using hW.lt p hp
  have hW' := hW
  obtain ⟨pa, pv, hA, hV, rfl, hz, hn⟩ := hW
  have hV' := hV
  rw [hv] at hV'
  obtain ⟨rfl, rfl⟩ := trodVars_none hV'
  have hlt : ∀ x ∈ pa, x.block < W.heap.size := fun x hx => hW'.lt x (by simpa using hx)
  have hA' := trodAll_carry hl hb hr hA hlt (fun b => decide (b < W.heap.size)) (fun x hx => by simpa using hlt x hx)
  have hres : ∀ (b : Nat) (sp : Nat → Bool) (hd : Bool), DataW.TrodAll enc P W' b sp hd f.resultTypes.toList ((Value.bool true).resultList f.resultTypes.size) [.lit (.bool true)] [] := fun b sp hd => by
    rw [hrt]
    exact trodAll_cons_mk (shut_bool hub _) trodAll_mk0
  have hvars : ∀ sp : Nat → Bool, DataW.TrodVars enc P W' sp s.vars [] [] := fun sp => by rw [hv]; rfl
  refine ⟨ds, [], pa ++ [], [], pa, [], hW', ?_, ?_, ?_, hb.frame _, fun _ => ?_⟩
  · rw [hfn]; exact hres _ _ _
  · rw [hfn]; exact hA'
  · rw [hfn]; exact hvars _
  · have hA2 := trodAll_carry hl hb hr hA hlt (fun _ => true) (fun x hx => rfl)
    refine ⟨ok_one hrt rfl (okWide_bool_mk hub _), _, _, ([] ++ pa) ++ [], ⟨[] ++ pa, [], trodAll_append hA2 (hres _ _ _), hvars _, rfl, ?_, ?_⟩, ?_⟩
    · intro b off hp
      have hp' : MemPlace.cell b off ∈ pa := by simpa using hp
      rw [hb.frozen (hlt _ hp')]
      exact hz b off (by simpa using hp')
    · intro ha
      simpa using hn ha
    · intro p hp _
      simpa using hp
def RoE (B : Frag) (A : Option Addr) (n : Nat) (xs : List Value) : Prop :=
  xs.length = n ∧ ∀ k, k < n → ∃ b o cs et fz, A = some ⟨b, o, none⟩ ∧ B b = some (.cells (List.toArray cs) et fz) ∧ cs[o + k * 1]? = xs[k]?
theorem cell_obj {W : World} {a : Addr} {v : Value} (h : W.cell? a = some v) : a.spot = none ∧ ∃ cs et fz, W.heap[a.block]? = some (.cells (List.toArray cs) et fz) ∧ cs[a.off]? = some v := by
  unfold World.cell? at h
  split at h
  · rename_i c et fz hh
    split at h
    · cases h
    · rename_i hs
      refine ⟨by simpa using hs, c.toList, et, fz, by simpa using hh, by simpa using h⟩
  · cases h
end
end Go.SL
namespace Go.SL
open Go.RowKit
section
variable {e : Env} {ds : List Deferred} {Q : Exit → Act → World → Prop} {ρ : Sl} {B : Frag} {H R : HP} {t ty et : TypeId} {x y : Operand} {b o n c : Nat} {v : Value}
theorem Xx.rBa {P : Program} {fn : Func} {N0 nt size : Nat} {w0 : World} {r : Option Nat} {B0 : Frag} {Φ : Value → Frag → Prop} {t : Tmp} {ty : TypeId} {d : TypeDesc} {vs : List Value} {b : Nat} {et : TypeId} {fz : Nat × Nat}
    (hr : fn.results = #[.cell t ty]) (ht : P.underlying ty = some d) (hd : aggB d = true) (hi : (P.info? ty).map (·.size) = some size) (hv : lk ρ t = some (.pointer (some ⟨b, 0, none⟩))) [hp : PickB H b (.cells vs.toArray et fz) R] (hl : vs.length = size)
    (hΦ : Φ (.agg vs.toArray) B) (hB : B0.le B) : Xx ⟨P, r, N0, w0, nt⟩ [] (bodyPost P fn (FinB N0 w0 R B0 Φ) .ret) ρ B H := fun a w f bl s => by
  have s' : St N0 B (blk b (.cells vs.toArray et fz) * R) w := hp.eq ▸ s
  have hl := run_loadVar_row (P := P) w b et ty vs.toArray fz d s'.blk.1 ht (by cases d <;> simp_all [aggB]) (by rw [hi]; simp [hl])
  have h1 := f.get t _ hv
  refine ⟨f.defers, .agg vs.toArray, ?_, _, B, rfl, hΦ, hB, bl, s'.drop⟩
  simp [results, hr, h1, Sem.run_bind, asAddr, hl]
theorem yielded_undef {ops : Array Oper} {o : Oper} {a : Act} {j t : Nat} (f : Fr ρ e.nt ds a) (hj : ops[j]? = some o) (ho : o.dst = some t) (hv : lk ρ t = some undef) : yielded ops a.tmps j = none := by
  have := f.get t _ hv
  simp [yielded, hj, ho, this, undef]
theorem Lx.gU {ops : Array Oper} {rest : List Oper} {o : Oper} {op : Op} {ty : TypeId} {pos : String} {af : Array Edge} {d : Nat} {j t : Nat} {u : Bool} (hj : ops[j]? = some o) (ho : o.dst = some t) (hv : lk ρ t = some undef) (hd : Nat.blt d e.nt = true)
    (k : Lx e ds ops Q rest ((d, undef) :: ρ) B H) : Lx e ds ops Q (⟨some d, op, ty, pos, af, some (j, u)⟩ :: rest) ρ B H := by
  intro a w f b s
  have hy := yielded_undef (e := e) f hj ho hv
  simp only [wpListIn]
  rw [if_neg (by simp [Region.wanted, hy])]
  exact ⟨fun _ _ => trivial, k _ w (f.put hd undef) b s⟩
end
section
open Go.ChangeShapes Go.WideShapes Go.ChangeAt
end
end Go.SL
namespace Go.SL
open Go.RowKit
section
variable {P : Program} {ρ : Sl} {S : World → Prop} {ty : TypeId} {v v' : Value} {op : Op}
theorem Yx.val (h : Yx P op ty ρ S v) (e : v = v') : Yx P op ty ρ S v' := e ▸ h
theorem Yx.tt {b : Bool} (h : Yx P op ty ρ S (.bool b)) (e : b = true) : Yx P op ty ρ S (.bool true) := e ▸ h
theorem Yx.ff {b : Bool} (h : Yx P op ty ρ S (.bool b)) (e : b = false) : Yx P op ty ρ S (.bool false) := e ▸ h
end
end Go.SL
namespace Go.SL
open Go.RowKit
section
variable {e : Env} {ds : List Deferred} {Q : Exit → Act → World → Prop} {ρ : Sl} {B : Frag} {H : HP}
def Rn (e : Env) (c : Code) (Q : Exit → Act → World → Prop) (m : Nat) (a : Act) (w : World) : Prop := Code.roundsIn (FW e.r) 0 e.P c Q m a w
end
section
variable {P : Program} {ρ : Sl} {S : World → Prop} {ty t t2 : TypeId} {x y : Operand} {v : Value}
theorem extc {xs : Array Operand} {ts : Array TypeId} {fi : FuncId} {vs : List Value} (hf : ev ρ x = some (.func (.func fi) #[] #[])) (hx : evl ρ xs.toList = some vs) (h : ∀ w, S w → (callFunc fi vs.toArray).run P w = .ok (.value v) w) :
    Yx P (.call { callee := .value x, args := xs, argTypes := ts }) ty ρ S v := .of (fun _ h => by cases h) fun f w _ _ _ _ he s => by
  have hfv := he _ _ hf
  have hxv : xs.map f = vs.toArray := by
    have := he.map hx
    apply Array.toList_inj.1
    simp [this]
  have h1 := h w s
  simp only [execOp, resolve, hfv, Deferred.ofValue, hxv, Sem.run_bind, Sem.run_pure, Result.andThen, invoke]
  simpa using h1
theorem minI {k : IntKind} {m n : Int} (hx : ev ρ x = some (.int k m)) (hy : ev ρ y = some (.int k n)) : Yx P (.call { callee := .builtin .min, args := #[x, y], argTypes := #[t, t2] }) ty ρ S (.int k (if n < m then n else m)) := .of (fun _ h => by cases h) fun f w _ _ _ _ he _ => by
  simp [execOp, resolve, invoke, builtin, Builtin.min_, Builtin.min2, he _ _ hx, he _ _ hy]
theorem minN {m n : Nat} (hx : ev ρ x = some (i64 m)) (hy : ev ρ y = some (i64 n)) : Yx P (.call { callee := .builtin .min, args := #[x, y], argTypes := #[t, t2] }) ty ρ S (i64 (min m n : Nat)) := by
  have h := minI (P := P) (S := S) (t := t) (t2 := t2) (ty := ty) hx hy
  have e : (if (n : Int) < (m : Int) then (n : Int) else (m : Int)) = ((min m n : Nat) : Int) := by split <;> omega
  rw [e] at h; exact h
end
section
variable {e : Env} {ds : List Deferred} {ρ : Sl} {B : Frag} {H R : HP} {t tx et et' ty tyx : TypeId} {x y : Operand} {size bytes nl nd c nx cx b o ox bx : Nat} {zs xs news cs cs' ncs olds : List Value} {A Ax : Option Addr} {fz : Nat × Nat}
def SrcH (N0 : Nat) (B : Frag) (H : HP) (Ax : Option Addr) (news : List Value) : Prop :=
  news = [] ∨ ∃ b o, Ax = some ⟨b, o, none⟩ ∧ ∀ w, St N0 B H w → ∀ j v, news[j]? = some v → w.cell? ⟨b, o + j, none⟩ = some v
theorem SrcH.own {N0 : Nat} [hp : PickB H b (.cells cs.toArray et fz) R] (n : Nat) (hx : (cs.drop o).take n = news) : SrcH N0 B H (some ⟨b, o, none⟩) news :=
  .inr ⟨b, o, rfl, fun w s j v hj => by
    have s' : St N0 B (blk b (.cells cs.toArray et fz) * R) w := hp.eq ▸ s
    refine cell_of_heap s'.blk.1 ?_
    rw [← hx] at hj
    simp only [List.getElem?_take, List.getElem?_drop] at hj
    split at hj
    · exact hj
    · cases hj⟩
theorem St.src {N0 : Nat} {P : Program} {w : World} (h : SrcH N0 B H Ax news) (hn : news.length = nx * size) (s : St N0 B H w) (len cap : Nat) : (Builtin.firstCells size nx (.slice Ax len cap)).run P w = .ok news.toArray w := by
  rcases h with rfl | ⟨b, o, rfl, h⟩
  · have h0 : nx * size = 0 := by simpa using hn.symm
    cases Ax with
    | none => simp [Builtin.firstCells]
    | some a => exact run_firstCells_some w size nx a len cap [] (by simpa using hn) (fun j v hj => by simp at hj)
  · exact run_firstCells_some w size nx _ len cap news hn fun j v hj => by rw [add_mk]; exact h w s j v hj
theorem cpO (k : Nat) (ht : e.P.underlying t = some (.slice et')) (hs : (e.P.info? et').map (·.size) = some size) (hx : ev ρ x = some (.slice (some ⟨b, o, none⟩) nd c)) (hy : ev ρ y = some (.slice Ax nx cx))
    [hp : PickB H b (.cells cs.toArray et (0, 0)) R] (hk : Nat.min nx nd = k) (hS : SrcH e.N0 B H Ax news) (hn : news.length = k * size) (h1 : news.all (·.oneCell') = true) (hfit : o + news.length ≤ cs.length) (hr : cs.take o ++ news ++ cs.drop (o + news.length) = cs') :
    Ox e ds (.call { callee := .builtin .copy, args := #[x, y], argTypes := #[t, tx] }) ty ρ B H (fun v B' H' => v = i64 k ∧ B' = B ∧ H' = row b et cs' * R) :=
  .of_run (fun _ h => by cases h) fun f w dst pos after guard he s => by
    subst hr hk
    have s' : St e.N0 B (blk b (.cells cs.toArray et (0, 0)) * R) w := hp.eq ▸ s
    have hfc := St.src (P := e.P) (nx := Nat.min nx nd) hS hn s nx cx
    have hst := run_storeCells_at (P := e.P) b o et news 0 cs.toArray w s'.blk.1 (by simpa using hfit) (by simpa using h1)
    simp only [List.toList_toArray, Nat.add_zero] at hst
    cases hq : e.P.info? et' with
    | none => simp [hq] at hs
    | some i =>
      have hi : i.size = size := by simpa [hq] using hs
      have hcp : (Builtin.copy_ #[t, tx] ty #[.slice (some ⟨b, o, none⟩) nd c, .slice Ax nx cx]).run e.P w = .ok (i64 (Nat.min nx nd : Nat)) (w.setRow b (cs.take o ++ news ++ cs.drop (o + news.length)).toArray) := by
        rw [← hi] at hfc
        simp only [Builtin.copy_, Sem.run_bind, run_underlying ht, Result.andThen, Builtin.lenOf, Sem.run_pure, sizeOf, typeInfo, run_program, hq, hfc, hst, List.getElem?_toArray, List.getElem?_cons_zero, List.getElem?_cons_succ]
        simp [hfc, hst, goInt]
      refine ⟨_, _, B, _, ?_, ⟨rfl, rfl, rfl⟩, Fl _, (s'.setRow _).2, (s'.setRow _).1⟩
      simp [execOp, resolve, he _ _ hx, he _ _ hy, invoke, builtin, hcp]
theorem amO {k : IntKind} {m : Nat} (ht : e.P.underlying t = some (.slice et)) (htx : e.P.underlying tx = some (.int k)) (hz : TI e.P et zs size bytes) (hx : ev ρ x = some (.slice Ax nl c)) (hy : ev ρ y = some (i64 m))
    (hS : SrcH e.N0 B H Ax olds) (hl : olds.length = nl * size) (hg : c < nl + m) (hb : nl + m ≤ 9223372036854775807) (hbb : (nl + m) * bytes ≤ 140737488355328) :
    Ox e ds (.call { callee := .builtin .append, args := #[x, y], argTypes := #[t, tx] }) ty ρ B H
      (fun v B' H' => ∃ b' c' rest, v = .slice (some ⟨b', 0, none⟩) (nl + m) c' ∧ nl + m ≤ c' ∧ rest.length + nl * size = c' * size ∧ B' = B ∧ H' = row b' et (olds ++ rest) * H) :=
  .of_run (fun _ h => by cases h) fun f w dst pos after guard he s => by
    obtain ⟨i, zv, z1, z2, z3, z4, z5, z6, z7⟩ := hz
    have hfc := St.src (P := e.P) (nx := nl) hS hl s.drew nl c
    rw [← z4] at hfc
    have hcap := nextslicecap_le (need := nl + m) (old := c) hg
    have hge : nl + m ≤ grownCap w (nl + m) c et := by unfold grownCap Question.cut; simp
    have hw : IntKind.i64.wrap (m : Int) = m := by rw [IntKind.wrap_i64]; omega
    have hfit : Builtin.nextslicecap (nl + m) c * i.bytes ≤ 281474976710656 := by
      rw [z5]
      calc Builtin.nextslicecap (nl + m) c * bytes ≤ (2 * (nl + m)) * bytes := Nat.mul_le_mul_right _ hcap
        _ = 2 * ((nl + m) * bytes) := by rw [Nat.mul_assoc]
        _ ≤ 281474976710656 := by omega
    have h63' : ¬ (9223372036854775807 < ((nl : Int) + (m : Int))) := by omega
    have h48' : ¬ (281474976710656 < Builtin.nextslicecap (nl + m) c * i.bytes) := by omega
    have h48i : ¬ (281474976710656 < (m : Int) * (i.bytes : Int)) := by
      rw [← Int.natCast_mul, z5]
      have : m * bytes ≤ (nl + m) * bytes := Nat.mul_le_mul_right _ (by omega)
      omega
    have hneg : ¬ ((m : Int) < 0) := by omega
    have hn : ¬ (nl + m ≤ c) := by omega
    obtain ⟨zm, hzm, hzl⟩ : ∃ zm : List Value, (if m * i.size = 0 then #[] else Builtin.zeroCells zv.cells m) = zm.toArray ∧ zm.length = m * size := by
      by_cases h0 : m * i.size = 0
      · exact ⟨[], by rw [if_pos h0], by rw [z4] at h0; simpa using h0.symm⟩
      · exact ⟨(Builtin.zeroCells zv.cells m).toList, by rw [if_neg h0], by simp [Builtin.zeroCells, z3, z6]⟩
    obtain ⟨sp, hsp, hspl⟩ : ∃ sp : List Value, Builtin.zeroCells zv.cells (grownCap w (nl + m) c et - (nl + m)) = sp.toArray ∧ sp.length = (grownCap w (nl + m) c et - (nl + m)) * size :=
      ⟨(Builtin.zeroCells zv.cells (grownCap w (nl + m) c et - (nl + m))).toList, by simp, by simp [Builtin.zeroCells, z3, z6]⟩
    have hr : (Builtin.append_ #[t, tx] ty #[.slice Ax nl c, i64 m]).run e.P w = .ok (.slice (some ⟨w.heap.size, 0, none⟩) (nl + m) (grownCap w (nl + m) c et)) (w.drew.alloc (.cells (olds ++ (zm ++ sp)).toArray et (0, 0))) := by
      by_cases h0 : m * i.size = 0
      · rw [if_pos h0] at hzm
        have hzm' : zm = [] := by simpa using hzm.symm
        subst hzm'
        simp [Builtin.append_, run_underlying ht, run_underlying htx, sizeOf, typeInfo, zeroValue, z1, z2, asInt, asIntOf, hw, hneg, hn, h0, h63', h48', h48i, Question.forced, hfc, newRow, grownCap]
        have h9 := hsp
        simp [grownCap] at h9
        simp [h9]
      · rw [if_neg h0] at hzm
        simp [Builtin.append_, run_underlying ht, run_underlying htx, sizeOf, typeInfo, zeroValue, z1, z2, asInt, asIntOf, hw, hneg, hn, h0, h63', h48', h48i, Question.forced, hfc, newRow, grownCap]
        have h9 := hsp
        simp [grownCap] at h9
        simp [h9, hzm]
    refine ⟨_, _, B, _, ?_, ⟨_, _, zm ++ sp, rfl, hge, ?_, rfl, rfl⟩, Fl _, ((Below.refl _ _).drew).alloc s.sz _, s.drew.alloc _⟩
    · simp [execOp, resolve, he _ _ hx, he _ _ hy, invoke, builtin, hr]
    · have h2 : (grownCap w (nl + m) c et) * size = (grownCap w (nl + m) c et - (nl + m)) * size + (nl + m) * size := by rw [← Nat.add_mul]; congr 1; omega
      simp [hzl, hspl, h2, Nat.add_mul]; omega
theorem ovP {f : FuncId} {fn : Func} {P : Program} {N0 : Nat} {tS tR eS : TypeId} {na ca nb cb oa ob : Nat} {csa csb : List Value} {ea eb : TypeId} {Ra : HP} (hf : P.funcs[f]? = some fn) (hname : (fn.name == "runtime.NumGoroutine") = false) (hb' : fn.body.isNone = true) (hn : Extern.findNext fn = none) (hfe : Extern.find fn = some (Extern.SlicesOverlaps.overlaps #[tS, tS] #[tR]))
    (ht : P.underlying tS = some (.slice eS)) (hz : (P.info? eS).map (·.size) = some size) (hne : bx ≠ b) (hH : H = row bx ea csa * (row b eb csb * Ra)) (hlb : csb ≠ []) (hoa : oa < csa.length ∨ oa = 0) :
    ∀ w, St N0 B H w → (callFunc f [.slice (some ⟨bx, oa, none⟩) na ca, .slice (some ⟨b, ob, none⟩) nb cb].toArray).run P w = .ok (.value (.bool false)) w := fun w s => by
  have s' : St N0 B (row bx ea csa * (row b eb csb * Ra)) w := hH ▸ s
  have ha := s'.blk.1
  have hbk := s'.drop.blk.1
  rw [run_callFunc_extern hf hname hb' hn hfe]
  have hsz : ∀ w, (Go.sizeOf eS).run P w = .ok size w := fun w => by
    cases hq : P.info? eS with
    | none => simp [hq] at hz
    | some i => have hi : i.size = size := by simpa [hq] using hz
                simp [sizeOf, typeInfo, hq, hi]
  have := Lib.run_overlaps_apart (P := P) w tS tR eS ht size hsz ⟨bx, oa, none⟩ ⟨b, ob, none⟩ na ca nb cb hne ea eb csa.length csb.length (by simp [World.shape?, ha]) (by simp [World.shape?, hbk]) (by simpa using hlb)
    (by simp [World.frozen?, ha]) (by simp [World.frozen?, ha])
  have e9 : (Extern.SlicesOverlaps.overlaps #[tS, tS] #[tR] [.slice (some ⟨bx, oa, none⟩) na ca, .slice (some ⟨b, ob, none⟩) nb cb].toArray).run P w = .ok (.bool false) w := this
  rw [e9]; rfl
end
end Go.SL
