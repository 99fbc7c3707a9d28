/-
  A small separation logic over the walk's layer 'wpIn': frames as lists of slots, a heap of owned blocks over a base that is only read.
-/
import Derived.RangeFuncNested
import Derived.RangeFuncLeaves
import Derived.OrdersIn
import Derived.TacticsIn
import Derived.WalkKit
import Derived.KernelRfl
namespace Go.SL
open Go.RowKit

/-! ### The fence that lets everything by -/
def FW (r : Option Nat) : Fence := { fn := fun _ => True, depth := none, alive := false, round := r }
theorem room_FW (r : Option Nat) (n : Nat) : (FW r).room n := fun _ h => by simp [FW] at h
theorem callsIn_FW {r : Option Nat} {n : Nat} {P : Program} {f : FuncId} {args : Array Value} {w : World} {R : Ending → World → Prop} : CallsIn (FW r) n P f args w R ↔ Calls P f args w R :=
  callsIn_wide (n := n) (P := P) (f := f) (args := args) (w := w) (R := R)

/-! ### Lists, written out -/
def frc {α : Type} : List α → (List α → Option (List α)) → Option (List α)
  | [], k => k []
  | x :: xs, k => frc xs fun ys => k (x :: ys)
theorem frc_gen {α : Type} : ∀ (l : List α) (k : List α → Option (List α)), frc l k = k l := by
  intro l
  induction l with
  | nil => intro k; rfl
  | cons x xs ih => intro k; simp only [frc]; rw [ih]
theorem frc_eq {α : Type} {l m : List α} (h : frc l some = some m) : l = m := by rw [frc_gen] at h; exact Option.some.inj h
/-! ### Frames -/
theorem beq_ne {s t : Nat} (e : ¬ t = s) : Nat.beq t s = false := by
  cases h : Nat.beq t s with
  | false => rfl
  | true => exact absurd (Nat.eq_of_beq_eq_true h) e
abbrev Sl := List (Nat × Value)
def lk : Sl → Nat → Option Value
  | [], _ => none
  | (s, v) :: l, t => bif Nat.beq t s then some v else lk l t

structure Fr (ρ : Sl) (nt : Nat) (ds : List Deferred) (a : Act) : Prop where
  size : a.tmps.size = nt
  get : ∀ t v, lk ρ t = some v → a.tmps[t]? = some v
  defers : a.defers = ds

def ev (ρ : Sl) : Operand → Option Value
  | .tmp t => lk ρ t
  | .const v => some v
  | .global g => some (.pointer (some ⟨g, 0, none⟩))
  | .func f => some (.func (.func f) #[] #[])

def evl (ρ : Sl) : List Operand → Option (List Value)
  | [] => some []
  | x :: xs => match ev ρ x, evl ρ xs with
    | some v, some vs => some (v :: vs)
    | _, _ => none

/-- What an evaluation of operands must meet. -/
def Ev (ρ : Sl) (f : Operand → Value) : Prop := ∀ x v, ev ρ x = some v → f x = v

theorem Fr.ev {ρ : Sl} {nt : Nat} {ds : List Deferred} {a : Act} (h : Fr ρ nt ds a) : Ev ρ a.eval := by
  intro x v hx
  cases x with
  | tmp t => have := h.get t v hx; simp [Act.eval, this]
  | const c => simp [SL.ev] at hx; exact hx
  | global g => simp [SL.ev] at hx; exact hx
  | func f => simp [SL.ev] at hx; exact hx

theorem Ev.map {ρ : Sl} {f : Operand → Value} (h : Ev ρ f) : ∀ {xs : List Operand} {vs : List Value}, evl ρ xs = some vs → xs.map f = vs := by
  intro xs
  induction xs with
  | nil => intro vs hv; simp [evl] at hv; simp [hv]
  | cons x xs ih =>
    intro vs hv
    simp only [evl] at hv
    split at hv
    · rename_i v us hx hs
      injection hv with hv
      subst hv
      simp [h x v hx, ih hs]
    · simp at hv

theorem Fr.put {ρ : Sl} {nt : Nat} {ds : List Deferred} {a : Act} (h : Fr ρ nt ds a) {d : Nat} (hd : Nat.blt d nt = true) (v : Value) : Fr ((d, v) :: ρ) nt ds (a.put (some d) v) := by
  have hd' : d < nt := by simpa [Nat.blt_eq] using hd
  refine ⟨by simp [Act.put, h.size], fun t u ht => ?_, by simp [Act.put, h.defers]⟩
  simp only [lk] at ht
  by_cases e : t = d
  · subst e
    simp at ht
    simp [Act.put, h.size, hd', ht]
  · have : Nat.beq t d = false := beq_ne e
    rw [this] at ht
    simp only [cond_false] at ht
    have := h.get t u ht
    simp [Act.put, Ne.symm e, this]

theorem Fr.put_none {ρ : Sl} {nt : Nat} {ds : List Deferred} {a : Act} (h : Fr ρ nt ds a) (v : Value) : Fr ρ nt ds (a.put none v) := h

/-- A shorter list of slots. -/
def Sub (ρ ρ' : Sl) : Prop := ∀ t v, lk ρ' t = some v → lk ρ t = some v
theorem Sub.refl (ρ : Sl) : Sub ρ ρ := fun _ _ h => h
theorem Sub.nil (ρ : Sl) : Sub ρ [] := fun _ _ h => by simp [lk] at h
theorem Sub.cons {ρ ρ' : Sl} {s : Nat} {v : Value} (h : lk ρ s = some v) (hs : Sub ρ ρ') : Sub ρ ((s, v) :: ρ') := by
  intro t u ht
  simp only [lk] at ht
  by_cases e : t = s
  · subst e; simp at ht; rw [h, ht]
  · have : Nat.beq t s = false := beq_ne e
    rw [this] at ht
    exact hs t u ht
theorem Sub.consE {ρ ρ' : Sl} {s : Nat} {v v' : Value} (h : lk ρ s = some v) (e : v = v') (hs : Sub ρ ρ') : Sub ρ ((s, v') :: ρ') := Sub.cons (e ▸ h) hs
theorem Fr.sub {ρ ρ' : Sl} {nt : Nat} {ds : List Deferred} {a : Act} (h : Fr ρ nt ds a) (hs : Sub ρ ρ') : Fr ρ' nt ds a := ⟨h.size, fun t v ht => h.get t v (hs t v ht), h.defers⟩

/-- The slots of a call's arguments. -/
def mk0 : Nat → List Value → Sl
  | _, [] => []
  | i, v :: vs => (i, v) :: mk0 (i + 1) vs

theorem lk_mk0 : ∀ (vs : List Value) (i t : Nat) (v : Value), lk (mk0 i vs) t = some v → i ≤ t ∧ vs[t - i]? = some v := by
  intro vs
  induction vs with
  | nil => intro i t v h; simp [mk0, lk] at h
  | cons u us ih =>
    intro i t v h
    simp only [mk0, lk] at h
    by_cases e : t = i
    · subst e; simp at h; simp [h]
    · have : Nat.beq t i = false := beq_ne e
      rw [this] at h
      obtain ⟨h1, h2⟩ := ih (i + 1) t v h
      refine ⟨by omega, ?_⟩
      rw [show t - i = (t - (i + 1)) + 1 by omega]
      simpa using h2

theorem Fr.start {args : List Value} {nt : Nat} (h : Nat.ble args.length nt = true) : Fr (mk0 0 args) nt [] { tmps := args.toArray ++ Array.replicate (nt - args.toArray.size) undef, defers := [] } := by
  have h' : args.length ≤ nt := by simpa using h
  refine ⟨by simp; omega, fun t v ht => ?_, rfl⟩
  obtain ⟨_, h2⟩ := lk_mk0 args 0 t v ht
  simp only [Nat.sub_zero] at h2
  have hlt : t < args.length := (List.getElem?_eq_some_iff.1 h2).1
  rw [Array.getElem?_append_left (by simpa using hlt)]
  simpa using h2

/-! ### Heaps -/
abbrev Frag := Nat → Option Obj
def HP := Frag → Prop
def Frag.none : Frag := fun _ => Option.none
def Frag.one (b : Nat) (o : Obj) : Frag := fun x => if x = b then some o else Option.none
def Frag.disj (h k : Frag) : Prop := ∀ b, h b = Option.none ∨ k b = Option.none
def Frag.un (h k : Frag) : Frag := fun b => (h b).or (k b)
def Frag.le (h k : Frag) : Prop := ∀ b o, h b = some o → k b = some o
theorem Frag.le_refl (h : Frag) : h.le h := fun _ _ x => x
theorem Frag.le_trans {a b c : Frag} (h : a.le b) (k : b.le c) : a.le c := fun x o hx => k x o (h x o hx)

theorem HP.ext {p q : HP} (h : ∀ x, p x ↔ q x) : p = q := funext fun x => propext (h x)

def star (p q : HP) : HP := fun h => ∃ h1 h2, Frag.disj h1 h2 ∧ h = Frag.un h1 h2 ∧ p h1 ∧ q h2
instance : Mul HP := ⟨star⟩
def emp : HP := fun h => h = Frag.none
instance : One HP := ⟨emp⟩
/-- One block, whole. -/
def blk (b : Nat) (o : Obj) : HP := fun h => h = Frag.one b o
/-- A row of cells. -/
abbrev row (b : Nat) (e : TypeId) (vs : List Value) : HP := blk b (.cells vs.toArray e (0, 0))
def ex {α : Type} (f : α → HP) : HP := fun h => ∃ x, f x h
def pr (p : Prop) : HP := fun h => p ∧ h = Frag.none

theorem disj_comm {h k : Frag} (d : h.disj k) : k.disj h := fun b => (d b).symm
theorem un_comm {h k : Frag} (d : h.disj k) : h.un k = k.un h := by
  funext b
  simp only [Frag.un]
  rcases d b with e | e <;> simp [e]
theorem un_assoc (a b c : Frag) : (a.un b).un c = a.un (b.un c) := by
  funext x; simp only [Frag.un, Option.or_assoc]

theorem star_comm (p q : HP) : p * q = q * p := HP.ext fun h =>
  ⟨fun ⟨a, b, d, e, x, y⟩ => ⟨b, a, disj_comm d, by rw [e, un_comm d], y, x⟩, fun ⟨a, b, d, e, x, y⟩ => ⟨b, a, disj_comm d, by rw [e, un_comm d], y, x⟩⟩

theorem disj_un {a b c : Frag} : (a.un b).disj c ↔ a.disj c ∧ b.disj c := by
  constructor
  · intro d
    refine ⟨fun x => ?_, fun x => ?_⟩
    · rcases d x with e | e
      · simp only [Frag.un, Option.or_eq_none_iff] at e; exact .inl e.1
      · exact .inr e
    · rcases d x with e | e
      · simp only [Frag.un, Option.or_eq_none_iff] at e; exact .inl e.2
      · exact .inr e
  · rintro ⟨d1, d2⟩ x
    rcases d1 x with e | e
    · rcases d2 x with e2 | e2
      · exact .inl (by simp [Frag.un, e, e2])
      · exact .inr e2
    · exact .inr e
theorem disj_un' {a b c : Frag} : a.disj (b.un c) ↔ a.disj b ∧ a.disj c :=
  ⟨fun d => let ⟨x, y⟩ := disj_un.1 (disj_comm d); ⟨disj_comm x, disj_comm y⟩, fun ⟨x, y⟩ => disj_comm (disj_un.2 ⟨disj_comm x, disj_comm y⟩)⟩

theorem star_assoc (p q r : HP) : (p * q) * r = p * (q * r) := HP.ext fun h => by
  constructor
  · rintro ⟨ab, c, d, e, ⟨a, b, d2, e2, x, y⟩, z⟩
    subst e2
    obtain ⟨dac, dbc⟩ := disj_un.1 d
    exact ⟨a, b.un c, disj_un'.2 ⟨d2, dac⟩, by rw [e, un_assoc], x, b, c, dbc, rfl, y, z⟩
  · rintro ⟨a, bc, d, e, x, b, c, d2, e2, y, z⟩
    subst e2
    obtain ⟨dab, dac⟩ := disj_un'.1 d
    exact ⟨a.un b, c, disj_un.2 ⟨dac, d2⟩, by rw [e, un_assoc], ⟨a, b, dab, rfl, x, y⟩, z⟩

instance : Std.Associative (α := HP) (· * ·) := ⟨star_assoc⟩
instance : Std.Commutative (α := HP) (· * ·) := ⟨star_comm⟩
theorem star_left (p q r : HP) : p * (q * r) = q * (p * r) := by rw [← star_assoc, star_comm p q, star_assoc]

theorem one_star (p : HP) : 1 * p = p := HP.ext fun h => by
  constructor
  · rintro ⟨a, b, _, e, x, y⟩
    have : a = Frag.none := x
    subst this
    have : h = b := by rw [e]; funext z; simp [Frag.un, Frag.none]
    rw [this]; exact y
  · intro x
    exact ⟨Frag.none, h, fun _ => .inl rfl, by funext z; simp [Frag.un, Frag.none], rfl, x⟩
theorem star_one (p : HP) : p * 1 = p := by rw [star_comm, one_star]

theorem pr_star (p : Prop) (q : HP) (h : Frag) : (pr p * q) h ↔ p ∧ q h := by
  constructor
  · rintro ⟨a, b, _, e, ⟨hp, x⟩, y⟩
    subst x
    have : h = b := by rw [e]; funext z; simp [Frag.un, Frag.none]
    rw [this]; exact ⟨hp, y⟩
  · rintro ⟨hp, x⟩
    exact ⟨Frag.none, h, fun _ => .inl rfl, by funext z; simp [Frag.un, Frag.none], ⟨hp, rfl⟩, x⟩
theorem pr_star_of {p : Prop} (hp : p) (q : HP) : pr p * q = q := HP.ext fun h => ⟨fun x => ((pr_star p q h).1 x).2, fun x => (pr_star p q h).2 ⟨hp, x⟩⟩
theorem ex_star {α : Type} (f : α → HP) (q : HP) (h : Frag) : (ex f * q) h ↔ ∃ x, (f x * q) h :=
  ⟨fun ⟨a, b, d, e, ⟨x, hx⟩, y⟩ => ⟨x, a, b, d, e, hx, y⟩, fun ⟨x, a, b, d, e, hx, y⟩ => ⟨a, b, d, e, ⟨x, hx⟩, y⟩⟩

/-- What is only read lies there; what is owned lies there, apart from it, and no lower than N0. -/
structure St (N0 : Nat) (B : Frag) (H : HP) (w : World) : Prop where
  ro : ∀ b o, B b = some o → w.heap[b]? = some o
  sz : N0 ≤ w.heap.size
  own : ∃ h : Frag, (∀ b o, h b = some o → w.heap[b]? = some o ∧ B b = Option.none ∧ N0 ≤ b) ∧ H h

theorem St.blk {N0 : Nat} {B : Frag} {b : Nat} {o : Obj} {R : HP} {w : World} (h : St N0 B (blk b o * R) w) : w.heap[b]? = some o ∧ B b = Option.none ∧ N0 ≤ b := by
  obtain ⟨_, _, k, hk, a, c, d, e, x, y⟩ := h
  have : a = Frag.one b o := x
  subst this
  exact hk b o (by rw [e]; simp [Frag.un, Frag.one])

/-- Affine: what is not wanted any more is let go. -/
theorem St.drop {N0 : Nat} {B : Frag} {p R : HP} {w : World} (h : St N0 B (p * R) w) : St N0 B R w := by
  obtain ⟨hr, hz, k, hk, a, c, d, e, x, y⟩ := h
  refine ⟨hr, hz, c, fun b o hb => hk b o ?_, y⟩
  rw [e]
  rcases d b with z | z
  · simp [Frag.un, z, hb]
  · rw [z] at hb; cases hb

/-- A block of one's own turns. -/
theorem St.put {N0 : Nat} {B : Frag} {b : Nat} {o o' : Obj} {R : HP} {w w' : World} (h : St N0 B (SL.blk b o * R) w) (hb : w'.heap[b]? = some o') (hs : ∀ k, k ≠ b → w'.heap[k]? = w.heap[k]?)
    (hz' : w.heap.size ≤ w'.heap.size) : St N0 B (SL.blk b o' * R) w' := by
  obtain ⟨_, hB, hN⟩ := h.blk
  obtain ⟨hr, hz, k, hk, a, c, d, e, x, y⟩ := h
  have hx : a = Frag.one b o := x
  subst hx
  refine ⟨fun i u hi => ?_, Nat.le_trans hz hz', (Frag.one b o').un c, fun i u hi => ?_, Frag.one b o', c, fun i => ?_, rfl, rfl, y⟩
  · rw [hs i (fun e => by subst e; rw [hB] at hi; cases hi)]; exact hr i u hi
  · by_cases e2 : i = b
    · subst e2
      simp [Frag.un, Frag.one] at hi
      subst hi
      exact ⟨hb, hB, hN⟩
    · have h2 : (Frag.un (Frag.one b o) c) i = some u := by
        simp [Frag.un, Frag.one, e2] at hi ⊢; exact hi
      rw [← e] at h2
      rw [hs i e2]
      exact hk i u h2
  · rcases d i with z | z
    · left
      simp only [Frag.one] at z ⊢
      split at z
      · cases z
      · rename_i hne; simp [hne]
    · exact .inr z

/-- A new block. -/
theorem St.alloc {N0 : Nat} {B : Frag} {R : HP} {w : World} (h : St N0 B R w) (o : Obj) : St N0 B (SL.blk w.heap.size o * R) (w.alloc o) := by
  obtain ⟨hr, hN, k, hk, y⟩ := h
  have hlt : ∀ {b : Nat} {u : Obj}, w.heap[b]? = some u → b < w.heap.size := fun h => (Array.getElem?_eq_some_iff.1 h).1
  refine ⟨fun i u hi => ?_, by simp; omega, (Frag.one w.heap.size o).un k, fun i u hi => ?_, Frag.one w.heap.size o, k, fun i => ?_, rfl, rfl, y⟩
  · rw [Below.heap_alloc _ _ _ (hlt (hr i u hi))]; exact hr i u hi
  · by_cases e2 : i = w.heap.size
    · subst e2
      simp [Frag.un, Frag.one] at hi
      subst hi
      refine ⟨World.alloc_heap_new w o, ?_, hN⟩
      cases hB : B w.heap.size with
      | none => rfl
      | some u => have := hlt (hr _ u hB); omega
    · simp [Frag.un, Frag.one, e2] at hi
      obtain ⟨h1, h2, h3⟩ := hk i u hi
      exact ⟨by rw [Below.heap_alloc _ _ _ (hlt h1)]; exact h1, h2, h3⟩
  · by_cases e2 : i = w.heap.size
    · right
      subst e2
      cases hB : k w.heap.size with
      | none => rfl
      | some u => have := hlt (hk _ u hB).1; omega
    · left; simp [Frag.one, e2]

/-- What is owned becomes what is only read. -/
theorem St.freeze {N0 : Nat} {B : Frag} {b : Nat} {o : Obj} {R : HP} {w : World} (h : St N0 B (SL.blk b o * R) w) :
    St N0 (Frag.un B (Frag.one b o)) R w ∧ B.le (Frag.un B (Frag.one b o)) := by
  obtain ⟨hw, hB, hN⟩ := h.blk
  obtain ⟨hr, hz, k, hk, a, c, d, e, x, y⟩ := h
  have hx : a = Frag.one b o := x
  subst hx
  refine ⟨⟨fun i u hi => ?_, hz, c, fun i u hi => ?_, y⟩, fun i u hi => by simp [Frag.un, hi]⟩
  · by_cases e2 : i = b
    · subst e2
      simp [Frag.un, Frag.one, hB] at hi
      subst hi; exact hw
    · simp [Frag.un, Frag.one, e2] at hi
      exact hr i u hi
  · have hib : i ≠ b := fun e2 => by
      subst e2
      rcases d i with z | z
      · simp [Frag.one] at z
      · rw [z] at hi; cases hi
    have h2 : k i = some u := by rw [e]; simp [Frag.un, Frag.one, hib, hi]
    obtain ⟨h1, h3, h4⟩ := hk i u h2
    exact ⟨h1, by simp [Frag.un, Frag.one, hib, h3], h4⟩

theorem St.drew {N0 : Nat} {B : Frag} {H : HP} {w : World} (h : St N0 B H w) : St N0 B H w.drew := ⟨h.ro, h.sz, h.own⟩
theorem St.of_heap {N0 : Nat} {B : Frag} {H : HP} {w w' : World} (h : St N0 B H w) (e : w'.heap = w.heap) : St N0 B H w' := ⟨by rw [e]; exact h.ro, by rw [e]; exact h.sz, by rw [e]; exact h.own⟩
theorem St.of_eq {N0 : Nat} {B : Frag} {H H' : HP} {w : World} (h : St N0 B H w) (e : H = H') : St N0 B H' w := e ▸ h
theorem St.imp {N0 : Nat} {B : Frag} {H H' : HP} {w : World} (h : St N0 B H w) (e : ∀ k, H k → H' k) : St N0 B H' w := ⟨h.ro, h.sz, let ⟨k, a, b⟩ := h.own; ⟨k, a, e k b⟩⟩

theorem star_mono {p p' q q' : HP} (h1 : ∀ k, p k → p' k) (h2 : ∀ k, q k → q' k) : ∀ k, (p * q) k → (p' * q') k :=
  fun _ ⟨a, b, d, e, x, y⟩ => ⟨a, b, d, e, h1 _ x, h2 _ y⟩

/-- Block b stands among H's blocks. -/
class PickB (H : HP) (b : Nat) (o : outParam Obj) (R : outParam HP) : Prop where
  eq : H = blk b o * R
instance (b : Nat) (o : Obj) (R : HP) : PickB (blk b o * R) b o R := ⟨rfl⟩
instance (y H : HP) (b : Nat) (o : Obj) (R : HP) [h : PickB H b o R] : PickB (y * H) b o (y * R) := ⟨by rw [h.eq, star_left]⟩

/-- p stands among H's parts. -/
class Pick (H : HP) (p : HP) (R : outParam HP) : Prop where
  eq : H = p * R
instance (p R : HP) : Pick (p * R) p R := ⟨rfl⟩
instance (y H p R : HP) [h : Pick H p R] : Pick (y * H) p (y * R) := ⟨by rw [h.eq, star_left]⟩

/-- All parts of p stand among H's. -/
class Split (H : HP) (p : HP) (R : outParam HP) : Prop where
  eq : H = p * R
instance splitOne (H : HP) : Split H 1 H := ⟨(one_star H).symm⟩
instance splitMul (H p q R1 R2 : HP) [h1 : Pick H p R1] [h2 : Split R1 q R2] : Split H (p * q) R2 := ⟨by rw [h1.eq, h2.eq, star_assoc]⟩

/-- A permutation, told part by part. -/
theorem perm_nil {H : HP} : H = 1 * H := (one_star H).symm
theorem perm_cons {H p q R R1 : HP} (h1 : H = p * R1) (h2 : R1 = q * R) : H = (p * q) * R := by rw [h1, h2, star_assoc]
theorem pick0 (p R : HP) : p * R = p * R := rfl
theorem pick1 (a p R : HP) : a * (p * R) = p * (a * R) := star_left _ _ _
theorem pick2 (a b p R : HP) : a * (b * (p * R)) = p * (a * (b * R)) := by rw [star_left b p, star_left a p]
theorem pick3 (a b c p R : HP) : a * (b * (c * (p * R))) = p * (a * (b * (c * R))) := by rw [star_left c p, star_left b p, star_left a p]
theorem pick4 (a b c d p R : HP) : a * (b * (c * (d * (p * R)))) = p * (a * (b * (c * (d * R)))) := by rw [star_left d p, star_left c p, star_left b p, star_left a p]
theorem pick5 (a b c d e p R : HP) : a * (b * (c * (d * (e * (p * R))))) = p * (a * (b * (c * (d * (e * R))))) := by rw [star_left e p, star_left d p, star_left c p, star_left b p, star_left a p]

end Go.SL
