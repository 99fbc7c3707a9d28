/-
  Texts of this seat, one behind the other: Sla, Slb, Slc, Sld, Sle, Slf, Slg, Slh, Sli, Slj, Fr1, Fr2, Fr3.
-/
import Derived.RangeFuncNested
import Derived.RangeFuncLeaves
import Derived.OrdersIn
import Derived.TacticsIn
import Derived.WalkKit
import Derived.KernelRfl
import Derived.Deep.AppendSrc
import Derived.Laws.BytesString
import Derived.Laws.MakeOwn
import Derived.Laws.BytesArg
import Derived.WalkSpells
import Derived.Laws.Cover3
import Derived.Deep.RegionHeld3
import Derived.Test.YtgcebieihmlaoaaProg

/-
  A small separation logic over the walk's layer 'wpIn': frames as lists of slots, a heap of owned blocks over a base that is only read.
-/
namespace Go.SL
open Go.RowKit

/-! ### The fence that lets everything by -/
def FW (r : Option Nat) : Fence := { fn := fun _ => True, depth := none, alive := false, round := r }
theorem room_FW (r : Option Nat) (n : Nat) : (FW r).room n := fun _ h => by simp [FW] at h
theorem callsIn_FW {r : Option Nat} {n : Nat} {P : Program} {f : FuncId} {args : Array Value} {w : World} {R : Ending → World → Prop} : CallsIn (FW r) n P f args w R ↔ Calls P f args w R :=
  callsIn_wide (n := n) (P := P) (f := f) (args := args) (w := w) (R := R)

/-! ### Lists, written out -/
def frc {α : Type} : List α → (List α → Option (List α)) → Option (List α)
  | [], k => k []
  | x :: xs, k => frc xs fun ys => k (x :: ys)
theorem frc_gen {α : Type} : ∀ (l : List α) (k : List α → Option (List α)), frc l k = k l := by
  intro l
  induction l with
  | nil => intro k; rfl
  | cons x xs ih => intro k; simp only [frc]; rw [ih]
theorem frc_eq {α : Type} {l m : List α} (h : frc l some = some m) : l = m := by rw [frc_gen] at h; exact Option.some.inj h
/-! ### Frames -/
theorem beq_ne {s t : Nat} (e : ¬ t = s) : Nat.beq t s = false := by
  cases h : Nat.beq t s with
  | false => rfl
  | true => exact absurd (Nat.eq_of_beq_eq_true h) e
abbrev Sl := List (Nat × Value)
def lk : Sl → Nat → Option Value
  | [], _ => none
  | (s, v) :: l, t => bif Nat.beq t s then some v else lk l t

structure Fr (ρ : Sl) (nt : Nat) (ds : List Deferred) (a : Act) : Prop where
  size : a.tmps.size = nt
  get : ∀ t v, lk ρ t = some v → a.tmps[t]? = some v
  defers : a.defers = ds

def ev (ρ : Sl) : Operand → Option Value
  | .tmp t => lk ρ t
  | .const v => some v
  | .global g => some (.pointer (some ⟨g, 0, none⟩))
  | .func f => some (.func (.func f) #[] #[])

def evl (ρ : Sl) : List Operand → Option (List Value)
  | [] => some []
  | x :: xs => match ev ρ x, evl ρ xs with
    | some v, some vs => some (v :: vs)
    | _, _ => none

/-- What an evaluation of operands must meet. -/
def Ev (ρ : Sl) (f : Operand → Value) : Prop := ∀ x v, ev ρ x = some v → f x = v

theorem Fr.ev {ρ : Sl} {nt : Nat} {ds : List Deferred} {a : Act} (h : Fr ρ nt ds a) : Ev ρ a.eval := by
  intro x v hx
  cases x with
  | tmp t => have := h.get t v hx; simp [Act.eval, this]
  | const c => simp [SL.ev] at hx; exact hx
  | global g => simp [SL.ev] at hx; exact hx
  | func f => simp [SL.ev] at hx; exact hx

theorem Ev.map {ρ : Sl} {f : Operand → Value} (h : Ev ρ f) : ∀ {xs : List Operand} {vs : List Value}, evl ρ xs = some vs → xs.map f = vs := by
  intro xs
  induction xs with
  | nil => intro vs hv; simp [evl] at hv; simp [hv]
  | cons x xs ih =>
    intro vs hv
    simp only [evl] at hv
    split at hv
    · rename_i v us hx hs
      injection hv with hv
      subst hv
      simp [h x v hx, ih hs]
    · simp at hv

theorem Fr.put {ρ : Sl} {nt : Nat} {ds : List Deferred} {a : Act} (h : Fr ρ nt ds a) {d : Nat} (hd : Nat.blt d nt = true) (v : Value) : Fr ((d, v) :: ρ) nt ds (a.put (some d) v) := by
  have hd' : d < nt := by simpa [Nat.blt_eq] using hd
  refine ⟨by simp [Act.put, h.size], fun t u ht => ?_, by simp [Act.put, h.defers]⟩
  simp only [lk] at ht
  by_cases e : t = d
  · subst e
    simp at ht
    simp [Act.put, h.size, hd', ht]
  · have : Nat.beq t d = false := beq_ne e
    rw [this] at ht
    simp only [cond_false] at ht
    have := h.get t u ht
    simp [Act.put, Ne.symm e, this]

theorem Fr.put_none {ρ : Sl} {nt : Nat} {ds : List Deferred} {a : Act} (h : Fr ρ nt ds a) (v : Value) : Fr ρ nt ds (a.put none v) := h

/-- A shorter list of slots. -/
def Sub (ρ ρ' : Sl) : Prop := ∀ t v, lk ρ' t = some v → lk ρ t = some v
theorem Sub.refl (ρ : Sl) : Sub ρ ρ := fun _ _ h => h
theorem Sub.nil (ρ : Sl) : Sub ρ [] := fun _ _ h => by simp [lk] at h
theorem Sub.cons {ρ ρ' : Sl} {s : Nat} {v : Value} (h : lk ρ s = some v) (hs : Sub ρ ρ') : Sub ρ ((s, v) :: ρ') := by
  intro t u ht
  simp only [lk] at ht
  by_cases e : t = s
  · subst e; simp at ht; rw [h, ht]
  · have : Nat.beq t s = false := beq_ne e
    rw [this] at ht
    exact hs t u ht
theorem Sub.consE {ρ ρ' : Sl} {s : Nat} {v v' : Value} (h : lk ρ s = some v) (e : v = v') (hs : Sub ρ ρ') : Sub ρ ((s, v') :: ρ') := Sub.cons (e ▸ h) hs
theorem Fr.sub {ρ ρ' : Sl} {nt : Nat} {ds : List Deferred} {a : Act} (h : Fr ρ nt ds a) (hs : Sub ρ ρ') : Fr ρ' nt ds a := ⟨h.size, fun t v ht => h.get t v (hs t v ht), h.defers⟩

/-- The slots of a call's arguments. -/
def mk0 : Nat → List Value → Sl
  | _, [] => []
  | i, v :: vs => (i, v) :: mk0 (i + 1) vs

theorem lk_mk0 : ∀ (vs : List Value) (i t : Nat) (v : Value), lk (mk0 i vs) t = some v → i ≤ t ∧ vs[t - i]? = some v := by
  intro vs
  induction vs with
  | nil => intro i t v h; simp [mk0, lk] at h
  | cons u us ih =>
    intro i t v h
    simp only [mk0, lk] at h
    by_cases e : t = i
    · subst e; simp at h; simp [h]
    · have : Nat.beq t i = false := beq_ne e
      rw [this] at h
      obtain ⟨h1, h2⟩ := ih (i + 1) t v h
      refine ⟨by omega, ?_⟩
      rw [show t - i = (t - (i + 1)) + 1 by omega]
      simpa using h2

theorem Fr.start {args : List Value} {nt : Nat} (h : Nat.ble args.length nt = true) : Fr (mk0 0 args) nt [] { tmps := args.toArray ++ Array.replicate (nt - args.toArray.size) undef, defers := [] } := by
  have h' : args.length ≤ nt := by simpa using h
  refine ⟨by simp; omega, fun t v ht => ?_, rfl⟩
  obtain ⟨_, h2⟩ := lk_mk0 args 0 t v ht
  simp only [Nat.sub_zero] at h2
  have hlt : t < args.length := (List.getElem?_eq_some_iff.1 h2).1
  rw [Array.getElem?_append_left (by simpa using hlt)]
  simpa using h2

/-! ### Heaps -/
abbrev Frag := Nat → Option Obj
def HP := Frag → Prop
def Frag.none : Frag := fun _ => Option.none
def Frag.one (b : Nat) (o : Obj) : Frag := fun x => if x = b then some o else Option.none
def Frag.disj (h k : Frag) : Prop := ∀ b, h b = Option.none ∨ k b = Option.none
def Frag.un (h k : Frag) : Frag := fun b => (h b).or (k b)
def Frag.le (h k : Frag) : Prop := ∀ b o, h b = some o → k b = some o
theorem Frag.le_refl (h : Frag) : h.le h := fun _ _ x => x
theorem Frag.le_trans {a b c : Frag} (h : a.le b) (k : b.le c) : a.le c := fun x o hx => k x o (h x o hx)

theorem HP.ext {p q : HP} (h : ∀ x, p x ↔ q x) : p = q := funext fun x => propext (h x)

def star (p q : HP) : HP := fun h => ∃ h1 h2, Frag.disj h1 h2 ∧ h = Frag.un h1 h2 ∧ p h1 ∧ q h2
instance : Mul HP := ⟨star⟩
def emp : HP := fun h => h = Frag.none
instance : One HP := ⟨emp⟩
/-- One block, whole. -/
def blk (b : Nat) (o : Obj) : HP := fun h => h = Frag.one b o
/-- A row of cells. -/
abbrev row (b : Nat) (e : TypeId) (vs : List Value) : HP := blk b (.cells vs.toArray e (0, 0))
def ex {α : Type} (f : α → HP) : HP := fun h => ∃ x, f x h
def pr (p : Prop) : HP := fun h => p ∧ h = Frag.none

theorem disj_comm {h k : Frag} (d : h.disj k) : k.disj h := fun b => (d b).symm
theorem un_comm {h k : Frag} (d : h.disj k) : h.un k = k.un h := by
  funext b
  simp only [Frag.un]
  rcases d b with e | e <;> simp [e]
theorem un_assoc (a b c : Frag) : (a.un b).un c = a.un (b.un c) := by
  funext x; simp only [Frag.un, Option.or_assoc]

theorem star_comm (p q : HP) : p * q = q * p := HP.ext fun h =>
  ⟨fun ⟨a, b, d, e, x, y⟩ => ⟨b, a, disj_comm d, by rw [e, un_comm d], y, x⟩, fun ⟨a, b, d, e, x, y⟩ => ⟨b, a, disj_comm d, by rw [e, un_comm d], y, x⟩⟩

theorem disj_un {a b c : Frag} : (a.un b).disj c ↔ a.disj c ∧ b.disj c := by
  constructor
  · intro d
    refine ⟨fun x => ?_, fun x => ?_⟩
    · rcases d x with e | e
      · simp only [Frag.un, Option.or_eq_none_iff] at e; exact .inl e.1
      · exact .inr e
    · rcases d x with e | e
      · simp only [Frag.un, Option.or_eq_none_iff] at e; exact .inl e.2
      · exact .inr e
  · rintro ⟨d1, d2⟩ x
    rcases d1 x with e | e
    · rcases d2 x with e2 | e2
      · exact .inl (by simp [Frag.un, e, e2])
      · exact .inr e2
    · exact .inr e
theorem disj_un' {a b c : Frag} : a.disj (b.un c) ↔ a.disj b ∧ a.disj c :=
  ⟨fun d => let ⟨x, y⟩ := disj_un.1 (disj_comm d); ⟨disj_comm x, disj_comm y⟩, fun ⟨x, y⟩ => disj_comm (disj_un.2 ⟨disj_comm x, disj_comm y⟩)⟩

theorem star_assoc (p q r : HP) : (p * q) * r = p * (q * r) := HP.ext fun h => by
  constructor
  · rintro ⟨ab, c, d, e, ⟨a, b, d2, e2, x, y⟩, z⟩
    subst e2
    obtain ⟨dac, dbc⟩ := disj_un.1 d
    exact ⟨a, b.un c, disj_un'.2 ⟨d2, dac⟩, by rw [e, un_assoc], x, b, c, dbc, rfl, y, z⟩
  · rintro ⟨a, bc, d, e, x, b, c, d2, e2, y, z⟩
    subst e2
    obtain ⟨dab, dac⟩ := disj_un'.1 d
    exact ⟨a.un b, c, disj_un.2 ⟨dac, d2⟩, by rw [e, un_assoc], ⟨a, b, dab, rfl, x, y⟩, z⟩

instance : Std.Associative (α := HP) (· * ·) := ⟨star_assoc⟩
instance : Std.Commutative (α := HP) (· * ·) := ⟨star_comm⟩
theorem star_left (p q r : HP) : p * (q * r) = q * (p * r) := by rw [← star_assoc, star_comm p q, star_assoc]

theorem one_star (p : HP) : 1 * p = p := HP.ext fun h => by
  constructor
  · rintro ⟨a, b, _, e, x, y⟩
    have : a = Frag.none := x
    subst this
    have : h = b := by rw [e]; funext z; simp [Frag.un, Frag.none]
    rw [this]; exact y
  · intro x
    exact ⟨Frag.none, h, fun _ => .inl rfl, by funext z; simp [Frag.un, Frag.none], rfl, x⟩
theorem star_one (p : HP) : p * 1 = p := by rw [star_comm, one_star]

theorem pr_star (p : Prop) (q : HP) (h : Frag) : (pr p * q) h ↔ p ∧ q h := by
  constructor
  · rintro ⟨a, b, _, e, ⟨hp, x⟩, y⟩
    subst x
    have : h = b := by rw [e]; funext z; simp [Frag.un, Frag.none]
    rw [this]; exact ⟨hp, y⟩
  · rintro ⟨hp, x⟩
    exact ⟨Frag.none, h, fun _ => .inl rfl, by funext z; simp [Frag.un, Frag.none], ⟨hp, rfl⟩, x⟩
theorem pr_star_of {p : Prop} (hp : p) (q : HP) : pr p * q = q := HP.ext fun h => ⟨fun x => ((pr_star p q h).1 x).2, fun x => (pr_star p q h).2 ⟨hp, x⟩⟩
theorem ex_star {α : Type} (f : α → HP) (q : HP) (h : Frag) : (ex f * q) h ↔ ∃ x, (f x * q) h :=
  ⟨fun ⟨a, b, d, e, ⟨x, hx⟩, y⟩ => ⟨x, a, b, d, e, hx, y⟩, fun ⟨x, a, b, d, e, hx, y⟩ => ⟨a, b, d, e, ⟨x, hx⟩, y⟩⟩

/-- What is only read lies there; what is owned lies there, apart from it, and no lower than N0. -/
structure St (N0 : Nat) (B : Frag) (H : HP) (w : World) : Prop where
  ro : ∀ b o, B b = some o → w.heap[b]? = some o
  sz : N0 ≤ w.heap.size
  own : ∃ h : Frag, (∀ b o, h b = some o → w.heap[b]? = some o ∧ B b = Option.none ∧ N0 ≤ b) ∧ H h

theorem St.blk {N0 : Nat} {B : Frag} {b : Nat} {o : Obj} {R : HP} {w : World} (h : St N0 B (blk b o * R) w) : w.heap[b]? = some o ∧ B b = Option.none ∧ N0 ≤ b := by
  obtain ⟨_, _, k, hk, a, c, d, e, x, y⟩ := h
  have : a = Frag.one b o := x
  subst this
  exact hk b o (by rw [e]; simp [Frag.un, Frag.one])

/-- Affine: what is not wanted any more is let go. -/
theorem St.drop {N0 : Nat} {B : Frag} {p R : HP} {w : World} (h : St N0 B (p * R) w) : St N0 B R w := by
  obtain ⟨hr, hz, k, hk, a, c, d, e, x, y⟩ := h
  refine ⟨hr, hz, c, fun b o hb => hk b o ?_, y⟩
  rw [e]
  rcases d b with z | z
  · simp [Frag.un, z, hb]
  · rw [z] at hb; cases hb

/-- A block of one's own turns. -/
theorem St.put {N0 : Nat} {B : Frag} {b : Nat} {o o' : Obj} {R : HP} {w w' : World} (h : St N0 B (SL.blk b o * R) w) (hb : w'.heap[b]? = some o') (hs : ∀ k, k ≠ b → w'.heap[k]? = w.heap[k]?)
    (hz' : w.heap.size ≤ w'.heap.size) : St N0 B (SL.blk b o' * R) w' := by
  obtain ⟨_, hB, hN⟩ := h.blk
  obtain ⟨hr, hz, k, hk, a, c, d, e, x, y⟩ := h
  have hx : a = Frag.one b o := x
  subst hx
  refine ⟨fun i u hi => ?_, Nat.le_trans hz hz', (Frag.one b o').un c, fun i u hi => ?_, Frag.one b o', c, fun i => ?_, rfl, rfl, y⟩
  · rw [hs i (fun e => by subst e; rw [hB] at hi; cases hi)]; exact hr i u hi
  · by_cases e2 : i = b
    · subst e2
      simp [Frag.un, Frag.one] at hi
      subst hi
      exact ⟨hb, hB, hN⟩
    · have h2 : (Frag.un (Frag.one b o) c) i = some u := by
        simp [Frag.un, Frag.one, e2] at hi ⊢; exact hi
      rw [← e] at h2
      rw [hs i e2]
      exact hk i u h2
  · rcases d i with z | z
    · left
      simp only [Frag.one] at z ⊢
      split at z
      · cases z
      · rename_i hne; simp [hne]
    · exact .inr z

/-- A new block. -/
theorem St.alloc {N0 : Nat} {B : Frag} {R : HP} {w : World} (h : St N0 B R w) (o : Obj) : St N0 B (SL.blk w.heap.size o * R) (w.alloc o) := by
  obtain ⟨hr, hN, k, hk, y⟩ := h
  have hlt : ∀ {b : Nat} {u : Obj}, w.heap[b]? = some u → b < w.heap.size := fun h => (Array.getElem?_eq_some_iff.1 h).1
  refine ⟨fun i u hi => ?_, by simp; omega, (Frag.one w.heap.size o).un k, fun i u hi => ?_, Frag.one w.heap.size o, k, fun i => ?_, rfl, rfl, y⟩
  · rw [Below.heap_alloc _ _ _ (hlt (hr i u hi))]; exact hr i u hi
  · by_cases e2 : i = w.heap.size
    · subst e2
      simp [Frag.un, Frag.one] at hi
      subst hi
      refine ⟨World.alloc_heap_new w o, ?_, hN⟩
      cases hB : B w.heap.size with
      | none => rfl
      | some u => have := hlt (hr _ u hB); omega
    · simp [Frag.un, Frag.one, e2] at hi
      obtain ⟨h1, h2, h3⟩ := hk i u hi
      exact ⟨by rw [Below.heap_alloc _ _ _ (hlt h1)]; exact h1, h2, h3⟩
  · by_cases e2 : i = w.heap.size
    · right
      subst e2
      cases hB : k w.heap.size with
      | none => rfl
      | some u => have := hlt (hk _ u hB).1; omega
    · left; simp [Frag.one, e2]

/-- What is owned becomes what is only read. -/
theorem St.freeze {N0 : Nat} {B : Frag} {b : Nat} {o : Obj} {R : HP} {w : World} (h : St N0 B (SL.blk b o * R) w) :
    St N0 (Frag.un B (Frag.one b o)) R w ∧ B.le (Frag.un B (Frag.one b o)) := by
  obtain ⟨hw, hB, hN⟩ := h.blk
  obtain ⟨hr, hz, k, hk, a, c, d, e, x, y⟩ := h
  have hx : a = Frag.one b o := x
  subst hx
  refine ⟨⟨fun i u hi => ?_, hz, c, fun i u hi => ?_, y⟩, fun i u hi => by simp [Frag.un, hi]⟩
  · by_cases e2 : i = b
    · subst e2
      simp [Frag.un, Frag.one, hB] at hi
      subst hi; exact hw
    · simp [Frag.un, Frag.one, e2] at hi
      exact hr i u hi
  · have hib : i ≠ b := fun e2 => by
      subst e2
      rcases d i with z | z
      · simp [Frag.one] at z
      · rw [z] at hi; cases hi
    have h2 : k i = some u := by rw [e]; simp [Frag.un, Frag.one, hib, hi]
    obtain ⟨h1, h3, h4⟩ := hk i u h2
    exact ⟨h1, by simp [Frag.un, Frag.one, hib, h3], h4⟩

theorem St.drew {N0 : Nat} {B : Frag} {H : HP} {w : World} (h : St N0 B H w) : St N0 B H w.drew := ⟨h.ro, h.sz, h.own⟩
theorem St.of_heap {N0 : Nat} {B : Frag} {H : HP} {w w' : World} (h : St N0 B H w) (e : w'.heap = w.heap) : St N0 B H w' := ⟨by rw [e]; exact h.ro, by rw [e]; exact h.sz, by rw [e]; exact h.own⟩
theorem St.of_eq {N0 : Nat} {B : Frag} {H H' : HP} {w : World} (h : St N0 B H w) (e : H = H') : St N0 B H' w := e ▸ h
theorem St.imp {N0 : Nat} {B : Frag} {H H' : HP} {w : World} (h : St N0 B H w) (e : ∀ k, H k → H' k) : St N0 B H' w := ⟨h.ro, h.sz, let ⟨k, a, b⟩ := h.own; ⟨k, a, e k b⟩⟩

theorem star_mono {p p' q q' : HP} (h1 : ∀ k, p k → p' k) (h2 : ∀ k, q k → q' k) : ∀ k, (p * q) k → (p' * q') k :=
  fun _ ⟨a, b, d, e, x, y⟩ => ⟨a, b, d, e, h1 _ x, h2 _ y⟩

/-- Block b stands among H's blocks. -/
class PickB (H : HP) (b : Nat) (o : outParam Obj) (R : outParam HP) : Prop where
  eq : H = blk b o * R
instance (b : Nat) (o : Obj) (R : HP) : PickB (blk b o * R) b o R := ⟨rfl⟩
instance (y H : HP) (b : Nat) (o : Obj) (R : HP) [h : PickB H b o R] : PickB (y * H) b o (y * R) := ⟨by rw [h.eq, star_left]⟩

/-- p stands among H's parts. -/
class Pick (H : HP) (p : HP) (R : outParam HP) : Prop where
  eq : H = p * R
instance (p R : HP) : Pick (p * R) p R := ⟨rfl⟩
instance (y H p R : HP) [h : Pick H p R] : Pick (y * H) p (y * R) := ⟨by rw [h.eq, star_left]⟩

/-- All parts of p stand among H's. -/
class Split (H : HP) (p : HP) (R : outParam HP) : Prop where
  eq : H = p * R
instance splitOne (H : HP) : Split H 1 H := ⟨(one_star H).symm⟩
instance splitMul (H p q R1 R2 : HP) [h1 : Pick H p R1] [h2 : Split R1 q R2] : Split H (p * q) R2 := ⟨by rw [h1.eq, h2.eq, star_assoc]⟩

/-- A permutation, told part by part. -/
theorem perm_nil {H : HP} : H = 1 * H := (one_star H).symm
theorem perm_cons {H p q R R1 : HP} (h1 : H = p * R1) (h2 : R1 = q * R) : H = (p * q) * R := by rw [h1, h2, star_assoc]
theorem pick0 (p R : HP) : p * R = p * R := rfl
theorem pick1 (a p R : HP) : a * (p * R) = p * (a * R) := star_left _ _ _
theorem pick2 (a b p R : HP) : a * (b * (p * R)) = p * (a * (b * R)) := by rw [star_left b p, star_left a p]
theorem pick3 (a b c p R : HP) : a * (b * (c * (p * R))) = p * (a * (b * (c * R))) := by rw [star_left c p, star_left b p, star_left a p]
theorem pick4 (a b c d p R : HP) : a * (b * (c * (d * (p * R)))) = p * (a * (b * (c * (d * R)))) := by rw [star_left d p, star_left c p, star_left b p, star_left a p]
theorem pick5 (a b c d e p R : HP) : a * (b * (c * (d * (e * (p * R))))) = p * (a * (b * (c * (d * (e * R))))) := by rw [star_left e p, star_left d p, star_left c p, star_left b p, star_left a p]

end Go.SL

/-
  The rules of control: code, regions, calls, over the states of the small separation logic.
-/
namespace Go.SL
open Go.RowKit

structure Env where
  P : Program
  r : Option Nat
  N0 : Nat
  w0 : World
  nt : Nat

/-- K holds wherever the state is as told. -/
def Xx (e : Env) (ds : List Deferred) (K : Act → World → Prop) (ρ : Sl) (B : Frag) (H : HP) : Prop :=
  ∀ a w, Fr ρ e.nt ds a → Below e.N0 e.w0 w → St e.N0 B H w → K a w
def Cx (e : Env) (ds : List Deferred) (c : Code) (Q : Exit → Act → World → Prop) (ρ : Sl) (B : Frag) (H : HP) : Prop :=
  Xx e ds (fun a w => c.wpIn (FW e.r) 0 e.P Q a w) ρ B H
def Lx (e : Env) (ds : List Deferred) (ops : Array Oper) (Q : Exit → Act → World → Prop) (rest : List Oper) (ρ : Sl) (B : Frag) (H : HP) : Prop :=
  Xx e ds (fun a w => wpListIn (FW e.r) 0 e.P ops Q rest a w) ρ B H

section
variable {e : Env} {ds : List Deferred} {Q : Exit → Act → World → Prop} {ρ ρ' : Sl} {B B' : Frag} {H H' : HP} {K : Act → World → Prop}

theorem Xx.perm (h : Xx e ds K ρ B H') (hp : H = H') : Xx e ds K ρ B H := hp ▸ h
theorem Xx.imp (h : Xx e ds K ρ B H') (hp : ∀ k, H k → H' k) : Xx e ds K ρ B H := fun a w f b s => h a w f b (s.imp hp)
theorem Xx.sub (h : Xx e ds K ρ' B H) (hs : Sub ρ ρ') : Xx e ds K ρ B H := fun a w f b s => h a w (f.sub hs) b s
theorem Xx.drop {p : HP} (h : Xx e ds K ρ B H) : Xx e ds K ρ B (p * H) := fun a w f b s => h a w f b s.drop
theorem Xx.ex {α : Type} {f : α → HP} (h : ∀ x, Xx e ds K ρ B (f x * H)) : Xx e ds K ρ B (SL.ex f * H) := fun a w fr b s => by
  obtain ⟨ro, sz, k, hk, hh⟩ := s
  obtain ⟨x, hx⟩ := (ex_star f H k).1 hh
  exact h x a w fr b ⟨ro, sz, k, hk, hx⟩
theorem Xx.pr {p : Prop} (h : p → Xx e ds K ρ B H) : Xx e ds K ρ B (SL.pr p * H) := fun a w fr b s => by
  obtain ⟨ro, sz, k, hk, hh⟩ := s
  obtain ⟨hp, hx⟩ := (pr_star p H k).1 hh
  exact h hp a w fr b ⟨ro, sz, k, hk, hx⟩
theorem Xx.freeze {b : Nat} {o : Obj} (h : ∀ B', B.le B' → B' b = some o → Xx e ds K ρ B' H) : Xx e ds K ρ B (blk b o * H) := fun a w f bl s =>
  h _ s.freeze.2 (by
    have := s.blk.2.1
    simp [Frag.un, Frag.one, this]) a w f bl s.freeze.1

theorem Cx.seq {x y : Code} (h : ∀ K : Act → World → Prop, (∀ ds ρ B H, Cx e ds y Q ρ B H → Xx e ds K ρ B H) → Cx e ds x (Exit.then K Q) ρ B H) : Cx e ds (.seq x y) Q ρ B H :=
  fun a w f b s => wpIn_seq (h (fun a w => y.wpIn (FW e.r) 0 e.P Q a w) (fun _ _ _ _ h => h) a w f b s)

/-- The way on, told by what holds there. -/
def MK (e : Env) (ds : List Deferred) (M : Sl → Frag → HP → Prop) (a : Act) (w : World) : Prop :=
  ∃ ρ B H, M ρ B H ∧ Fr ρ e.nt ds a ∧ Below e.N0 e.w0 w ∧ St e.N0 B H w
theorem Xx.mk {M : Sl → Frag → HP → Prop} (hm : M ρ' B H) (hs : Sub ρ ρ') : Xx e ds (MK e ds M) ρ B H := fun _ _ f b s => ⟨ρ', B, H, hm, f.sub hs, b, s⟩
theorem Cx.cut {x y : Code} {ds' : List Deferred} (M : Sl → Frag → HP → Prop) (hx : Cx e ds x (Exit.then (MK e ds' M) Q) ρ B H) (hy : ∀ ρ B H, M ρ B H → Cx e ds' y Q ρ B H) : Cx e ds (.seq x y) Q ρ B H :=
  fun a w f b s => wpIn_seq (wpIn_mono (hx a w f b s) fun ex a w q => by
    cases ex with
    | normal => obtain ⟨ρ, B, H, hm, f, b, s⟩ := q; exact hy ρ B H hm a w f b s
    | exit id => exact q
    | goto l => exact q
    | ret => exact q
    | panic c => exact q
    | outgrown => exact q)

theorem Cx.skip (h : Xx e ds (Q .normal) ρ B H) : Cx e ds .skip Q ρ B H := fun a w f b s => wpIn_skip (h a w f b s)
theorem Cx.ret (h : Xx e ds (Q .ret) ρ B H) : Cx e ds .ret Q ρ B H := fun a w f b s => wpIn_ret (h a w f b s)
theorem Cx.exit {id : Nat} (h : Xx e ds (Q (.exit id)) ρ B H) : Cx e ds (.exit id) Q ρ B H := fun a w f b s => wpIn_exit (h a w f b s)
theorem Cx.block {id : Nat} {c : Code} (h : Cx e ds c (Exit.inBlock id Q) ρ B H) : Cx e ds (.block id c) Q ρ B H := fun a w f b s => wpIn_block (h a w f b s)
theorem Cx.label {l : Nat} (h : Xx e ds (Q .normal) ρ B H) : Cx e ds (.label l) Q ρ B H := fun a w f b s => wpIn_label (h a w f b s)

theorem Xx.tn (h : Xx e ds K ρ B H) : Xx e ds (Exit.then K Q .normal) ρ B H := h
theorem Xx.te {id : Nat} (h : Xx e ds (Q (.exit id)) ρ B H) : Xx e ds (Exit.then K Q (.exit id)) ρ B H := h
theorem Xx.tr (h : Xx e ds (Q .ret) ρ B H) : Xx e ds (Exit.then K Q .ret) ρ B H := h
theorem Xx.bn {id : Nat} (h : Xx e ds (Q .normal) ρ B H) : Xx e ds (Exit.inBlock id Q .normal) ρ B H := h
theorem Xx.br {id : Nat} (h : Xx e ds (Q .ret) ρ B H) : Xx e ds (Exit.inBlock id Q .ret) ρ B H := h
theorem Xx.bh {id : Nat} (h : Xx e ds (Q .normal) ρ B H) : Xx e ds (Exit.inBlock id Q (.exit id)) ρ B H := fun a w f b s => by
  simp only [Exit.inBlock, if_true]; exact h a w f b s
theorem Xx.bm {id id' : Nat} (hne : Nat.beq id' id = false) (h : Xx e ds (Q (.exit id')) ρ B H) : Xx e ds (Exit.inBlock id Q (.exit id')) ρ B H := fun a w f b s => by
  have : ¬ id' = id := fun e => by subst e; simp at hne
  simp only [Exit.inBlock, this, if_false]; exact h a w f b s

theorem Cx.condD {c : Operand} {x y : Code} {p : Prop} [Decidable p] (hc : ev ρ c = some (.bool (decide p))) (ht : p → Cx e ds x Q ρ B H) (hf : ¬ p → Cx e ds y Q ρ B H) : Cx e ds (.cond c x y) Q ρ B H :=
  fun a w f b s => wpIn_cond_split (f.ev _ _ hc) (fun h => ht (of_decide_eq_true h) a w f b s) (fun h => hf (of_decide_eq_false h) a w f b s)
theorem Cx.condN {c : Operand} {x y : Code} {p : Prop} [Decidable p] (hc : ev ρ c = some (.bool (!decide p))) (ht : ¬ p → Cx e ds x Q ρ B H) (hf : p → Cx e ds y Q ρ B H) : Cx e ds (.cond c x y) Q ρ B H :=
  fun a w f b s => wpIn_cond_split (f.ev _ _ hc) (fun h => ht (of_decide_eq_false (by simpa using h)) a w f b s) (fun h => hf (of_decide_eq_true (by simpa using h)) a w f b s)
theorem Cx.condB {c : Operand} {x y : Code} {t : Bool} (hc : ev ρ c = some (.bool t)) (ht : t = true → Cx e ds x Q ρ B H) (hf : t = false → Cx e ds y Q ρ B H) : Cx e ds (.cond c x y) Q ρ B H :=
  fun a w f b s => wpIn_cond_split (f.ev _ _ hc) (fun h => ht h a w f b s) (fun h => hf h a w f b s)
theorem Cx.condT {c : Operand} {x y : Code} (hc : ev ρ c = some (.bool true)) (h : Cx e ds x Q ρ B H) : Cx e ds (.cond c x y) Q ρ B H :=
  fun a w f b s => wpIn_cond_true (f.ev _ _ hc) (h a w f b s)
theorem Cx.condF {c : Operand} {x y : Code} (hc : ev ρ c = some (.bool false)) (h : Cx e ds y Q ρ B H) : Cx e ds (.cond c x y) Q ρ B H :=
  fun a w f b s => wpIn_cond_false (f.ev _ _ hc) (h a w f b s)

/-- A round has gone by: the relation holds at a lower number. -/
def LK (e : Env) (ds : List Deferred) (I : Nat → Sl → Frag → HP → Prop) (m : Nat) (a : Act) (w : World) : Prop :=
  ∃ m' ρ B H, m' < m ∧ I m' ρ B H ∧ Fr ρ e.nt ds a ∧ Below e.N0 e.w0 w ∧ St e.N0 B H w
theorem Xx.again {I : Nat → Sl → Frag → HP → Prop} {m m' : Nat} (hi : I m' ρ' B H) (hm : m' < m) (hs : Sub ρ ρ') : Xx e ds (LK e ds I m) ρ B H := fun _ _ f b s => ⟨m', ρ', B, H, hm, hi, f.sub hs, b, s⟩
theorem least {p : Nat → Prop} (h : ∃ n, p n) : ∃ n, p n ∧ ∀ m, p m → n ≤ m := by
  obtain ⟨n, hn⟩ := h
  induction n using Nat.strongRecOn with
  | _ n ih =>
    by_cases hx : ∃ m, m < n ∧ p m
    · obtain ⟨m, hm, hp⟩ := hx; exact ih m hm hp
    · exact ⟨n, hn, fun m hm => Nat.le_of_not_lt fun hlt => hx ⟨m, hlt, hm⟩⟩
open Classical in
theorem Cx.loop {c : Code} (I : Nat → Sl → Frag → HP → Prop) {m : Nat} (h0 : I m ρ' B H) (hs : Sub ρ ρ')
    (round : ∀ m ρ B H, I m ρ B H → Cx e ds c (Exit.then (LK e ds I m) Q) ρ B H) : Cx e ds (.loop c) Q ρ B H := by
  intro a w f b s
  let J : Nat → Act → World → Prop := fun m a w => ∃ ρ B H, I m ρ B H ∧ Fr ρ e.nt ds a ∧ Below e.N0 e.w0 w ∧ St e.N0 B H w
  let μ : Act → World → Nat := fun a w => if h : ∃ m, J m a w then Classical.choose (least h) else 0
  have hμ : ∀ m a w, J m a w → μ a w ≤ m ∧ J (μ a w) a w := by
    intro m a w h
    have hex : ∃ m, J m a w := ⟨m, h⟩
    simp only [μ, dif_pos hex]
    have := Classical.choose_spec (least hex)
    exact ⟨this.2 m h, this.1⟩
  refine wpIn_loop (fun a w => ∃ m, J m a w) μ ⟨m, ρ', B, H, h0, f.sub hs, b, s⟩ ?_
  rintro a w ⟨m, hm⟩
  obtain ⟨_, ρ1, B1, H1, hi, f1, b1, s1⟩ := hμ m a w hm
  refine wpIn_mono (round _ ρ1 B1 H1 hi a w f1 b1 s1) fun ex a' w' q => ?_
  cases ex with
  | normal =>
    obtain ⟨m', ρ2, B2, H2, hlt, hi2, f2, b2, s2⟩ := q
    have hj : J m' a' w' := ⟨ρ2, B2, H2, hi2, f2, b2, s2⟩
    exact ⟨⟨m', hj⟩, Nat.lt_of_le_of_lt (hμ m' a' w' hj).1 hlt⟩
  | exit id => exact q
  | goto l => exact q
  | ret => exact q
  | panic c => exact q
  | outgrown => exact q

theorem Cx.region {id : Nat} {l : List Oper} (h : Lx e ds l.toArray Q l ρ B H) : Cx e ds (.region id l.toArray false) Q ρ B H :=
  fun a w f b s => wpIn_region_lit (h a w f b s)

variable {ops : Array Oper} {rest : List Oper}
theorem Lx.nil (h : Xx e ds (Q .normal) ρ B H) : Lx e ds ops Q [] ρ B H := h

/-- An operation that only reckons, or reads: what it hands back wherever S holds. -/
def Yx (P : Program) (op : Op) (ty : TypeId) (ρ : Sl) (S : World → Prop) (v : Value) : Prop :=
  (∀ c, op ≠ .defer c) ∧ ∀ (f : Operand → Value) w (dst : Option Tmp) (pos : String) (after : Array Edge) (guard : Option (Nat × Bool)), Ev ρ f → S w → (execOp f ⟨dst, op, ty, pos, after, guard⟩).run P w = .ok (.value v) w

/-- An operation, whatever it does: its value, and what is read and owned behind it. -/
def Ox (e : Env) (ds : List Deferred) (op : Op) (ty : TypeId) (ρ : Sl) (B : Frag) (H : HP) (Φ : Value → Frag → HP → Prop) : Prop :=
  (∀ c, op ≠ .defer c) ∧ ∀ (a : Act) (w : World) (dst : Option Tmp) (pos : String) (after : Array Edge) (guard : Option (Nat × Bool)) (K : Act → World → Prop) (Q : Exit → Act → World → Prop),
    Fr ρ e.nt ds a → Below e.N0 e.w0 w → St e.N0 B H w →
    (∀ v B' H' w', Φ v B' H' → B.le B' → Below e.N0 e.w0 w' → St e.N0 B' H' w' → K (a.put dst v) w') →
    Oper.uponIn (FW e.r) 0 e.P ⟨dst, op, ty, pos, after, guard⟩ a K Q ((execOp a.eval ⟨dst, op, ty, pos, after, guard⟩).run e.P w)

theorem Oper.wpIn_FW {o : Oper} {a : Act} {w : World} {K : Act → World → Prop} {P : Program} {r : Option Nat} (hd : ∀ c, o.op ≠ .defer c)
    (h : Oper.uponIn (FW r) 0 P o a K Q ((execOp a.eval o).run P w)) : Oper.wpIn (FW r) 0 P o a w K Q :=
  ⟨fun _ _ => trivial, by
    have : Oper.semAt (FW r).round a.eval o = execOp a.eval o := Oper.semAt_eq _ _ _ hd
    rw [this]; exact h⟩

theorem Yx.ox {op : Op} {ty : TypeId} {v : Value} (h : Yx e.P op ty ρ (St e.N0 B H) v) : Ox e ds op ty ρ B H (fun v' B' H' => v' = v ∧ B' = B ∧ H' = H) :=
  ⟨h.1, fun a w dst pos after guard K Q f b s k => by
    rw [h.2 a.eval w dst pos after guard f.ev s]
    exact k v B H w ⟨rfl, rfl, rfl⟩ (Frag.le_refl _) b s⟩

theorem Lx.o {op : Op} {ty : TypeId} {pos : String} {af : Array Edge} {d : Nat} {Φ : Value → Frag → HP → Prop} (h : Ox e ds op ty ρ B H Φ) (hd : Nat.blt d e.nt = true)
    (k : ∀ v B' H', Φ v B' H' → B.le B' → Lx e ds ops Q rest ((d, v) :: ρ) B' H') : Lx e ds ops Q (⟨some d, op, ty, pos, af, none⟩ :: rest) ρ B H := by
  intro a w f b s
  simp only [wpListIn]
  rw [if_pos (by simp [Region.wanted])]
  exact Oper.wpIn_FW h.1 (h.2 a w _ _ _ _ _ _ f b s fun v B' H' w' hΦ hB b' s' => k v B' H' hΦ hB _ w' (f.put hd v) b' s')

theorem Lx.o0 {op : Op} {ty : TypeId} {pos : String} {af : Array Edge} {Φ : Value → Frag → HP → Prop} (h : Ox e ds op ty ρ B H Φ)
    (k : ∀ v B' H', Φ v B' H' → B.le B' → Lx e ds ops Q rest ρ B' H') : Lx e ds ops Q (⟨none, op, ty, pos, af, none⟩ :: rest) ρ B H := by
  intro a w f b s
  simp only [wpListIn]
  rw [if_pos (by simp [Region.wanted])]
  exact Oper.wpIn_FW h.1 (h.2 a w _ _ _ _ _ _ f b s fun v B' H' w' hΦ hB b' s' => k v B' H' hΦ hB _ w' (f.put_none v) b' s')

theorem Lx.y {op : Op} {ty : TypeId} {pos : String} {af : Array Edge} {d : Nat} {v : Value} (h : Yx e.P op ty ρ (St e.N0 B H) v) (hd : Nat.blt d e.nt = true)
    (k : Lx e ds ops Q rest ((d, v) :: ρ) B H) : Lx e ds ops Q (⟨some d, op, ty, pos, af, none⟩ :: rest) ρ B H :=
  Lx.o h.ox hd fun v' B' H' ⟨e1, e2, e3⟩ _ => by subst e1; subst e2; subst e3; exact k
theorem Lx.y0 {op : Op} {ty : TypeId} {pos : String} {af : Array Edge} {v : Value} (h : Yx e.P op ty ρ (St e.N0 B H) v)
    (k : Lx e ds ops Q rest ρ B H) : Lx e ds ops Q (⟨none, op, ty, pos, af, none⟩ :: rest) ρ B H :=
  Lx.o0 h.ox fun v' B' H' ⟨_, e2, e3⟩ _ => by subst e2; subst e3; exact k

theorem yielded_of {o : Oper} {a : Act} {j t : Nat} {u : Bool} (f : Fr ρ e.nt ds a) (hj : ops[j]? = some o) (ho : o.dst = some t) (hv : lk ρ t = some (.bool u)) : yielded ops a.tmps j = some u := by
  have := f.get t _ hv
  simp [yielded, hj, ho, this]
/-- A guard that says yes. -/
theorem Lx.gT {o : Oper} {op : Op} {ty : TypeId} {pos : String} {af : Array Edge} {d : Option Nat} {j t : Nat} {u : Bool} (hj : ops[j]? = some o) (ho : o.dst = some t) (hv : lk ρ t = some (.bool u))
    (k : Lx e ds ops Q (⟨d, op, ty, pos, af, none⟩ :: rest) ρ B H) : Lx e ds ops Q (⟨d, op, ty, pos, af, some (j, u)⟩ :: rest) ρ B H := by
  intro a w f b s
  have hy := yielded_of (e := e) f hj ho hv
  have := k a w f b s
  simp only [wpListIn] at this ⊢
  rw [if_pos (by simp [Region.wanted])] at this
  rw [if_pos (by simp [Region.wanted, hy])]
  exact this
/-- A guard that says no. -/
theorem Lx.gF {o : Oper} {op : Op} {ty : TypeId} {pos : String} {af : Array Edge} {d : Nat} {j t : Nat} {u : Bool} (hj : ops[j]? = some o) (ho : o.dst = some t) (hv : lk ρ t = some (.bool (!u))) (hd : Nat.blt d e.nt = true)
    (k : Lx e ds ops Q rest ((d, undef) :: ρ) B H) : Lx e ds ops Q (⟨some d, op, ty, pos, af, some (j, u)⟩ :: rest) ρ B H := by
  intro a w f b s
  have hy := yielded_of (e := e) f hj ho hv
  simp only [wpListIn]
  rw [if_neg (by simp [Region.wanted, hy])]
  exact ⟨fun _ _ => trivial, k _ w (f.put hd undef) b s⟩
theorem Lx.gF0 {o : Oper} {op : Op} {ty : TypeId} {pos : String} {af : Array Edge} {j t : Nat} {u : Bool} (hj : ops[j]? = some o) (ho : o.dst = some t) (hv : lk ρ t = some (.bool (!u)))
    (k : Lx e ds ops Q rest ρ B H) : Lx e ds ops Q (⟨none, op, ty, pos, af, some (j, u)⟩ :: rest) ρ B H := by
  intro a w f b s
  have hy := yielded_of (e := e) f hj ho hv
  simp only [wpListIn]
  rw [if_neg (by simp [Region.wanted, hy])]
  exact ⟨fun _ _ => trivial, k _ w f b s⟩

/-! ### Contracts -/
/-- A function's contract: called with these arguments, owning pre beside whatever R, it returns a value, and what Φ says is owned and read behind. -/
def Ct (P : Program) (f : FuncId) (args : List Value) (B : Frag) (pre : HP) (Φ : Value → Frag → HP → Prop) : Prop :=
  (∀ args w, (callFunc f args).run P w = .ok (.enter f args) w) ∧
  ∀ (N0 : Nat) (w : World) (R : HP), St N0 B (pre * R) w →
    Calls P f args.toArray w fun x w' => ∃ v B' H', x = .returned v ∧ Φ v B' H' ∧ B.le B' ∧ Below N0 w w' ∧ St N0 B' (H' * R) w'

/-- What is asked at a function's end. -/
def Fin (N0 : Nat) (w0 : World) (R : HP) (B : Frag) (Φ : Value → Frag → HP → Prop) (x : Ending) (w' : World) : Prop :=
  ∃ v B' H', x = .returned v ∧ Φ v B' H' ∧ B.le B' ∧ Below N0 w0 w' ∧ St N0 B' (H' * R) w'

theorem enters_of {P : Program} {f : FuncId} {fn : Func} {c : Code} (hf : P.funcs[f]? = some fn) (hb : fn.body = some c) (hn : (fn.name == "runtime.NumGoroutine") = false) :
    ∀ args w, (callFunc f args).run P w = .ok (.enter f args) w := fun args w => by
  have hn' : ¬ fn.name = "runtime.NumGoroutine" := by simpa using hn
  simp [callFunc, hf, hb, hn']

theorem Ct.of_body {P : Program} {f : FuncId} {fn : Func} {c : Code} {args : List Value} {pre : HP} {Φ : Value → Frag → HP → Prop} {nt : Nat}
    (hf : P.funcs[f]? = some fn) (hb : fn.body = some c) (hnt : fn.ntmps = nt) (hn : (fn.name == "runtime.NumGoroutine") = false) (hs : Nat.ble args.length nt = true)
    (h : ∀ (N0 : Nat) (w0 : World) (R : HP), Cx ⟨P, none, N0, w0, nt⟩ [] c (bodyPost P fn (Fin N0 w0 R B Φ)) (mk0 0 args) B (pre * R)) : Ct P f args B pre Φ :=
  ⟨enters_of hf hb hn, fun N0 w R s => by
    refine (callsIn_FW (r := none) (n := 0)).1 (callsIn_of_wp hf hb trivial ?_)
    rw [hnt]
    exact h N0 w R _ w (Fr.start hs) (Below.refl _ _) s⟩

theorem Ct.of_bodyM {P : Program} {f : FuncId} {fn : Func} {c : Code} {args : List Value} {pre : HP} {Φ : Value → Frag → HP → Prop} {nt : Nat}
    (hf : P.funcs[f]? = some fn) (hb : fn.body = some c) (hnt : fn.ntmps = nt) (hn : (fn.name == "runtime.NumGoroutine") = false) (hs : Nat.ble args.length nt = true)
    (h : ∀ (N0 : Nat) (w0 : World) (R : HP), Cx ⟨P, none, N0, w0, nt⟩ [] c (bodyPostM (FW none) 0 P fn (Fin N0 w0 R B Φ)) (mk0 0 args) B (pre * R)) : Ct P f args B pre Φ :=
  ⟨enters_of hf hb hn, fun N0 w R s => by
    refine (callsIn_FW (r := none) (n := 0)).1 (callsIn_of_wp_marks hf hb trivial ?_)
    rw [hnt]
    exact h N0 w R _ w (Fr.start hs) (Below.refl _ _) s⟩

theorem Ct.mono {P : Program} {f : FuncId} {args : List Value} {pre : HP} {Φ Φ' : Value → Frag → HP → Prop} (h : Ct P f args B pre Φ) (hm : ∀ v B' H', Φ v B' H' → Φ' v B' H') : Ct P f args B pre Φ' :=
  ⟨h.1, fun N0 w R s => (h.2 N0 w R s).mono fun _ _ ⟨v, B', H', a, b, c⟩ => ⟨v, B', H', a, hm _ _ _ b, c⟩⟩

/-- The end of a function with one result in a slot, two, three, none. -/
theorem Xx.ret1 {fn : Func} {N0 : Nat} {w0 : World} {P : Program} {r : Option Nat} {nt : Nat} {R : HP} {B0 : Frag} {Φ : Value → Frag → HP → Prop} {t : Tmp} {v : Value} (hr : fn.results = #[.tmp t]) (hv : lk ρ t = some v)
    (hΦ : Φ v B H') (hB : B0.le B) (hH : H = H' * R) : Xx ⟨P, r, N0, w0, nt⟩ [] (bodyPost P fn (Fin N0 w0 R B0 Φ) .ret) ρ B H := fun a w f b s =>
  ⟨f.defers, v, by rw [results_tmp hr]; have := f.get t v hv; simp [this], v, B, H', rfl, hΦ, hB, b, hH ▸ s⟩
theorem Xx.ret2 {fn : Func} {N0 : Nat} {w0 : World} {P : Program} {r : Option Nat} {nt : Nat} {R : HP} {B0 : Frag} {Φ : Value → Frag → HP → Prop} {t u : Tmp} {v x : Value} (hr : fn.results = #[.tmp t, .tmp u]) (hv : lk ρ t = some v) (hx : lk ρ u = some x)
    (hΦ : Φ (.tuple #[v, x]) B H') (hB : B0.le B) (hH : H = H' * R) : Xx ⟨P, r, N0, w0, nt⟩ [] (bodyPost P fn (Fin N0 w0 R B0 Φ) .ret) ρ B H := fun a w f b s =>
  ⟨f.defers, .tuple #[v, x], by rw [results_tmp2 hr]; have h1 := f.get t v hv; have h2 := f.get u x hx; simp [h1, h2], _, B, H', rfl, hΦ, hB, b, hH ▸ s⟩
theorem Xx.ret0 {fn : Func} {N0 : Nat} {w0 : World} {P : Program} {r : Option Nat} {nt : Nat} {R : HP} {B0 : Frag} {Φ : Value → Frag → HP → Prop} (hr : fn.results = #[])
    (hΦ : Φ (.tuple #[]) B H') (hB : B0.le B) (hH : H = H' * R) : Xx ⟨P, r, N0, w0, nt⟩ [] (bodyPost P fn (Fin N0 w0 R B0 Φ) .ret) ρ B H := fun _ _ f b s =>
  ⟨f.defers, .tuple #[], results_none hr _ _ _, _, B, H', rfl, hΦ, hB, b, hH ▸ s⟩
theorem Xx.end0 {fn : Func} {N0 : Nat} {w0 : World} {P : Program} {r : Option Nat} {nt : Nat} {R : HP} {B0 : Frag} {Φ : Value → Frag → HP → Prop} (hr : fn.results = #[])
    (hΦ : Φ (.tuple #[]) B H') (hB : B0.le B) (hH : H = H' * R) : Xx ⟨P, r, N0, w0, nt⟩ [] (bodyPost P fn (Fin N0 w0 R B0 Φ) .normal) ρ B H := fun _ _ f b s =>
  ⟨f.defers, .tuple #[], results_none hr _ _ _, _, B, H', rfl, hΦ, hB, b, hH ▸ s⟩

/-- A call of a Go function, by its contract. -/
theorem Ox.call {x : Operand} {xs : Array Operand} {ts : Array TypeId} {ty : TypeId} {fi : FuncId} {first caps : Array Value} {args vs : List Value} {pre R : HP} {Φ : Value → Frag → HP → Prop}
    (hf : ev ρ x = some (.func (.func fi) first caps)) (hx : evl ρ xs.toList = some vs) (ha : first.toList ++ vs ++ caps.toList = args) (hc : Ct e.P fi args B pre Φ) (hH : H = pre * R) :
    Ox e ds (.call { callee := .value x, args := xs, argTypes := ts }) ty ρ B H (fun v B' H' => ∃ H1, H' = H1 * R ∧ Φ v B' H1) :=
  ⟨fun _ h => (by cases h), fun a w dst pos after guard K Q f b s k => by
    have hfv := f.ev _ _ hf
    have hxv : xs.map a.eval = vs.toArray := by
      have := f.ev.map hx
      apply Array.toList_inj.1
      simp [this]
    have hrun : (execOp a.eval ⟨dst, .call { callee := .value x, args := xs, argTypes := ts }, ty, pos, after, guard⟩).run e.P w = .ok (.enter fi args.toArray) w := by
      simp only [execOp, resolve, hfv, Deferred.ofValue, hxv]
      have := hc.1 (first ++ vs.toArray ++ caps) w
      have h2 : first ++ vs.toArray ++ caps = args.toArray := by
        apply Array.toList_inj.1
        simp [← ha]
      rw [h2] at this
      simp only [Sem.run_bind, Sem.run_pure, Result.andThen, invoke, h2]
      exact this
    rw [hrun]
    refine ⟨fun h => by simp [FW] at h, callsIn_FW.2 ((hc.2 e.N0 w R (hH ▸ s)).mono ?_)⟩
    rintro y w' ⟨v, B', H', rfl, hΦ, hB, b', s'⟩
    exact k v B' _ w' ⟨H', rfl, hΦ⟩ hB (b.trans b') s'⟩

theorem Lx.c {x : Operand} {xs : Array Operand} {ts : Array TypeId} {ty : TypeId} {pos : String} {af : Array Edge} {d : Nat} {fi : FuncId} {first caps : Array Value} {args vs : List Value} {pre R : HP} {Φ : Value → Frag → HP → Prop}
    (hf : ev ρ x = some (.func (.func fi) first caps)) (hx : evl ρ xs.toList = some vs) (ha : first.toList ++ vs ++ caps.toList = args) (hc : Ct e.P fi args B pre Φ) (hH : H = pre * R) (hd : Nat.blt d e.nt = true)
    (k : ∀ v B' H', Φ v B' H' → B.le B' → Lx e ds ops Q rest ((d, v) :: ρ) B' (H' * R)) : Lx e ds ops Q (⟨some d, .call { callee := .value x, args := xs, argTypes := ts }, ty, pos, af, none⟩ :: rest) ρ B H :=
  Lx.o (Ox.call hf hx ha hc hH) hd fun v B' H' ⟨H1, e1, hΦ⟩ hB => by subst e1; exact k v B' H1 hΦ hB
end
end Go.SL

/-
  The rules of the operations that only reckon, over the states of the small separation logic.
-/
namespace Go.SL
open Go.RowKit
set_option linter.unusedSimpArgs false
set_option linter.unusedVariables false

abbrev str (l : List UInt8) : Value := .string ⟨l.toArray⟩
abbrev i64 (n : Int) : Value := .int .i64 n

theorem wrap64 {n : Int} (h1 : -9223372036854775808 ≤ n) (h2 : n ≤ 9223372036854775807) : IntKind.i64.wrap n = n := by
  simp only [IntKind.wrap, IntKind.bits, IntKind.signed, Bool.true_and]
  split <;> simp_all <;> omega
theorem wrapU64 {n : Int} (h1 : 0 ≤ n) (h2 : n ≤ 18446744073709551615) : IntKind.u64.wrap n = n := by
  simp only [IntKind.wrap, IntKind.bits, IntKind.signed, Bool.false_and]
  simp; omega
theorem wrapU32 {n : Int} (h1 : 0 ≤ n) (h2 : n ≤ 4294967295) : IntKind.u32.wrap n = n := by
  simp only [IntKind.wrap, IntKind.bits, IntKind.signed, Bool.false_and]
  simp; omega
theorem wrapU8 {n : Int} (h1 : 0 ≤ n) (h2 : n ≤ 255) : IntKind.u8.wrap n = n := by
  simp only [IntKind.wrap, IntKind.bits, IntKind.signed, Bool.false_and]
  simp; omega

/-- A number's lowest byte. -/
def toB (n : Int) : UInt8 := UInt8.ofNat (n % 256).toNat
theorem wrap_u8 (n : Int) : IntKind.u8.wrap n = ((toB n).toNat : Nat) := by
  have h : (toB n).toNat = (n % 256).toNat % 256 := by simp [toB]
  have h1 : 0 ≤ n % 256 := Int.emod_nonneg _ (by decide)
  have h2 : n % 256 < 256 := Int.emod_lt_of_pos _ (by decide)
  rw [h]
  simp [IntKind.wrap, IntKind.bits, IntKind.signed]
  omega
theorem toB_toNat (b : UInt8) : toB (b.toNat : Nat) = b := by
  have := b.toNat_lt
  simp [toB]
  apply UInt8.toNat_inj.1
  simp
  omega
section
variable {P : Program} {ρ : Sl} {S : World → Prop} {ty : TypeId} {x y : Operand} {v u : Value} {k k' : IntKind} {m n z : Int} {t t' : TypeId}

theorem Yx.of {op : Op} (hd : ∀ c, op ≠ .defer c) (h : ∀ (f : Operand → Value) w (dst : Option Tmp) (pos : String) (after : Array Edge) (guard : Option (Nat × Bool)), Ev ρ f → S w → (execOp f ⟨dst, op, ty, pos, after, guard⟩).run P w = .ok (.value v) w) : Yx P op ty ρ S v := ⟨hd, h⟩

theorem mv (hx : ev ρ x = some v) : Yx P (.move x) ty ρ S v := .of (fun _ h => by cases h) fun f w _ _ _ _ he _ => by simp [execOp, he _ _ hx]
theorem asg (hx : ev ρ x = some v) : Yx P (.assign x) ty ρ S v := .of (fun _ h => by cases h) fun f w _ _ _ _ he _ => by simp [execOp, he _ _ hx]
theorem pickT {c a b : Operand} (hc : ev ρ c = some (.bool true)) (hx : ev ρ a = some v) : Yx P (.pick c a b) ty ρ S v := .of (fun _ h => by cases h) fun f w _ _ _ _ he _ => by simp [execOp, he _ _ hc, he _ _ hx, asBool]
theorem pickF {c a b : Operand} (hc : ev ρ c = some (.bool false)) (hx : ev ρ b = some v) : Yx P (.pick c a b) ty ρ S v := .of (fun _ h => by cases h) fun f w _ _ _ _ he _ => by simp [execOp, he _ _ hc, he _ _ hx, asBool]
theorem ext {vs : Array Value} {i : Nat} (hx : ev ρ x = some (.tuple vs)) (hv : vs[i]? = some v) : Yx P (.extract x i) ty ρ S v := .of (fun _ h => by cases h) fun f w _ _ _ _ he _ => by simp [execOp, he _ _ hx, Instr.extract, hv]
theorem nilc {a : Addr} (hx : ev ρ x = some (.pointer (some a))) : Yx P (.nilCheck x) ty ρ S (.pointer (some a)) := .of (fun _ h => by cases h) fun f w _ _ _ _ he _ => by simp [execOp, he _ _ hx]

/-! numbers -/
theorem run_binOp {op : BinOp} {f : Operand → Value} {w : World} {dst : Option Tmp} {pos : String} {after : Array Edge} {guard : Option (Nat × Bool)} {a b : Value} {r : Value}
    (hx : f x = a) (hy : f y = b) (hg : (eqGuard op t x y a b).run P w = .ok () w) (hr : (binOp op t a b).run P w = .ok r w) :
    (execOp f ⟨dst, .binOp op t x y t', ty, pos, after, guard⟩).run P w = .ok (.value r) w := by
  simp [execOp, hx, hy, Sem.run_bind, hg, hr, Result.andThen]
theorem eqGuard_int {op : BinOp} {a b : Int} {w : World} : (eqGuard op t x y (.int k a) (.int k' b)).run P w = .ok () w := by
  cases op <;> simp [eqGuard]

theorem add (hx : ev ρ x = some (.int k m)) (hy : ev ρ y = some (.int k n)) (hz : k.wrap (m + n) = z) : Yx P (.binOp .add t x y t') ty ρ S (.int k z) := .of (fun _ h => by cases h) fun f w _ _ _ _ he _ =>
  run_binOp (he _ _ hx) (he _ _ hy) eqGuard_int (by simp [binOp, Op.intArith, hz])
theorem sub (hx : ev ρ x = some (.int k m)) (hy : ev ρ y = some (.int k n)) (hz : k.wrap (m - n) = z) : Yx P (.binOp .sub t x y t') ty ρ S (.int k z) := .of (fun _ h => by cases h) fun f w _ _ _ _ he _ =>
  run_binOp (he _ _ hx) (he _ _ hy) eqGuard_int (by simp [binOp, Op.intArith, hz])
theorem mul (hx : ev ρ x = some (.int k m)) (hy : ev ρ y = some (.int k n)) (hz : k.wrap (m * n) = z) : Yx P (.binOp .mul t x y t') ty ρ S (.int k z) := .of (fun _ h => by cases h) fun f w _ _ _ _ he _ =>
  run_binOp (he _ _ hx) (he _ _ hy) eqGuard_int (by simp [binOp, Op.intArith, hz])
theorem quo (hx : ev ρ x = some (.int k m)) (hy : ev ρ y = some (.int k n)) (h0 : n ≠ 0) (hz : k.wrap (m.tdiv n) = z) : Yx P (.binOp .quo t x y t') ty ρ S (.int k z) := .of (fun _ h => by cases h) fun f w _ _ _ _ he _ =>
  run_binOp (he _ _ hx) (he _ _ hy) eqGuard_int (by simp [binOp, Op.intDiv, h0, hz])
theorem rem (hx : ev ρ x = some (.int k m)) (hy : ev ρ y = some (.int k n)) (h0 : n ≠ 0) (hz : m.tmod n = z) : Yx P (.binOp .rem t x y t') ty ρ S (.int k z) := .of (fun _ h => by cases h) fun f w _ _ _ _ he _ =>
  run_binOp (he _ _ hx) (he _ _ hy) eqGuard_int (by simp [binOp, Op.intDiv, h0, hz])

theorem quoN (hx : ev ρ x = some (.int k m)) (hy : ev ρ y = some (.int k n)) (h1 : 0 ≤ m) (h0 : 0 < n) (hz : k.wrap (m / n) = z) : Yx P (.binOp .quo t x y t') ty ρ S (.int k z) :=
  quo hx hy (by omega) (by rw [Int.tdiv_eq_ediv_of_nonneg h1]; exact hz)
theorem remN (hx : ev ρ x = some (.int k m)) (hy : ev ρ y = some (.int k n)) (h1 : 0 ≤ m) (h0 : 0 < n) : Yx P (.binOp .rem t x y t') ty ρ S (.int k (m % n)) :=
  rem hx hy (by omega) (by rw [Int.tmod_eq_emod_of_nonneg h1])
def bAnd (k : IntKind) (m n : Int) : Int := k.wrap ((BitVec.ofInt k.bits m &&& BitVec.ofInt k.bits n).toNat : Nat)
def bOr (k : IntKind) (m n : Int) : Int := k.wrap ((BitVec.ofInt k.bits m ||| BitVec.ofInt k.bits n).toNat : Nat)
def bXor (k : IntKind) (m n : Int) : Int := k.wrap ((BitVec.ofInt k.bits m ^^^ BitVec.ofInt k.bits n).toNat : Nat)
def bAndNot (k : IntKind) (m n : Int) : Int := k.wrap ((BitVec.ofInt k.bits m &&& ~~~BitVec.ofInt k.bits n).toNat : Nat)
theorem band (hx : ev ρ x = some (.int k m)) (hy : ev ρ y = some (.int k n)) (hz : bAnd k m n = z) : Yx P (.binOp .and t x y t') ty ρ S (.int k z) := .of (fun _ h => by cases h) fun f w _ _ _ _ he _ =>
  run_binOp (he _ _ hx) (he _ _ hy) eqGuard_int (by simp [binOp, Op.intBits, ← hz, bAnd])
theorem bor (hx : ev ρ x = some (.int k m)) (hy : ev ρ y = some (.int k n)) (hz : bOr k m n = z) : Yx P (.binOp .or t x y t') ty ρ S (.int k z) := .of (fun _ h => by cases h) fun f w _ _ _ _ he _ =>
  run_binOp (he _ _ hx) (he _ _ hy) eqGuard_int (by simp [binOp, Op.intBits, ← hz, bOr])
theorem bxor (hx : ev ρ x = some (.int k m)) (hy : ev ρ y = some (.int k n)) (hz : bXor k m n = z) : Yx P (.binOp .xor t x y t') ty ρ S (.int k z) := .of (fun _ h => by cases h) fun f w _ _ _ _ he _ =>
  run_binOp (he _ _ hx) (he _ _ hy) eqGuard_int (by simp [binOp, Op.intBits, ← hz, bXor])
theorem bandnot (hx : ev ρ x = some (.int k m)) (hy : ev ρ y = some (.int k n)) (hz : bAndNot k m n = z) : Yx P (.binOp .andNot t x y t') ty ρ S (.int k z) := .of (fun _ h => by cases h) fun f w _ _ _ _ he _ =>
  run_binOp (he _ _ hx) (he _ _ hy) eqGuard_int (by simp [binOp, Op.intBits, ← hz, bAndNot])
theorem shl (hx : ev ρ x = some (.int k m)) (hy : ev ρ y = some (.int k' n)) (h0 : 0 ≤ n) (hz : k.wrap (m * 2 ^ (min n.toNat k.bits)) = z) : Yx P (.binOp .shl t x y t') ty ρ S (.int k z) := .of (fun _ h => by cases h) fun f w _ _ _ _ he _ =>
  run_binOp (he _ _ hx) (he _ _ hy) eqGuard_int (by simp only [binOp, Op.shift]; rw [if_neg (by omega)]; simp [hz])
theorem shr (hx : ev ρ x = some (.int k m)) (hy : ev ρ y = some (.int k' n)) (h0 : 0 ≤ n) (hz : m.fdiv (2 ^ (min n.toNat k.bits)) = z) : Yx P (.binOp .shr t x y t') ty ρ S (.int k z) := .of (fun _ h => by cases h) fun f w _ _ _ _ he _ =>
  run_binOp (he _ _ hx) (he _ _ hy) eqGuard_int (by simp only [binOp, Op.shift]; rw [if_neg (by omega)]; simp [hz])

theorem shrK {c : Int} (hx : ev ρ x = some (.int k m)) (hy : ev ρ y = some (.int k' n)) (h0 : 0 ≤ n) (hc : (2 : Int) ^ (min n.toNat k.bits) = c) : Yx P (.binOp .shr t x y t') ty ρ S (.int k (m / c)) :=
  shr hx hy h0 (by rw [← hc]; exact Int.fdiv_eq_ediv_of_nonneg _ (Int.le_of_lt (Int.pow_pos (by decide))))
theorem shlK {c : Int} (hx : ev ρ x = some (.int k m)) (hy : ev ρ y = some (.int k' n)) (h0 : 0 ≤ n) (hc : (2 : Int) ^ (min n.toNat k.bits) = c) (hz : k.wrap (m * c) = z) : Yx P (.binOp .shl t x y t') ty ρ S (.int k z) :=
  shl hx hy h0 (by rw [hc]; exact hz)
theorem lss (hx : ev ρ x = some (.int k m)) (hy : ev ρ y = some (.int k n)) : Yx P (.binOp .lss t x y t') ty ρ S (.bool (decide (m < n))) := .of (fun _ h => by cases h) fun f w _ _ _ _ he _ =>
  run_binOp (he _ _ hx) (he _ _ hy) eqGuard_int (by simp [binOp, Op.intCmp])
theorem leq (hx : ev ρ x = some (.int k m)) (hy : ev ρ y = some (.int k n)) : Yx P (.binOp .leq t x y t') ty ρ S (.bool (decide (m ≤ n))) := .of (fun _ h => by cases h) fun f w _ _ _ _ he _ =>
  run_binOp (he _ _ hx) (he _ _ hy) eqGuard_int (by simp [binOp, Op.intCmp])
theorem gtr (hx : ev ρ x = some (.int k m)) (hy : ev ρ y = some (.int k n)) : Yx P (.binOp .gtr t x y t') ty ρ S (.bool (decide (n < m))) := .of (fun _ h => by cases h) fun f w _ _ _ _ he _ =>
  run_binOp (he _ _ hx) (he _ _ hy) eqGuard_int (by simp [binOp, Op.intCmp])
theorem geq (hx : ev ρ x = some (.int k m)) (hy : ev ρ y = some (.int k n)) : Yx P (.binOp .geq t x y t') ty ρ S (.bool (decide (n ≤ m))) := .of (fun _ h => by cases h) fun f w _ _ _ _ he _ =>
  run_binOp (he _ _ hx) (he _ _ hy) eqGuard_int (by simp [binOp, Op.intCmp])
theorem eqI (hx : ev ρ x = some (.int k m)) (hy : ev ρ y = some (.int k n)) : Yx P (.binOp .eql t x y t') ty ρ S (.bool (decide (m = n))) := .of (fun _ h => by cases h) fun f w _ _ _ _ he _ =>
  run_binOp (he _ _ hx) (he _ _ hy) eqGuard_int (by simp [binOp, Op.intCmp]; rfl)
theorem neI (hx : ev ρ x = some (.int k m)) (hy : ev ρ y = some (.int k n)) : Yx P (.binOp .neq t x y t') ty ρ S (.bool (!decide (m = n))) := .of (fun _ h => by cases h) fun f w _ _ _ _ he _ =>
  run_binOp (he _ _ hx) (he _ _ hy) eqGuard_int (by simp [binOp, Op.intCmp]; rfl)
theorem not' {b : Bool} (hx : ev ρ x = some (.bool b)) : Yx P (.unOp .not t x) ty ρ S (.bool (!b)) := .of (fun _ h => by cases h) fun f w _ _ _ _ he _ => by simp [execOp, he _ _ hx, Op.unary]
theorem neg (hx : ev ρ x = some (.int k m)) (hz : k.wrap (0 - m) = z) : Yx P (.unOp .neg t x) ty ρ S (.int k z) := .of (fun _ h => by cases h) fun f w _ _ _ _ he _ => by
  have : Sem.run P (Op.intArith .sub k 0 m) w = .ok (.int k z) w := by simp only [Op.intArith, hz]; simp
  simp only [execOp, he _ _ hx, Op.unary, Sem.run_bind, this, Result.andThen, Sem.run_pure]
theorem compl (hx : ev ρ x = some (.int k m)) (hz : bXor k (if k.signed then -1 else k.max) m = z) : Yx P (.unOp .xor t x) ty ρ S (.int k z) := .of (fun _ h => by cases h) fun f w _ _ _ _ he _ => by
  simp [execOp, he _ _ hx, Op.unary, Op.intBits, ← hz, bXor]
theorem cvI {s d : TypeId} {ds : TypeDesc} (hx : ev ρ x = some (.int k m)) (hs : P.underlying s = some ds) (hd : P.underlying d = some (.int k')) (hz : k'.wrap m = z) : Yx P (.convert s d x) ty ρ S (.int k' z) := .of (fun _ h => by cases h) fun f w _ _ _ _ he _ => by
  simp [execOp, he _ _ hx, convert, run_underlying hs, run_underlying hd, Conv.intToInt, hz]

/-! texts -/
variable {l l2 : List UInt8}
theorem str_size (l : List UInt8) : (ByteArray.mk l.toArray).size = l.length := rfl
theorem str_inj {a b : List UInt8} (h : ByteArray.mk a.toArray = ByteArray.mk b.toArray) : a = b := by
  have := congrArg (fun s : ByteArray => s.data.toList) h
  simpa using this
/-- The bytes of a text in order: is one ahead of the other? -/
abbrev bless (a b : List UInt8) : Bool := Op.bytesLess a b

theorem lenS (ht : P.underlying t = some .string) (hx : ev ρ x = some (str l)) : Yx P (.call { callee := .builtin .len, args := #[x], argTypes := #[t] }) ty ρ S (i64 l.length) := .of (fun _ h => by cases h) fun f w _ _ _ _ he _ => by
  have h := he _ _ hx
  simp only [execOp, resolve, invoke, builtin, Builtin.len_, Sem.run_bind, Sem.run_pure, Result.andThen, List.map_toArray, List.map_cons, List.map_nil, h]
  simp [run_underlying ht, goInt, str_size]
theorem ixS {i : Operand} {j : Nat} (ht : P.underlying t = some .string) (hx : ev ρ x = some (str l)) (hi : ev ρ i = some (.int k n)) (hj : n.toNat = j) (h0 : 0 ≤ n) (h1 : n < l.length) :
    Yx P (.index t x i) ty ρ S (.int .u8 ((l.getD j 0).toNat : Nat)) := .of (fun _ h => by cases h) fun f w _ _ _ _ he _ => by
  subst hj
  have hlt : n.toNat < l.length := by omega
  have hs : n.toNat < (ByteArray.mk l.toArray).size := hlt
  have e : (ByteArray.mk l.toArray)[n.toNat]? = some (l.getD n.toNat 0) := by
    rw [getElem?_pos (ByteArray.mk l.toArray) n.toNat hs]
    simp only [List.getD, List.getElem?_eq_getElem hlt, Option.getD_some]
    rfl
  simp [execOp, he _ _ hx, he _ _ hi, Instr.index, asIntOf, run_underlying ht, h0, e]
theorem catS (hx : ev ρ x = some (str l)) (hy : ev ρ y = some (str l2)) (hb : l.length + l2.length ≤ 9223372036854775807) : Yx P (.binOp .add t x y t') ty ρ S (str (l ++ l2)) := .of (fun _ h => by cases h) fun f w _ _ _ _ he _ =>
  run_binOp (he _ _ hx) (he _ _ hy) (by simp [eqGuard]) (by
    have := run_string_add_sum (P := P) w ⟨l.toArray⟩ ⟨l2.toArray⟩ (by simpa [str_size] using hb)
    simp only [binOp, this, ByteArray.mk_append_mk])
theorem toList_inj {a b : List UInt8} : ((ByteArray.mk a.toArray).toList == (ByteArray.mk b.toArray).toList) = decide (a = b) := by
  rw [ByteArray.toList_mk, ByteArray.toList_mk]
  by_cases h : a = b
  · simp [h]
  · simp [h]
theorem eqS (hx : ev ρ x = some (str l)) (hy : ev ρ y = some (str l2)) : Yx P (.binOp .eql t x y t') ty ρ S (.bool (decide (l = l2))) := .of (fun _ h => by cases h) fun f w _ _ _ _ he _ =>
  run_binOp (he _ _ hx) (he _ _ hy) (by simp [eqGuard]) (by rw [binOp_string_eql, toList_inj]; simp)
theorem neS (hx : ev ρ x = some (str l)) (hy : ev ρ y = some (str l2)) : Yx P (.binOp .neq t x y t') ty ρ S (.bool (!decide (l = l2))) := .of (fun _ h => by cases h) fun f w _ _ _ _ he _ =>
  run_binOp (he _ _ hx) (he _ _ hy) (by simp [eqGuard]) (by rw [binOp_string_neq, toList_inj]; simp)
theorem lssS (hx : ev ρ x = some (str l)) (hy : ev ρ y = some (str l2)) : Yx P (.binOp .lss t x y t') ty ρ S (.bool (bless l l2)) := .of (fun _ h => by cases h) fun f w _ _ _ _ he _ =>
  run_binOp (he _ _ hx) (he _ _ hy) (by simp [eqGuard]) (by rw [binOp_string_lss, ByteArray.toList_mk, ByteArray.toList_mk]; simp)
theorem bless_or {a b : List UInt8} : (bless a b || decide (a = b)) = !bless b a := by
  unfold bless
  induction a generalizing b with
  | nil => cases b <;> simp [Op.bytesLess]
  | cons x a ih =>
    cases b with
    | nil => simp [Op.bytesLess]
    | cons y b =>
      have h := ih (b := b)
      simp only [Op.bytesLess, List.cons.injEq]
      rcases Nat.lt_trichotomy x.toNat y.toNat with hh | hh | hh
      · have h1 : x < y := UInt8.lt_iff_toNat_lt.2 hh
        have h2 : ¬ y < x := fun q => by have := UInt8.lt_iff_toNat_lt.1 q; omega
        have h3 : ¬ y = x := fun q => by subst q; omega
        simp [h1, h2, h3]
      · have h1 : x = y := UInt8.toNat_inj.1 hh
        subst h1
        simp only [UInt8.lt_irrefl, decide_false, Bool.false_or, beq_self_eq_true, Bool.true_and, true_and]
        simpa using h
      · have h1 : y < x := UInt8.lt_iff_toNat_lt.2 hh
        have h2 : ¬ x < y := fun q => by have := UInt8.lt_iff_toNat_lt.1 q; omega
        have h3 : ¬ x = y := fun q => by subst q; omega
        simp [h1, h2, h3]
theorem geqS (hx : ev ρ x = some (str l)) (hy : ev ρ y = some (str l2)) : Yx P (.binOp .geq t x y t') ty ρ S (.bool (!bless l l2)) := .of (fun _ h => by cases h) fun f w _ _ _ _ he _ =>
  run_binOp (he _ _ hx) (he _ _ hy) (by simp [eqGuard]) (by simp [binOp, Op.stringOp, ByteArray.toList_mk])
theorem leqS (hx : ev ρ x = some (str l)) (hy : ev ρ y = some (str l2)) : Yx P (.binOp .leq t x y t') ty ρ S (.bool (!bless l2 l)) := .of (fun _ h => by cases h) fun f w _ _ _ _ he _ =>
  run_binOp (he _ _ hx) (he _ _ hy) (by simp [eqGuard]) (by simp only [binOp, Op.stringOp]; rw [toList_inj, ByteArray.toList_mk, ByteArray.toList_mk]; have := bless_or (a := l) (b := l2); unfold bless at this; rw [this]; simp)
theorem gtrS (hx : ev ρ x = some (str l)) (hy : ev ρ y = some (str l2)) : Yx P (.binOp .gtr t x y t') ty ρ S (.bool (bless l2 l)) := .of (fun _ h => by cases h) fun f w _ _ _ _ he _ =>
  run_binOp (he _ _ hx) (he _ _ hy) (by simp [eqGuard]) (by simp only [binOp, Op.stringOp]; rw [toList_inj, ByteArray.toList_mk, ByteArray.toList_mk]; have := bless_or (a := l) (b := l2); unfold bless at this; rw [this]; simp)

theorem str_extract (l : List UInt8) (a b : Nat) : (ByteArray.mk l.toArray).extract a b = ⟨((l.take b).drop a).toArray⟩ := by
  apply ByteArray.ext
  simp only [ByteArray.data_extract, List.extract_toArray, List.extract_eq_drop_take']
theorem run_sliceAt_str {w : World} {l : List UInt8} {lo hi : Option Value} {a b : Nat} (ht : P.underlying t = some .string)
    (hb : (Instr.sliceBounds false l.length l.length lo hi none).run P w = .ok (a, b, l.length) w) :
    (Instr.sliceAt t (str l) lo hi none).run P w = .ok (str ((l.take b).drop a)) w := by
  simp only [Instr.sliceAt, Sem.run_bind, run_underlying ht, Result.andThen, Instr.slice, Option.isSome_none, Bool.false_eq_true, if_false, Sem.run_pure, str_size, hb, str_extract]
theorem sl1S {lo : Operand} {j : Nat} (ht : P.underlying t = some .string) (hx : ev ρ x = some (str l)) (hi : ev ρ lo = some (.int k n)) (hj : n.toNat = j) (h0 : 0 ≤ n) (h1 : n ≤ l.length) :
    Yx P (.slice t x (some lo) none none) ty ρ S (str (l.drop j)) := .of (fun _ h => by cases h) fun f w _ _ _ _ he _ => by
  subst hj
  have := run_sliceAt_str (P := P) (t := t) (w := w) (l := l) (lo := some (.int k n)) (hi := none) (a := n.toNat) (b := l.length) ht (by simp [Instr.sliceBounds, Instr.sliceBound, asIntOf, h0, h1])
  simp only [execOp, Option.map_some, Option.map_none, he _ _ hx, he _ _ hi, Sem.run_bind, this, Result.andThen, Sem.run_pure, List.take_length]
theorem sl2S {hi : Operand} {j : Nat} (ht : P.underlying t = some .string) (hx : ev ρ x = some (str l)) (hh : ev ρ hi = some (.int k n)) (hj : n.toNat = j) (h0 : 0 ≤ n) (h1 : n ≤ l.length) :
    Yx P (.slice t x none (some hi) none) ty ρ S (str (l.take j)) := .of (fun _ h => by cases h) fun f w _ _ _ _ he _ => by
  subst hj
  have := run_sliceAt_str (P := P) (t := t) (w := w) (l := l) (lo := none) (hi := some (.int k n)) (a := 0) (b := n.toNat) ht (by simp [Instr.sliceBounds, Instr.sliceBound, asIntOf, h0, h1])
  simp only [execOp, Option.map_some, Option.map_none, he _ _ hx, he _ _ hh, Sem.run_bind, this, Result.andThen, Sem.run_pure, List.drop_zero]
theorem sl3S {lo hi : Operand} {i j : Nat} (ht : P.underlying t = some .string) (hx : ev ρ x = some (str l)) (hl : ev ρ lo = some (.int k m)) (hh : ev ρ hi = some (.int k' n)) (hi' : m.toNat = i) (hj : n.toNat = j) (h0 : 0 ≤ m) (hm : m ≤ n) (h1 : n ≤ l.length) :
    Yx P (.slice t x (some lo) (some hi) none) ty ρ S (str ((l.take j).drop i)) := .of (fun _ h => by cases h) fun f w _ _ _ _ he _ => by
  subst hi'; subst hj
  have h2 : 0 ≤ n := by omega
  have h3 : m ≤ (n.toNat : Int) := by omega
  have := run_sliceAt_str (P := P) (t := t) (w := w) (l := l) (lo := some (.int k m)) (hi := some (.int k' n)) (a := m.toNat) (b := n.toNat) ht (by simp [Instr.sliceBounds, Instr.sliceBound, asIntOf, h0, h1, h2]; omega)
  simp only [execOp, Option.map_some, Option.map_none, he _ _ hx, he _ _ hl, he _ _ hh, Sem.run_bind, this, Result.andThen, Sem.run_pure]
theorem sl0S (ht : P.underlying t = some .string) (hx : ev ρ x = some (str l)) : Yx P (.slice t x none none none) ty ρ S (str l) := .of (fun _ h => by cases h) fun f w _ _ _ _ he _ => by
  have := run_sliceAt_str (P := P) (t := t) (w := w) (l := l) (lo := none) (hi := none) (a := 0) (b := l.length) ht (by simp [Instr.sliceBounds])
  simp only [execOp, Option.map_none, he _ _ hx, Sem.run_bind, this, Result.andThen, Sem.run_pure, List.drop_zero, List.take_length]

/-! functions, pointers, structs -/
theorem mkf {fn : Fn} {first caps : Array Operand} {fs cs : List Value} (h1 : evl ρ first.toList = some fs) (h2 : evl ρ caps.toList = some cs) : Yx P (.makeFunc fn first caps) ty ρ S (.func fn fs.toArray cs.toArray) := .of (fun _ h => by cases h) fun f w _ _ _ _ he _ => by
  have e1 : first.map f = fs.toArray := Array.toList_inj.1 (by simpa using he.map h1)
  have e2 : caps.map f = cs.toArray := Array.toList_inj.1 (by simpa using he.map h2)
  simp [execOp, Instr.makeFunc, e1, e2]
theorem mki {i : TypeDesc} (ht : P.underlying t = some i) (hn : (match i with | .interface _ => false | _ => true) = true) (hx : ev ρ x = some v) : Yx P (.makeInterface t x) ty ρ S (.iface t v) := .of (fun _ h => by cases h) fun f w _ _ _ _ he _ => by
  simp only [execOp, Instr.makeInterface, Sem.run_bind, run_underlying ht, Result.andThen, he _ _ hx]
  cases i <;> simp_all
theorem eqNilP {a : Option Addr} (ht : P.underlying t = some (.pointer (P.pointee t))) (hx : ev ρ x = some (.pointer a)) (hy : ev ρ y = some (.pointer none)) : Yx P (.binOp .eql t x y t') ty ρ S (.bool a.isNone) := .of (fun _ h => by cases h) fun f w _ _ _ _ he _ =>
  run_binOp (he _ _ hx) (he _ _ hy) (by simp [eqGuard]) (run_eql_pointer_nil w t a ht)
theorem neNilP {a : Option Addr} (ht : P.underlying t = some (.pointer (P.pointee t))) (hx : ev ρ x = some (.pointer a)) (hy : ev ρ y = some (.pointer none)) : Yx P (.binOp .neq t x y t') ty ρ S (.bool (!a.isNone)) := .of (fun _ h => by cases h) fun f w _ _ _ _ he _ =>
  run_binOp (he _ _ hx) (he _ _ hy) (by simp [eqGuard]) (run_neq_pointer_nil w t a ht)
theorem eqB {a b : Bool} (ht : P.underlying t = some .bool) (hx : ev ρ x = some (.bool a)) (hy : ev ρ y = some (.bool b)) : Yx P (.binOp .eql t x y t') ty ρ S (.bool (a == b)) := .of (fun _ h => by cases h) fun f w _ _ _ _ he _ =>
  run_binOp (he _ _ hx) (he _ _ hy) (by simp [eqGuard]) (run_eql_bool w t a b ht)
theorem neB {a b : Bool} (ht : P.underlying t = some .bool) (hx : ev ρ x = some (.bool a)) (hy : ev ρ y = some (.bool b)) : Yx P (.binOp .neq t x y t') ty ρ S (.bool (!(a == b))) := .of (fun _ h => by cases h) fun f w _ _ _ _ he _ =>
  run_binOp (he _ _ hx) (he _ _ hy) (by simp [eqGuard]) (run_neq_bool w t a b ht)

/-- Field number i of a struct type lies at off, and is of so many cells. -/
def FO (P : Program) (t : TypeId) (i off size : Nat) (agg : Bool) : Prop :=
  ∃ fs fd j, P.underlying t = some (.struct fs) ∧ fs[i]? = some fd ∧ fd.offset = off ∧ P.info? fd.type = some j ∧ j.size = size ∧ 0 < size ∧ (isAgg fd.type).run P = fun w => .ok agg w
theorem fa {i off size : Nat} {g : Bool} {a : Addr} (hF : FO P t i off size g) (hx : ev ρ x = some (.pointer (some a))) : Yx P (.fieldAddr t x i) ty ρ S (.pointer (some (a.add off))) := .of (fun _ h => by cases h) fun f w _ _ _ _ he _ => by
  obtain ⟨fs, fd, j, h1, h2, h3, h4, h5, h6, h7⟩ := hF
  have hs : ¬ j.size = 0 := by omega
  simp [execOp, he _ _ hx, Instr.fieldAt, run_underlying h1, h2, Instr.sureAddr, fieldPlace, sizeOf, typeInfo, h4, hs, h3]
theorem fld1 {i off : Nat} {cs : List Value} (hF : FO P t i off 1 false) (hx : ev ρ x = some (.agg cs.toArray)) (hv : cs[off]? = some v) : Yx P (.field t x i) ty ρ S v := .of (fun _ h => by cases h) fun f w _ _ _ _ he _ => by
  obtain ⟨fs, fd, j, h1, h2, h3, h4, h5, h6, h7⟩ := hF
  have h8 : Sem.run P (isAgg fd.type) w = .ok false w := by rw [h7]
  subst h3
  have h9 : cs.toArray[fd.offset]? = some v := by simpa using hv
  simp only [execOp, he _ _ hx, Instr.field, Sem.run_bind, run_underlying h1, Result.andThen, h2, asAgg, Sem.run_pure, part, h8, Bool.false_eq_true, if_false, h9]
theorem fldA {i off size : Nat} {cs : List Value} (hF : FO P t i off size true) (hx : ev ρ x = some (.agg cs.toArray)) : Yx P (.field t x i) ty ρ S (.agg ((cs.drop off).take size).toArray) := .of (fun _ h => by cases h) fun f w _ _ _ _ he _ => by
  obtain ⟨fs, fd, j, h1, h2, h3, h4, h5, h6, h7⟩ := hF
  have h8 : Sem.run P (isAgg fd.type) w = .ok true w := by rw [h7]
  have h9 : Array.extract cs.toArray off (off + size) = ((cs.drop off).take size).toArray := by
    apply Array.toList_inj.1; simp [List.drop_take]
  simp [execOp, he _ _ hx, Instr.field, run_underlying h1, h2, asAgg, part, h8, sizeOf, typeInfo, h4, h5, h3, h9]
end
end Go.SL

/-
  The rules of the operations that read, write and make memory, over the states of the small separation logic.
-/
namespace Go.SL
open Go.RowKit
set_option linter.unusedSimpArgs false
set_option linter.unusedVariables false

/-- Is a type's value made of parts? -/
def aggB : TypeDesc → Bool
  | .struct _ | .array _ _ => true
  | _ => false
theorem run_isAgg {P : Program} {t : TypeId} {d : TypeDesc} (h : P.underlying t = some d) (w : World) : (isAgg t).run P w = .ok (aggB d) w := by
  simp only [isAgg, Sem.run_bind, run_underlying h, Result.andThen]
  cases d <;> rfl

/-- A type's zero value (its cells), size and bytes. -/
def TI (P : Program) (t : TypeId) (z : List Value) (size bytes : Nat) : Prop :=
  ∃ i v, P.info? t = some i ∧ i.zero = some v ∧ v.cells = z.toArray ∧ i.size = size ∧ i.bytes = bytes ∧ z.length = size ∧ 0 < size
theorem TI.of {P : Program} {t : TypeId} {z : List Value} {size bytes : Nat} (h : (P.info? t).map (fun i => (i.zero.map (·.cells), i.size, i.bytes)) = some (some z.toArray, size, bytes)) (h2 : Nat.beq z.length size = true) (h3 : Nat.blt 0 size = true) : TI P t z size bytes := by
  cases hq : P.info? t with
  | none => simp [hq] at h
  | some i =>
    simp [hq] at h
    obtain ⟨⟨v, h1, h1'⟩, h4, h5⟩ := h
    exact ⟨i, v, hq, h1, h1', h4, h5, Nat.eq_of_beq_eq_true h2, by simpa [Nat.blt_eq] using h3⟩

theorem FO.of {P : Program} {t i off size : Nat} {g : Bool} {fs : Array Field} {fd : Field} {d : TypeDesc} (h1 : P.underlying t = some (.struct fs)) (h2 : fs[i]? = some fd) (h3 : fd.offset = off)
    (h4 : (P.info? fd.type).map (·.size) = some size) (h5 : P.underlying fd.type = some d) (h6 : aggB d = g) (h7 : Nat.blt 0 size = true) : FO P t i off size g := by
  cases hq : P.info? fd.type with
  | none => simp [hq] at h4
  | some j =>
    simp [hq] at h4
    exact ⟨fs, fd, j, h1, h2, h3, hq, h4, by simpa [Nat.blt_eq] using h7, funext fun w => by rw [run_isAgg h5, h6]⟩

theorem add_mk (b o n : Nat) : (⟨b, o, none⟩ : Addr).add n = ⟨b, o + n, none⟩ := by unfold Addr.add; split <;> simp_all

/-- The cells of a state, from a place on. -/
def Cells (N0 : Nat) (B : Frag) (H : HP) (b o : Nat) (vs : List Value) : Prop := ∀ w, St N0 B H w → ∀ j v, vs[j]? = some v → w.cell? ⟨b, o + j, none⟩ = some v

theorem cell_of_heap {w : World} {b o : Nat} {cs : List Value} {e : TypeId} {fz : Nat × Nat} {v : Value} (h : w.heap[b]? = some (.cells cs.toArray e fz)) (hv : cs[o]? = some v) : w.cell? ⟨b, o, none⟩ = some v := by
  simp [World.cell?, h, hv]

theorem Cells.own {N0 : Nat} {B : Frag} {H R : HP} {b o n : Nat} {cs vs : List Value} {e : TypeId} {fz : Nat × Nat} (hp : H = blk b (.cells cs.toArray e fz) * R) (hv : (cs.drop o).take n = vs) : Cells N0 B H b o vs := by
  intro w s j v hj
  subst hp hv
  refine cell_of_heap s.blk.1 ?_
  simp only [List.getElem?_take, List.getElem?_drop] at hj
  split at hj
  · exact hj
  · cases hj
theorem Cells.base {N0 : Nat} {B : Frag} {H : HP} {b o n : Nat} {cs vs : List Value} {e : TypeId} {fz : Nat × Nat} (hB : B b = some (.cells cs.toArray e fz)) (hv : (cs.drop o).take n = vs) : Cells N0 B H b o vs := by
  intro w s j v hj
  subst hv
  refine cell_of_heap (s.ro b _ hB) ?_
  simp only [List.getElem?_take, List.getElem?_drop] at hj
  split at hj
  · exact hj
  · cases hj

section
variable {P : Program} {ρ : Sl} {ty t t' : TypeId} {x y : Operand} {v u : Value} {N0 : Nat} {B : Frag} {H R : HP} {b o : Nat} {k k' : IntKind} {m n z : Int}

theorem fa' {i off size : Nat} {g : Bool} {S : World → Prop} (hF : FO P t i off size g) (hx : ev ρ x = some (.pointer (some ⟨b, o, none⟩))) : Yx P (.fieldAddr t x i) ty ρ S (.pointer (some ⟨b, o + off, none⟩)) := by
  rw [← add_mk]; exact fa hF hx

theorem ldW {S : World → Prop} {d : TypeDesc} (ht : P.underlying t = some d) (hd : aggB d = false) (hx : ev ρ x = some (.pointer (some ⟨b, o, none⟩))) (hc : ∀ w, S w → w.cell? ⟨b, o, none⟩ = some v) : Yx P (.load t x) ty ρ S v :=
  .of (fun _ h => by cases h) fun f w _ _ _ _ he s => by
    have h := run_isAgg (P := P) ht w
    rw [hd] at h
    simp [execOp, he _ _ hx, Instr.loadAt, Instr.sureAddr, loadVar, h, hc w s]
/-- A load of one cell out of a block of one's own. -/
theorem ld {d : TypeDesc} {cs : List Value} {e : TypeId} {fz : Nat × Nat} (ht : P.underlying t = some d) (hd : aggB d = false) (hx : ev ρ x = some (.pointer (some ⟨b, o, none⟩))) [hp : PickB H b (.cells cs.toArray e fz) R] (hv : cs[o]? = some v) :
    Yx P (.load t x) ty ρ (St N0 B H) v := ldW ht hd hx fun w s => cell_of_heap (hp.eq ▸ s : St N0 B _ w).blk.1 hv
/-- A load of one cell out of what is only read. -/
theorem ldB {d : TypeDesc} {cs : List Value} {e : TypeId} {fz : Nat × Nat} (ht : P.underlying t = some d) (hd : aggB d = false) (hx : ev ρ x = some (.pointer (some ⟨b, o, none⟩))) (hB : B b = some (.cells cs.toArray e fz)) (hv : cs[o]? = some v) :
    Yx P (.load t x) ty ρ (St N0 B H) v := ldW ht hd hx fun w s => cell_of_heap (s.ro b _ hB) hv
theorem ldC {d : TypeDesc} (ht : P.underlying t = some d) (hd : aggB d = false) (hx : ev ρ x = some (.pointer (some ⟨b, o, none⟩))) (hc : Cells N0 B H b o [v]) :
    Yx P (.load t x) ty ρ (St N0 B H) v := ldW ht hd hx fun w s => hc w s 0 v rfl
/-- A load of a value of many cells. -/
theorem ldA {d : TypeDesc} {vs : List Value} {size : Nat} (ht : P.underlying t = some d) (hd : aggB d = true) (hi : (P.info? t).map (·.size) = some size) (hx : ev ρ x = some (.pointer (some ⟨b, o, none⟩))) (hc : Cells N0 B H b o vs) (hl : vs.length = size) :
    Yx P (.load t x) ty ρ (St N0 B H) (.agg vs.toArray) := .of (fun _ h => by cases h) fun f w _ _ _ _ he s => by
  have h := run_isAgg (P := P) ht w
  rw [hd] at h
  have hcs := run_loadCells_list (P := P) w ⟨b, o, none⟩ vs (fun j v hj => by rw [add_mk]; exact hc w s j v hj)
  rw [hl] at hcs
  cases hq : P.info? t with
  | none => simp [hq] at hi
  | some i =>
    have hi' : i.size = size := by simpa [hq] using hi
    simp [execOp, he _ _ hx, Instr.loadAt, Instr.sureAddr, loadVar, h, sizeOf, typeInfo, hq, hi', hcs]

theorem heap_setRow_ne (w : World) (g : Nat) (cs : Array Value) (j : Nat) (h : j ≠ g) : (w.setRow g cs).heap[j]? = w.heap[j]? := by
  simp only [World.setRow, Array.getElem?_modify]
  rw [if_neg (by omega)]
theorem below_setRow {N0 : Nat} {w : World} {g : Nat} (h : N0 ≤ g) (cs : Array Value) : Below N0 w (w.setRow g cs) :=
  ⟨rfl, rfl, rfl, by simp [World.setRow], fun j hj => heap_setRow_ne _ _ _ _ (by omega)⟩
theorem St.setRow {cs : Array Value} {e : TypeId} {fz : Nat × Nat} {w : World} (h : St N0 B (SL.blk b (.cells cs e fz) * R) w) (cs' : Array Value) :
    St N0 B (SL.blk b (.cells cs' e fz) * R) (w.setRow b cs') ∧ Below N0 w (w.setRow b cs') :=
  ⟨h.put (setRow_heap _ _ _ _ _ _ h.blk.1) (fun j hj => heap_setRow_ne _ _ _ _ hj) (by simp [World.setRow]), below_setRow h.blk.2.2 _⟩

variable {e : Env} {ds : List Deferred}
/-- An operation that hands back a value and leaves a world. -/
theorem Ox.of_run {op : Op} {Φ : Value → Frag → HP → Prop} (hd : ∀ c, op ≠ .defer c)
    (h : ∀ (f : Operand → Value) (w : World) (dst : Option Tmp) (pos : String) (after : Array Edge) (guard : Option (Nat × Bool)), Ev ρ f → St e.N0 B H w →
      ∃ v w' B' H', (execOp f ⟨dst, op, ty, pos, after, guard⟩).run e.P w = .ok (.value v) w' ∧ Φ v B' H' ∧ B.le B' ∧ Below e.N0 w w' ∧ St e.N0 B' H' w') : Ox e ds op ty ρ B H Φ :=
  ⟨hd, fun a w dst pos after guard K Q f b s k => by
    obtain ⟨v, w', B', H', hr, hΦ, hB, hb, hs⟩ := h a.eval w dst pos after guard f.ev s
    rw [hr]
    exact k v B' H' w' hΦ hB (b.trans hb) hs⟩
theorem Ox.of_skip {op : Op} {Φ : Value → Frag → HP → Prop} (hd : ∀ c, op ≠ .defer c)
    (h : ∀ (f : Operand → Value) (w : World) (dst : Option Tmp) (pos : String) (after : Array Edge) (guard : Option (Nat × Bool)), Ev ρ f → St e.N0 B H w →
      ∃ w' B' H', (execOp f ⟨dst, op, ty, pos, after, guard⟩).run e.P w = .ok .skip w' ∧ Φ undef B' H' ∧ B.le B' ∧ Below e.N0 w w' ∧ St e.N0 B' H' w') : Ox e ds op ty ρ B H Φ :=
  ⟨hd, fun a w dst pos after guard K Q f b s k => by
    obtain ⟨w', B', H', hr, hΦ, hB, hb, hs⟩ := h a.eval w dst pos after guard f.ev s
    rw [hr]
    exact k undef B' H' w' hΦ hB (b.trans hb) hs⟩

/-- A store of one cell. -/
theorem stO {d : TypeDesc} {cs cs' : List Value} {et : TypeId} (ht : e.P.underlying t = some d) (hi : (e.P.info? t).map (·.size) = some 1) (hx : ev ρ x = some (.pointer (some ⟨b, o, none⟩))) (hy : ev ρ y = some v) (h1 : v.oneCell' = true)
    [hp : PickB H b (.cells cs.toArray et (0, 0)) R] (ho : o < cs.length) (hn : frc (cs.set o v) some = some cs') : Ox e ds (.store t x y) ty ρ B H (fun _ B' H' => B' = B ∧ H' = row b et cs' * R) :=
  .of_skip (fun _ h => by cases h) fun f w _ _ _ _ he s => by
    rw [← frc_eq hn]
    have s' : St e.N0 B (blk b (.cells cs.toArray et (0, 0)) * R) w := hp.eq ▸ s
    have hh := s'.blk.1
    have hv1 : v.cells = #[v] := by cases v <;> simp_all [Value.cells, Value.oneCell']
    have hst := run_storeCells_at (P := e.P) b o et [v] 0 cs.toArray w hh (by simp; omega) (by simpa using h1)
    have hl : (cs.take (o + 0) ++ [v] ++ cs.drop (o + 0 + 1)) = cs.set o v := by
      simp only [Nat.add_zero]
      rw [List.set_eq_take_append_cons_drop, if_pos ho]; simp
    simp only [List.toList_toArray, List.length_cons, List.length_nil, Nat.zero_add] at hst
    rw [hl] at hst
    cases hq : e.P.info? t with
    | none => simp [hq] at hi
    | some i =>
      have hi' : i.size = 1 := by simpa [hq] using hi
      refine ⟨_, B, _, ?_, ⟨rfl, rfl⟩, Frag.le_refl _, (s'.setRow (cs.set o v).toArray).2, (s'.setRow (cs.set o v).toArray).1⟩
      simp [execOp, he _ _ hx, he _ _ hy, Instr.storeAt, Instr.sureAddr, storeVar, sizeOf, typeInfo, hq, hi', hv1, hst]
/-- A store of many cells. -/
theorem stA {d : TypeDesc} {cs vs cs' : List Value} {et : TypeId} {size : Nat} (hi : (e.P.info? t).map (·.size) = some size) (hx : ev ρ x = some (.pointer (some ⟨b, o, none⟩))) (hy : ev ρ y = some (.agg vs.toArray)) (hl : vs.length = size) (h1 : vs.all (·.oneCell') = true)
    [hp : PickB H b (.cells cs.toArray et (0, 0)) R] (ho : o + vs.length ≤ cs.length) (hn : frc (cs.take o ++ vs ++ cs.drop (o + vs.length)) some = some cs') : Ox e ds (.store t x y) ty ρ B H (fun _ B' H' => B' = B ∧ H' = row b et cs' * R) :=
  .of_skip (fun _ h => by cases h) fun f w _ _ _ _ he s => by
    rw [← frc_eq hn]
    have s' : St e.N0 B (blk b (.cells cs.toArray et (0, 0)) * R) w := hp.eq ▸ s
    have hh := s'.blk.1
    have hst := run_storeCells_at (P := e.P) b o et vs 0 cs.toArray w hh (by simpa using ho) (by simpa using h1)
    simp only [List.toList_toArray, Nat.add_zero] at hst
    cases hq : e.P.info? t with
    | none => simp [hq] at hi
    | some i =>
      have hi' : i.size = size := by simpa [hq] using hi
      refine ⟨_, B, _, ?_, ⟨rfl, rfl⟩, Frag.le_refl _, (s'.setRow (cs.take o ++ vs ++ cs.drop (o + vs.length)).toArray).2, (s'.setRow _).1⟩
      simp only [execOp, he _ _ hx, he _ _ hy, Instr.storeAt, Instr.sureAddr, storeVar, sizeOf, typeInfo, Sem.run_bind, Result.andThen, Sem.run_pure, Value.cells, List.size_toArray, run_program, hq, hi', hl, ne_eq, not_true_eq_false, if_false, hst]

/-- A new block. -/
theorem newO {op : Op} {et : TypeId} {cs : List Value} (hd : ∀ c, op ≠ .defer c)
    (h : ∀ (f : Operand → Value) (w : World) (dst : Option Tmp) (pos : String) (after : Array Edge) (guard : Option (Nat × Bool)), Ev ρ f → St e.N0 B H w → (execOp f ⟨dst, op, ty, pos, after, guard⟩).run e.P w = .ok (.value (.pointer (some ⟨w.heap.size, 0, none⟩))) (w.alloc (.cells cs.toArray et (0, 0)))) :
    Ox e ds op ty ρ B H (fun v B' H' => ∃ b, v = .pointer (some ⟨b, 0, none⟩) ∧ B' = B ∧ H' = row b et cs * H) :=
  .of_run hd fun f w dst pos after guard he s => ⟨_, _, B, _, h f w dst pos after guard he s, ⟨_, rfl, rfl, rfl⟩, Frag.le_refl _, (Below.refl _ _).alloc s.sz _, s.alloc _⟩
theorem allocO {zs : List Value} {size bytes : Nat} (hz : TI e.P t zs size bytes) : Ox e ds (.alloc t) ty ρ B H (fun v B' H' => ∃ b, v = .pointer (some ⟨b, 0, none⟩) ∧ B' = B ∧ H' = row b t zs * H) :=
  newO (fun _ h => by cases h) fun f w _ _ _ _ he s => by
    obtain ⟨i, z, h1, h2, h3, h4, h5, h6, h7⟩ := hz
    simp [execOp, Instr.alloc, zeroValue, typeInfo, h1, h2, newVar, newRow, h3]
theorem boxO (hx : ev ρ x = some v) (h1 : v.oneCell' = true) : Ox e ds (.box t x) ty ρ B H (fun u B' H' => ∃ b, u = .pointer (some ⟨b, 0, none⟩) ∧ B' = B ∧ H' = row b t [v] * H) :=
  newO (fun _ h => by cases h) fun f w _ _ _ _ he s => by
    have hv1 : v.cells = #[v] := by cases v <;> simp_all [Value.cells, Value.oneCell']
    simp [execOp, Instr.box, newVar, newRow, he _ _ hx, hv1]
theorem boxA {vs : List Value} (hx : ev ρ x = some (.agg vs.toArray)) : Ox e ds (.box t x) ty ρ B H (fun u B' H' => ∃ b, u = .pointer (some ⟨b, 0, none⟩) ∧ B' = B ∧ H' = row b t vs * H) :=
  newO (fun _ h => by cases h) fun f w _ _ _ _ he s => by simp [execOp, Instr.box, newVar, newRow, he _ _ hx, Value.cells]

variable {ops : Array Oper} {rest : List Oper} {Q : Exit → Act → World → Prop}
theorem Lx.new {op : Op} {et : TypeId} {cs : List Value} {pos : String} {af : Array Edge} {d : Nat} (h : Ox e ds op ty ρ B H (fun v B' H' => ∃ b, v = .pointer (some ⟨b, 0, none⟩) ∧ B' = B ∧ H' = row b et cs * H)) (hd : Nat.blt d e.nt = true)
    (k : ∀ b, Lx e ds ops Q rest ((d, .pointer (some ⟨b, 0, none⟩)) :: ρ) B (row b et cs * H)) : Lx e ds ops Q (⟨some d, op, ty, pos, af, none⟩ :: rest) ρ B H :=
  Lx.o h hd fun v B' H' ⟨b, e1, e2, e3⟩ _ => by subst e1; subst e2; subst e3; exact k b
theorem Lx.st {op : Op} {pos : String} {af : Array Edge} {H2 : HP} (h : Ox e ds op ty ρ B H (fun _ B' H' => B' = B ∧ H' = H2)) (k : Lx e ds ops Q rest ρ B H2) : Lx e ds ops Q (⟨none, op, ty, pos, af, none⟩ :: rest) ρ B H :=
  Lx.o0 h fun v B' H' ⟨e1, e2⟩ _ => by subst e1; subst e2; exact k
end
end Go.SL

/-
  Slices: a slice that owns its row (nil too), append, slicing, indexing, copy, and bytes to texts and back.
-/
namespace Go.SL
open Go.RowKit
set_option linter.unusedSimpArgs false
set_option linter.unusedVariables false

/-- The slice (A, n, c) of elements of size cells has the cells xs and owns its whole row; nil: it has none. -/
def sbuf (et : TypeId) (size : Nat) (A : Option Addr) (n c : Nat) (xs : List Value) : HP := fun h =>
  (A = none ∧ n = 0 ∧ c = 0 ∧ xs = [] ∧ h = Frag.none) ∨
  ∃ b sp, A = some ⟨b, 0, none⟩ ∧ xs.length = n * size ∧ n ≤ c ∧ (xs ++ sp).length = c * size ∧ h = Frag.one b (.cells (xs ++ sp).toArray et (0, 0))

theorem sbuf_nil (et : TypeId) (size : Nat) : sbuf et size none 0 0 [] = 1 := HP.ext fun h =>
  ⟨fun x => (by rcases x with ⟨_, _, _, _, e⟩ | ⟨b, sp, e, _⟩; exact e; cases e), fun x => Or.inl ⟨rfl, rfl, rfl, rfl, x⟩⟩
theorem sbuf_one {et : TypeId} {size b n c : Nat} {xs sp : List Value} (h1 : xs.length = n * size) (h2 : n ≤ c) (h3 : (xs ++ sp).length = c * size) : ∀ k, row b et (xs ++ sp) k → sbuf et size (some ⟨b, 0, none⟩) n c xs k :=
  fun k hk => .inr ⟨b, sp, rfl, h1, h2, h3, hk⟩

/-- What a slice is made of: in whatever state with p in it, its cells are xs. -/
def Src' (B : Frag) (p : HP) (size : Nat) (A : Option Addr) (n : Nat) (xs : List Value) : Prop :=
  xs.length = n * size ∧ ((A = none ∧ n = 0) ∨ ∃ b o, A = some ⟨b, o, none⟩ ∧ ∀ N0 R w, St N0 B (p * R) w → ∀ j v, xs[j]? = some v → w.cell? ⟨b, o + j, none⟩ = some v)

theorem St.cases_sbuf {N0 : Nat} {B : Frag} {et : TypeId} {size n c : Nat} {A : Option Addr} {xs : List Value} {R : HP} {w : World} (s : St N0 B (sbuf et size A n c xs * R) w) :
    (A = none ∧ n = 0 ∧ c = 0 ∧ xs = [] ∧ St N0 B R w) ∨ ∃ b sp, A = some ⟨b, 0, none⟩ ∧ xs.length = n * size ∧ n ≤ c ∧ (xs ++ sp).length = c * size ∧ St N0 B (row b et (xs ++ sp) * R) w := by
  obtain ⟨ro, sz, k, hk, a, d, dj, e, x, y⟩ := s
  rcases x with ⟨e1, e2, e3, e4, e5⟩ | ⟨b, sp, e1, e2, e3, e4, e5⟩
  · left
    subst e5
    exact ⟨e1, e2, e3, e4, ro, sz, d, fun b o hb => hk b o (by rw [e]; simp [Frag.un, Frag.none, hb]), y⟩
  · exact .inr ⟨b, sp, e1, e2, e3, e4, ro, sz, k, hk, a, d, dj, e, e5, y⟩
theorem St.of_sbuf_nil {N0 : Nat} {B : Frag} {et : TypeId} {size : Nat} {R : HP} {w : World} (s : St N0 B R w) : St N0 B (sbuf et size none 0 0 [] * R) w := by
  rw [sbuf_nil, one_star]; exact s
theorem St.of_sbuf {N0 : Nat} {B : Frag} {et : TypeId} {size b n c : Nat} {xs sp : List Value} {R : HP} {w : World} (h1 : xs.length = n * size) (h2 : n ≤ c) (h3 : (xs ++ sp).length = c * size) (s : St N0 B (row b et (xs ++ sp) * R) w) :
    St N0 B (sbuf et size (some ⟨b, 0, none⟩) n c xs * R) w := s.imp (star_mono (sbuf_one h1 h2 h3) fun _ h => h)

/-- The facts of a buffer: for numbers. -/
theorem Xx.sbuf_facts {e : Env} {ds : List Deferred} {K : Act → World → Prop} {ρ : Sl} {B : Frag} {et : TypeId} {size n c : Nat} {A : Option Addr} {xs : List Value} {R : HP}
    (h : xs.length = n * size → n ≤ c → Xx e ds K ρ B (sbuf et size A n c xs * R)) : Xx e ds K ρ B (sbuf et size A n c xs * R) := fun a w f b s => by
  rcases s.cases_sbuf with ⟨_, e2, e3, e4, _⟩ | ⟨_, _, _, e2, e3, _⟩
  · exact h (by simp [e2, e4]) (by omega) a w f b s
  · exact h e2 e3 a w f b s

/-- A buffer becomes what is only read. -/
def RoS (B : Frag) (size : Nat) (A : Option Addr) (n : Nat) (xs : List Value) : Prop :=
  xs.length = n * size ∧ ((A = none ∧ n = 0) ∨ ∃ b o cs et fz, A = some ⟨b, o, none⟩ ∧ B b = some (.cells (List.toArray cs) et fz) ∧ (cs.drop o).take (n * size) = xs)
theorem RoS.mono {B B' : Frag} {size n : Nat} {A : Option Addr} {xs : List Value} (h : RoS B size A n xs) (hB : B.le B') : RoS B' size A n xs := by
  obtain ⟨h1, h2 | ⟨b, o, cs, et, fz, h3, h4, h5⟩⟩ := h
  · exact ⟨h1, .inl h2⟩
  · exact ⟨h1, .inr ⟨b, o, cs, et, fz, h3, hB _ _ h4, h5⟩⟩
theorem RoS.nil (B : Frag) (size : Nat) : RoS B size none 0 [] := ⟨by simp, .inl ⟨rfl, rfl⟩⟩
theorem RoS.src {B : Frag} {size n : Nat} {A : Option Addr} {xs : List Value} (h : RoS B size A n xs) (p : HP) : Src' B p size A n xs := by
  obtain ⟨h1, h2 | ⟨b, o, cs, et, fz, h3, h4, h5⟩⟩ := h
  · exact ⟨h1, .inl h2⟩
  · refine ⟨h1, .inr ⟨b, o, h3, fun N0 R w s j v hj => ?_⟩⟩
    refine cell_of_heap (s.ro b _ h4) ?_
    subst h5
    simp only [List.getElem?_take, List.getElem?_drop] at hj
    split at hj
    · exact hj
    · cases hj
theorem Xx.freezeS {e : Env} {ds : List Deferred} {K : Act → World → Prop} {ρ : Sl} {B : Frag} {et : TypeId} {size n c : Nat} {A : Option Addr} {xs : List Value} {R : HP}
    (h : ∀ B', B.le B' → RoS B' size A n xs → n ≤ c → Xx e ds K ρ B' R) : Xx e ds K ρ B (sbuf et size A n c xs * R) := fun a w f b s => by
  rcases s.cases_sbuf with ⟨e1, e2, e3, e4, s'⟩ | ⟨bb, sp, e1, e2, e3, e4, s'⟩
  · subst e1; subst e2; subst e4; subst e3
    exact h B (Frag.le_refl _) (RoS.nil _ _) (Nat.le_refl _) a w f b s'
  · refine h _ s'.freeze.2 ⟨e2, .inr ⟨bb, 0, xs ++ sp, et, (0, 0), e1, ?_, ?_⟩⟩ e3 a w f b s'.freeze.1
    · have := s'.blk.2.1
      simp [Frag.un, Frag.one, this]
    · simp [← e2]
/-- The cells of a row of one's own, as a source. -/
theorem Src'.row {B : Frag} {size n b o : Nat} {et : TypeId} {cs xs : List Value} {fz : Nat × Nat} (hl : xs.length = n * size) (hx : (cs.drop o).take (n * size) = xs) : Src' B (blk b (.cells cs.toArray et fz)) size (some ⟨b, o, none⟩) n xs := by
  refine ⟨hl, .inr ⟨b, o, rfl, fun N0 R w s j v hj => cell_of_heap s.blk.1 ?_⟩⟩
  subst hx
  simp only [List.getElem?_take, List.getElem?_drop] at hj
  split at hj
  · exact hj
  · cases hj
theorem Src'.sbuf {B : Frag} {size n c : Nat} {A : Option Addr} {et : TypeId} {xs : List Value} (h : A = none ∧ n = 0 ∧ xs = [] ∨ ∃ b, A = some ⟨b, 0, none⟩ ∧ xs.length = n * size) : Src' B (sbuf et size A n c xs) size A n xs := by
  rcases h with ⟨h1, h2, h3⟩ | ⟨b, h1, h2⟩
  · subst h1; subst h2; subst h3; exact ⟨by simp, .inl ⟨rfl, rfl⟩⟩
  · refine ⟨h2, .inr ⟨b, 0, h1, fun N0 R w s j v hj => ?_⟩⟩
    subst h1
    rcases s.cases_sbuf with ⟨e1, _⟩ | ⟨bb, sp, e1, e2, e3, e4, s'⟩
    · cases e1
    · injection e1 with e1; injection e1 with e1; subst e1
      refine cell_of_heap s'.blk.1 ?_
      rw [Nat.zero_add, List.getElem?_append_left (List.getElem?_eq_some_iff.1 hj).1]
      exact hj
theorem Src'.frame {B : Frag} {p q : HP} {size n : Nat} {A : Option Addr} {xs : List Value} (h : Src' B p size A n xs) : Src' B (p * q) size A n xs := by
  obtain ⟨h1, h2 | ⟨b, o, h3, h4⟩⟩ := h
  · exact ⟨h1, .inl h2⟩
  · exact ⟨h1, .inr ⟨b, o, h3, fun N0 R w s => h4 N0 (q * R) w (by rw [← star_assoc]; exact s)⟩⟩

section
variable {ρ : Sl} {ty t tx : TypeId} {x y : Operand} {v u : Value} {B : Frag} {H R : HP} {k k' : IntKind} {m n z : Int} {e : Env} {ds : List Deferred}

theorem pure1 {N0 : Nat} {w : World} {q : HP} (s : St N0 B (q * R) w) : St N0 B (q * R) w := s

/-- append onto a buffer of one's own, out of a source that may lie in the buffer's own row no more than read. -/
theorem appO {et : TypeId} {size bytes nl c nx cx : Nat} {zs xs news : List Value} {A Ax : Option Addr} {p : HP} {tyx : TypeId}
    (ht : e.P.underlying t = some (.slice et)) (htx : e.P.underlying tx = some (.slice tyx)) (hz : TI e.P et zs size bytes)
    (hx : ev ρ x = some (.slice A nl c)) (hy : ev ρ y = some (.slice Ax nx cx)) (hs : Src' B p size Ax nx news) (h1 : news.all (·.oneCell') = true)
    (hH : H = sbuf et size A nl c xs * (p * R)) (hb : nl + nx ≤ 9223372036854775807) (hbb : (nl + nx) * bytes ≤ 140737488355328) :
    Ox e ds (.call { callee := .builtin .append, args := #[x, y], argTypes := #[t, tx] }) ty ρ B H
      (fun v B' H' => ∃ A' c', v = .slice A' (nl + nx) c' ∧ (0 < nl + nx → ∃ b, A' = some ⟨b, 0, none⟩) ∧ xs.length = nl * size ∧ nl + nx ≤ c' ∧ B' = B ∧ H' = sbuf et size A' (nl + nx) c' (xs ++ news) * (p * R)) :=
  .of_run (fun _ h => by cases h) fun f w dst pos after guard he s => by
    subst hH
    obtain ⟨i, zv, z1, z2, z3, z4, z5, z6, z7⟩ := hz
    have h1' : ∀ u ∈ news, u.oneCell' = true := by simpa using h1
    have hsrc : Src e.P i.size tx (.slice Ax nx cx) nx news w := by
      obtain ⟨hl, h2 | ⟨b, o, h3, h4⟩⟩ := hs
      · obtain ⟨rfl, rfl⟩ := h2
        have : news = [] := by simpa using hl
        subst this
        exact Src.ofNil w htx cx
      · subst h3
        have h5 := h4 e.N0 (sbuf et size A nl c xs * R) w (by rw [star_left]; exact s)
        exact Src.ofSlice w htx ⟨b, o, none⟩ nx cx news (by rw [z4]; exact hl) (fun j u hj => by rw [add_mk]; exact h5 j u hj) h1'
    have hrunE : ∀ {r w'}, (Builtin.append_ #[t, tx] ty #[.slice A nl c, .slice Ax nx cx]).run e.P w = .ok r w' → (execOp f ⟨dst, .call { callee := .builtin .append, args := #[x, y], argTypes := #[t, tx] }, ty, pos, after, guard⟩).run e.P w = .ok (.value r) w' := by
      intro r w' hr
      simp [execOp, resolve, he _ _ hx, he _ _ hy, invoke, builtin, hr]
    have hnl : news.length = nx * size := hs.1
    have grow : ∀ (olds : List Value), olds.length = nl * size → (Builtin.firstCells i.size nl (.slice A nl c)).run e.P w.drew = .ok olds.toArray w.drew → c < nl + nx → olds = xs → St e.N0 B (p * R) w →
        ∃ v w' B' H', (execOp f ⟨dst, .call { callee := .builtin .append, args := #[x, y], argTypes := #[t, tx] }, ty, pos, after, guard⟩).run e.P w = .ok (.value v) w' ∧
          (∃ A' c', v = .slice A' (nl + nx) c' ∧ (0 < nl + nx → ∃ b, A' = some ⟨b, 0, none⟩) ∧ xs.length = nl * size ∧ nl + nx ≤ c' ∧ B' = B ∧ H' = sbuf et size A' (nl + nx) c' (xs ++ news) * (p * R)) ∧ B.le B' ∧ Below e.N0 w w' ∧ St e.N0 B' H' w' := by
      intro olds hol hold hlt heq s0
      have hcap := nextslicecap_le (need := nl + nx) (old := c) hlt
      have hr := run_append_grow_src (P := e.P) w t tx ty et i zv ht z1 z2 A nl c olds hold (.slice Ax nx cx) nx news hsrc hlt (by omega) (by
        rw [z5]
        calc Builtin.nextslicecap (nl + nx) c * bytes ≤ (2 * (nl + nx)) * bytes := Nat.mul_le_mul_right _ hcap
          _ = 2 * ((nl + nx) * bytes) := by rw [Nat.mul_assoc]
          _ ≤ 281474976710656 := by omega)
      have hge : nl + nx ≤ grownCap w (nl + nx) c et := by
        unfold grownCap Question.cut; simp
      obtain ⟨sp, hsp⟩ : ∃ sp : List Value, (olds ++ news).toArray ++ Builtin.zeroCells zv.cells (grownCap w (nl + nx) c et - (nl + nx)) = (olds ++ news ++ sp).toArray ∧ sp.length = (grownCap w (nl + nx) c et - (nl + nx)) * size := by
        refine ⟨(Builtin.zeroCells zv.cells (grownCap w (nl + nx) c et - (nl + nx))).toList, by apply Array.toList_inj.1; simp, ?_⟩
        simp [Builtin.zeroCells, z3, z6]
      subst heq
      rw [hsp.1] at hr
      refine ⟨_, _, B, _, hrunE hr, ⟨_, _, rfl, fun _ => ⟨_, rfl⟩, hol, hge, rfl, rfl⟩, Frag.le_refl _, ((Below.refl _ _).drew).alloc s.sz _, ?_⟩
      have := s0.drew.alloc (.cells (olds ++ news ++ sp).toArray et (0, 0))
      refine St.of_sbuf (sp := sp) (by simp [hol, hnl, Nat.add_mul]) hge ?_ this
      have : (grownCap w (nl + nx) c et) * size = (grownCap w (nl + nx) c et - (nl + nx)) * size + (nl + nx) * size := by
        rw [← Nat.add_mul]; congr 1; omega
      simp [hol, hnl, hsp.2, this, Nat.add_mul]; omega
    rcases s.cases_sbuf with ⟨e1, e2, e3, e4, s'⟩ | ⟨b, sp, e1, e2, e3, e4, s'⟩
    · subst e1; subst e2; subst e3; subst e4
      by_cases h0 : nx = 0
      · subst h0
        have hn : news = [] := by simpa using hnl
        subst hn
        refine ⟨.slice none 0 0, w, B, _, hrunE ?_, ⟨none, 0, rfl, fun h => by omega, by simp, Nat.le_refl _, rfl, rfl⟩, Frag.le_refl _, Below.refl _ _, by simpa using s⟩
        have hfc := hsrc.cells
        have hlen := hsrc.len w
        simp [Builtin.append_, run_underlying ht, run_underlying htx, sizeOf, typeInfo, z1, hlen, hfc, Builtin.lenOf]
      · exact grow [] (by simp) (by simp [Builtin.firstCells]) (by omega) rfl s'
    · subst e1
      by_cases hroom : nl + nx ≤ c
      · have hspl : (nl + nx) * size ≤ c * size := Nat.mul_le_mul_right _ hroom
        have hlen1 : xs.length + sp.length = c * size := by simpa using e4
        have hh := s'.blk.1
        have hst := run_storeCells_at (P := e.P) b (nl * size) et news 0 (xs ++ sp).toArray w hh (by simp; rw [Nat.add_mul] at hspl; omega) h1'
        have hl2 : (xs ++ sp).take (nl * size + 0) ++ news ++ (xs ++ sp).drop (nl * size + 0 + news.length) = (xs ++ news) ++ sp.drop news.length := by
          simp only [Nat.add_zero]
          rw [List.take_append_of_le_length (by omega), ← e2, List.take_length, List.drop_append]
          simp
        simp only [List.toList_toArray] at hst
        rw [hl2] at hst
        have hlen := hsrc.len w
        have hfc := hsrc.cells
        rw [z4] at hfc
        have hr : (Builtin.append_ #[t, tx] ty #[.slice (some ⟨b, 0, none⟩) nl c, .slice Ax nx cx]).run e.P w = .ok (.slice (some ⟨b, 0, none⟩) (nl + nx) c) (w.setRow b ((xs ++ news) ++ sp.drop news.length).toArray) := by
          simp only [Builtin.append_, Sem.run_bind, Sem.run_pure, Result.andThen, run_underlying ht, run_underlying htx, sizeOf, typeInfo, run_program, z1, z4, hlen, hroom, if_true, hfc, add_mk, Nat.zero_add, hst, List.getElem?_toArray, List.getElem?_cons_zero, List.getElem?_cons_succ]
          simp [hlen, hroom, hfc, hst]
        refine ⟨_, _, B, _, hrunE hr, ⟨_, _, rfl, fun _ => ⟨_, rfl⟩, e2, hroom, rfl, rfl⟩, Frag.le_refl _, (s'.setRow _).2, ?_⟩
        refine St.of_sbuf (sp := sp.drop news.length) (by simp [e2, hnl, Nat.add_mul]) hroom ?_ (s'.setRow _).1
        simp
        rw [Nat.add_mul] at hspl
        omega
      · exact grow xs e2 (by
          have := run_firstCells_some (P := e.P) w.drew i.size nl ⟨b, 0, none⟩ nl c xs (by rw [z4]; exact e2) (fun j u hj => by
            rw [add_mk, Nat.zero_add]
            refine cell_of_heap s'.drew.blk.1 ?_
            rw [List.getElem?_append_left (List.getElem?_eq_some_iff.1 hj).1]; exact hj)
          exact this) (by omega) rfl s'.drop
end
end Go.SL

/-
  Slices, more: indexing, slicing, len, cap, copy, literals, make; bytes to texts and back.
-/
namespace Go.SL
open Go.RowKit
set_option linter.unusedSimpArgs false
set_option linter.unusedVariables false

/-- Where a slice begins that is cut off another one. -/
def subA (A : Option Addr) (c l size : Nat) : Option Addr := if c = l then A else A.map (·.add (l * size))
theorem subA_none (c l size : Nat) : subA none c l size = none := by unfold subA; split <;> rfl

section
variable {P : Program} {ρ : Sl} {S : World → Prop} {ty t : TypeId} {x y : Operand} {v u : Value} {B : Frag} {H R : HP} {k k' : IntKind} {m z : Int} {n c b o size : Nat} {et : TypeId} {A : Option Addr}

theorem ia {ix : Operand} {j : Nat} (ht : P.underlying t = some (.slice et)) (hs : (P.info? et).map (·.size) = some size) (hx : ev ρ x = some (.slice (some ⟨b, o, none⟩) n c)) (hi : ev ρ ix = some (.int k m)) (hj : m.toNat = j) (h0 : 0 ≤ m) (h1 : m < n) :
    Yx P (.indexAddr t x ix) ty ρ S (.pointer (some ⟨b, o + j * size, none⟩)) := .of (fun _ h => by cases h) fun f w _ _ _ _ he _ => by
  subst hj
  cases hq : P.info? et with
  | none => simp [hq] at hs
  | some i =>
    have hi' : i.size = size := by simpa [hq] using hs
    simp [execOp, he _ _ hx, he _ _ hi, Instr.indexAt, asIntOf, run_underlying ht, h0, h1, sizeOf, typeInfo, hq, hi', add_mk]
theorem iaArr {ix : Operand} {len j : Nat} (ht : P.underlying t = some (.array len et)) (hs : (P.info? et).map (·.size) = some size) (hx : ev ρ x = some (.pointer (some ⟨b, o, none⟩))) (hi : ev ρ ix = some (.int k m)) (hj : m.toNat = j) (h0 : 0 ≤ m) (h1 : m < len) :
    Yx P (.indexAddr t x ix) ty ρ S (.pointer (some ⟨b, o + j * size, none⟩)) := .of (fun _ h => by cases h) fun f w _ _ _ _ he _ => by
  subst hj
  cases hq : P.info? et with
  | none => simp [hq] at hs
  | some i =>
    have hi' : i.size = size := by simpa [hq] using hs
    simp [execOp, he _ _ hx, he _ _ hi, Instr.indexAt, asIntOf, run_underlying ht, Instr.sureAddr, h0, h1, sizeOf, typeInfo, hq, hi', add_mk]
theorem ixArr {ix : Operand} {len : Nat} {cs : List Value} {d : TypeDesc} (ht : P.underlying t = some (.array len et)) (hs : (P.info? et).map (·.size) = some 1) (he' : P.underlying et = some d) (hd : aggB d = false) (hx : ev ρ x = some (.agg cs.toArray)) (hi : ev ρ ix = some (.int k m)) (h0 : 0 ≤ m) (h1 : m < len) (hv : cs[m.toNat]? = some v) :
    Yx P (.index t x ix) ty ρ S v := .of (fun _ h => by cases h) fun f w _ _ _ _ he _ => by
  have hg := run_isAgg he' w
  rw [hd] at hg
  have h9 : cs.toArray[m.toNat]? = some v := by simpa using hv
  cases hq : P.info? et with
  | none => simp [hq] at hs
  | some i =>
    have hi' : i.size = 1 := by simpa [hq] using hs
    simp only [execOp, he _ _ hx, he _ _ hi, Instr.index, asIntOf, Sem.run_bind, Sem.run_pure, Result.andThen, run_underlying ht, h0, h1, and_self, if_true, sizeOf, typeInfo, run_program, hq, hi', Nat.mul_one, part, hg, Bool.false_eq_true, if_false, h9]
theorem lenV {ty' : TypeId} (ht : P.underlying t = some (.slice et)) (hx : ev ρ x = some (.slice A n c)) : Yx P (.call { callee := .builtin .len, args := #[x], argTypes := #[t] }) ty ρ S (i64 n) := .of (fun _ h => by cases h) fun f w _ _ _ _ he _ => by
  simp [execOp, resolve, invoke, builtin, Builtin.len_, he _ _ hx, run_underlying ht, goInt]
theorem capV (ht : P.underlying t = some (.slice et)) (hx : ev ρ x = some (.slice A n c)) : Yx P (.call { callee := .builtin .cap, args := #[x], argTypes := #[t] }) ty ρ S (i64 c) := .of (fun _ h => by cases h) fun f w _ _ _ _ he _ => by
  simp [execOp, resolve, invoke, builtin, Builtin.cap_, he _ _ hx, run_underlying ht, goInt]
theorem eqNilV (ht : P.underlying t = some (.slice et)) (hx : ev ρ x = some (.slice A n c)) (hy : ev ρ y = some (.slice none 0 0)) {t' : TypeId} : Yx P (.binOp .eql t x y t') ty ρ S (.bool A.isNone) := .of (fun _ h => by cases h) fun f w _ _ _ _ he _ =>
  run_binOp (he _ _ hx) (he _ _ hy) (by simp [eqGuard]) (by
    have := Lib.run_eql_slice_nil (P := P) w t et A n c 0 0 ht
    exact this)

theorem run_sliceAt_slice {w : World} {lo hi : Option Value} {l h : Nat} (ht : P.underlying t = some (.slice et)) (hs : (P.info? et).map (·.size) = some size)
    (hb : (Instr.sliceBounds true n c lo hi none).run P w = .ok (l, h, c) w) :
    (Instr.sliceAt t (.slice A n c) lo hi none).run P w = .ok (.slice (subA A c l size) (h - l) (c - l)) w := by
  cases hq : P.info? et with
  | none => simp [hq] at hs
  | some i =>
    have hi' : i.size = size := by simpa [hq] using hs
    simp only [Instr.sliceAt, Sem.run_bind, run_underlying ht, Result.andThen, Instr.slice, hb, sizeOf, typeInfo, run_program, hq, hi', Sem.run_pure, subA]
theorem sl1V {lo : Operand} {j : Nat} (ht : P.underlying t = some (.slice et)) (hs : (P.info? et).map (·.size) = some size) (hx : ev ρ x = some (.slice A n c)) (hi : ev ρ lo = some (.int k m)) (hj : m.toNat = j) (h0 : 0 ≤ m) (h1 : m ≤ n) :
    Yx P (.slice t x (some lo) none none) ty ρ S (.slice (subA A c j size) (n - j) (c - j)) := .of (fun _ h => by cases h) fun f w _ _ _ _ he _ => by
  subst hj
  have := run_sliceAt_slice (P := P) (t := t) (w := w) (A := A) (n := n) (c := c) (lo := some (.int k m)) (hi := none) (l := m.toNat) (h := n) ht hs (by simp [Instr.sliceBounds, Instr.sliceBound, asIntOf, h0, h1])
  simp only [execOp, Option.map_some, Option.map_none, he _ _ hx, he _ _ hi, Sem.run_bind, this, Result.andThen, Sem.run_pure]
theorem add_zero (A : Option Addr) (hA : ∀ a, A = some a → a.spot = none) (c : Nat) : subA A c 0 size = A := by
  unfold subA
  split
  · rfl
  · cases A with
    | none => rfl
    | some a => simp [Addr.add]
theorem sl2V {hi : Operand} {j : Nat} (ht : P.underlying t = some (.slice et)) (hs : (P.info? et).map (·.size) = some size) (hx : ev ρ x = some (.slice A n c)) (hh : ev ρ hi = some (.int k m)) (hj : m.toNat = j) (h0 : 0 ≤ m) (h1 : m ≤ c) :
    Yx P (.slice t x none (some hi) none) ty ρ S (.slice A j c) := .of (fun _ h => by cases h) fun f w _ _ _ _ he _ => by
  subst hj
  have := run_sliceAt_slice (P := P) (t := t) (w := w) (A := A) (n := n) (c := c) (lo := none) (hi := some (.int k m)) (l := 0) (h := m.toNat) ht hs (by simp [Instr.sliceBounds, Instr.sliceBound, asIntOf, h0, h1])
  have e0 : subA A c 0 size = A := by
    unfold subA
    split
    · rfl
    · cases A with
      | none => rfl
      | some a => simp [Addr.add]
  simp only [execOp, Option.map_some, Option.map_none, he _ _ hx, he _ _ hh, Sem.run_bind, this, Result.andThen, Sem.run_pure, e0, Nat.sub_zero]
theorem sl3V {lo hi : Operand} {i j : Nat} (ht : P.underlying t = some (.slice et)) (hs : (P.info? et).map (·.size) = some size) (hx : ev ρ x = some (.slice A n c)) (hl : ev ρ lo = some (.int k m)) (hh : ev ρ hi = some (.int k' z)) (hi' : m.toNat = i) (hj : z.toNat = j) (h0 : 0 ≤ m) (hm : m ≤ z) (h1 : z ≤ c) :
    Yx P (.slice t x (some lo) (some hi) none) ty ρ S (.slice (subA A c i size) (j - i) (c - i)) := .of (fun _ h => by cases h) fun f w _ _ _ _ he _ => by
  subst hi'; subst hj
  have h2 : 0 ≤ z := by omega
  have h3 : m ≤ (z.toNat : Int) := by omega
  have := run_sliceAt_slice (P := P) (t := t) (w := w) (A := A) (n := n) (c := c) (lo := some (.int k m)) (hi := some (.int k' z)) (l := m.toNat) (h := z.toNat) ht hs (by simp [Instr.sliceBounds, Instr.sliceBound, asIntOf, h0, h1, h2]; omega)
  simp only [execOp, Option.map_some, Option.map_none, he _ _ hx, he _ _ hl, he _ _ hh, Sem.run_bind, this, Result.andThen, Sem.run_pure]

/-- Bytes as cells. -/
def u8s (l : List UInt8) : List Value := l.map fun b => .int .u8 (b.toNat : Nat)
theorem u8s_len (l : List UInt8) : (u8s l).length = l.length := by simp [u8s]

theorem fold_set (base : Nat) : ∀ (cs : List Value) (j : Nat) (l : List Value), base + j + cs.length ≤ l.length →
    (cs.zipIdx j).foldl (fun (a : Array Value) x => a.setIfInBounds (base + x.2) x.1) l.toArray = (l.take (base + j) ++ cs ++ l.drop (base + j + cs.length)).toArray := by
  intro cs
  induction cs with
  | nil => intro j l h; simp
  | cons v cs ih =>
    intro j l h
    simp only [List.zipIdx_cons, List.foldl_cons, List.setIfInBounds_toArray]
    rw [ih (j + 1) (l.set (base + j) v) (by simp at h ⊢; omega)]
    have := list_seg_step l (base + j) v cs (by simp at h; omega)
    rw [show base + (j + 1) = base + j + 1 by omega, this]
    simp [Nat.add_assoc, Nat.add_comm 1]
/-- A literal slice: each element one part. -/
theorem fill_all (size : Nat) : ∀ (vs : List Value) (j : Nat) (pre : List Value) (post : List Value), pre.length = j * size → (∀ v ∈ vs, v.cells.size = size) → post.length = vs.length * size →
    Instr.fill (fun i => some (i * size, size)) (pre ++ post).toArray ((vs.zipIdx j).map fun (v, i) => (i, v)) = some (pre ++ vs.flatMap (·.cells.toList)).toArray := by
  intro vs
  induction vs with
  | nil => intro j pre post h1 _ h3; simp at h3; simp [Instr.fill, h3]
  | cons v vs ih =>
    intro j pre post h1 h2 h3
    have hv := h2 v (by simp)
    simp only [List.zipIdx_cons, List.map_cons, Instr.fill]
    rw [if_neg (by
      simp only [ne_eq, hv, not_true_eq_false, false_or, List.size_toArray, List.length_append, h1, h3]
      simp [Nat.add_mul]; try omega)]
    have key : (v.cells.zipIdx.foldl (fun cs x => cs.setIfInBounds (j * size + x.2) x.1) (pre ++ post).toArray) = ((pre ++ v.cells.toList) ++ post.drop v.cells.size).toArray := by
      rw [← Array.foldl_toList, Array.toList_zipIdx]
      have := fold_set (j * size) v.cells.toList 0 (pre ++ post) (by simp [h1, hv, h3, Nat.add_mul]; try omega)
      rw [this]
      simp [← h1, hv]
    rw [key, ih (j + 1) (pre ++ v.cells.toList) (post.drop v.cells.size) (by simp [h1, hv, Nat.add_mul]) (fun u hu => h2 u (by simp [hu])) (by simp [h3, hv, Nat.add_mul])]
    simp

variable {e : Env} {ds : List Deferred} {ops : Array Oper} {rest : List Oper} {Q : Exit → Act → World → Prop}

/-- The values of a literal's parts, in order. -/
def evp (ρ : Sl) : Nat → List (Nat × Operand) → Option (List Value)
  | _, [] => some []
  | j, (i, x) :: xs => match Nat.beq i j, ev ρ x, evp ρ (j + 1) xs with
    | true, some v, some vs => some (v :: vs)
    | _, _, _ => none
theorem evp_map {f : Operand → Value} (h : Ev ρ f) : ∀ {xs : List (Nat × Operand)} {j : Nat} {vs : List Value}, evp ρ j xs = some vs → xs.map (fun (i, x) => (i, f x)) = (vs.zipIdx j).map fun (v, i) => (i, v) := by
  intro xs
  induction xs with
  | nil => intro j vs hv; simp [evp] at hv; simp [← hv]
  | cons a xs ih =>
    obtain ⟨i, x⟩ := a
    intro j vs hv
    simp only [evp] at hv
    split at hv
    · rename_i v us hij hx hs
      injection hv with hv
      subst hv
      have := Nat.eq_of_beq_eq_true hij
      subst this
      simp [h x v hx, ih hs]
    · simp at hv
theorem bslO {parts : Array (Nat × Operand)} {vs zs : List Value} {bytes len : Nat} (ht : e.P.underlying t = some (.slice et)) (hz : TI e.P et zs size bytes)
    (hp : evp ρ 0 parts.toList = some vs) (hl : vs.length = len) (hc : ∀ v ∈ vs, v.cells.size = size) (hb : len * size ≤ 16777216) :
    Ox e ds (.buildSlice t len parts) ty ρ B H (fun v B' H' => ∃ b, v = .slice (some ⟨b, 0, none⟩) len len ∧ B' = B ∧ H' = row b et (vs.flatMap (·.cells.toList)) * H) :=
  .of_run (fun _ h => by cases h) fun f w _ _ _ _ he s => by
    obtain ⟨i, zv, z1, z2, z3, z4, z5, z6, z7⟩ := hz
    have hpm : (parts.map fun (i, x) => (i, f x)) = ((vs.zipIdx 0).map fun (v, i) => (i, v)).toArray := by
      apply Array.toList_inj.1
      simp [evp_map he hp]
    obtain ⟨zz, hzz, hzl⟩ : ∃ zz : List Value, ((Array.range (len * size)).map (zv.cells[· % zv.cells.size]!)) = zz.toArray ∧ zz.length = len * size :=
      ⟨((Array.range (len * size)).map (zv.cells[· % zv.cells.size]!)).toList, (Array.toArray_toList).symm, by simp⟩
    have hfill := fill_all size vs 0 [] zz (by simp) hc (by rw [hzl, hl])
    simp only [List.nil_append] at hfill
    refine ⟨.slice (some ⟨w.heap.size, 0, none⟩) len len, w.alloc (.cells (vs.flatMap (·.cells.toList)).toArray et (0, 0)), B, _, ?_, ⟨_, rfl, rfl, rfl⟩, Frag.le_refl _, (Below.refl _ _).alloc s.sz _, s.alloc _⟩
    have hn : ¬ (len * size > 2 ^ 24) := by omega
    have hbs : (Instr.buildSlice t len ((vs.zipIdx 0).map fun (v, i) => (i, v)).toArray).run e.P w = .ok (.slice (some ⟨w.heap.size, 0, none⟩) len len) (w.alloc (.cells (vs.flatMap (·.cells.toList)).toArray et (0, 0))) := by
      unfold Instr.buildSlice
      by_cases h0 : len * size = 0
      · have hl0 : len = 0 := by
          rcases Nat.mul_eq_zero.1 h0 with h | h
          · exact h
          · omega
        have : vs = [] := List.eq_nil_of_length_eq_zero (by omega)
        subst this
        have hr0 : Array.range 0 = #[] := rfl
        simp [run_underlying ht, sizeOf, typeInfo, z1, z4, hl0, Instr.fill, newRow, hr0]
      · simp only [Sem.run_bind, run_underlying ht, Result.andThen, sizeOf, typeInfo, run_program, z1, z4, Sem.run_pure, hn, if_false, h0, zeroValue, z2, hzz, hfill]
        simp [newRow]
    simp only [execOp, hpm, Sem.run_bind, hbs, Result.andThen, Sem.run_pure]
theorem Lx.bsl {op : Op} {cs : List Value} {pos : String} {af : Array Edge} {d len : Nat} (h : Ox e ds op ty ρ B H (fun v B' H' => ∃ b, v = .slice (some ⟨b, 0, none⟩) len len ∧ B' = B ∧ H' = row b et cs * H)) (hd : Nat.blt d e.nt = true)
    (k : ∀ b, Lx e ds ops Q rest ((d, .slice (some ⟨b, 0, none⟩) len len) :: ρ) B (row b et cs * H)) : Lx e ds ops Q (⟨some d, op, ty, pos, af, none⟩ :: rest) ρ B H :=
  Lx.o h hd fun v B' H' ⟨b, e1, e2, e3⟩ _ => by subst e1; subst e2; subst e3; exact k b

theorem flat_one : ∀ {vs : List Value}, vs.all (·.oneCell') = true → vs.flatMap (·.cells.toList) = vs := by
  intro vs
  induction vs with
  | nil => intro _; rfl
  | cons v vs ih =>
    intro h
    simp only [List.all_cons, Bool.and_eq_true] at h
    have hv1 : v.cells = #[v] := by cases v <;> simp_all [Value.cells, Value.oneCell']
    simp [List.flatMap_cons, hv1, ih h.2]
theorem bsl1 {parts : Array (Nat × Operand)} {vs zs : List Value} {bytes len : Nat} (ht : e.P.underlying t = some (.slice et)) (hz : TI e.P et zs 1 bytes)
    (hp : evp ρ 0 parts.toList = some vs) (hl : vs.length = len) (h1 : vs.all (·.oneCell') = true) (hb : len ≤ 16777216) :
    Ox e ds (.buildSlice t len parts) ty ρ B H (fun v B' H' => ∃ b, v = .slice (some ⟨b, 0, none⟩) len len ∧ B' = B ∧ H' = row b et vs * H) := by
  have := bslO (ρ := ρ) (ds := ds) (B := B) (H := H) (ty := ty) ht hz hp hl (fun v hv => by
    have := List.all_eq_true.1 h1 v hv
    cases v <;> simp_all [Value.cells, Value.oneCell']) (by omega)
  rw [flat_one h1] at this
  exact this
/-- One part of many cells. -/
theorem bslA {x : Operand} {cs zs : List Value} {bytes : Nat} (ht : e.P.underlying t = some (.slice et)) (hz : TI e.P et zs size bytes)
    (hx : ev ρ x = some (.agg cs.toArray)) (hl : cs.length = size) (hb : size ≤ 16777216) :
    Ox e ds (.buildSlice t 1 #[(0, x)]) ty ρ B H (fun v B' H' => ∃ b, v = .slice (some ⟨b, 0, none⟩) 1 1 ∧ B' = B ∧ H' = row b et cs * H) := by
  have := bslO (ρ := ρ) (ds := ds) (B := B) (H := H) (ty := ty) (parts := #[(0, x)]) (vs := [.agg cs.toArray]) (len := 1) ht hz (by simp [evp, hx]) rfl (fun v hv => by
    simp at hv; subst hv; simpa [Value.cells] using hl) (by omega)
  simpa [Value.cells] using this
/-- make([]T, n, c) with one-celled elements. -/
theorem mksO {l c : Operand} {k1 k2 : IntKind} {a d : Int} {z : Value} {bytes : Nat} (ht : e.P.underlying t = some (.slice et)) (hz : TI e.P et [z] 1 bytes) (hl : ev ρ l = some (.int k1 a)) (hc : ev ρ c = some (.int k2 d))
    (h0 : 0 ≤ a) (h1 : a ≤ d) (h2 : d ≤ 9223372036854775807) (hb : d * bytes ≤ 140737488355328) :
    Ox e ds (.makeSlice t l c) ty ρ B H (fun v B' H' => ∃ b, v = .slice (some ⟨b, 0, none⟩) a.toNat d.toNat ∧ B' = B ∧ H' = row b et (List.replicate d.toNat z) * H) :=
  .of_run (fun _ h => by cases h) fun f w _ _ _ _ he s => by
    obtain ⟨i, zv, z1, z2, z3, z4, z5, z6, z7⟩ := hz
    have hm : madeCells zv.cells (d.toNat * i.size) = (List.replicate d.toNat z).toArray := by
      rw [z3, z4, Nat.mul_one]
      apply Array.toList_inj.1
      apply List.ext_getElem?
      intro j
      by_cases hj : j < d.toNat
      · have h2 : (j : Int) < d := by omega
        simp [madeCells, List.getElem?_replicate, hj, h2, Nat.mod_one]
      · have h2 : ¬ (j : Int) < d := by omega
        have h3 : (List.range d.toNat)[j]? = none := List.getElem?_eq_none (by simp; omega)
        simp [madeCells, List.getElem?_replicate, hj, h2, h3]
    have hr := run_make (P := e.P) w t et i zv ht z1 z2 k1 k2 a d h0 h1 (by rw [z5, Int.mul_comm]; omega) h2
    rw [hm] at hr
    refine ⟨_, _, B, _, ?_, ⟨_, rfl, rfl, rfl⟩, Frag.le_refl _, (Below.refl _ _).alloc s.sz _, s.alloc _⟩
    simp only [execOp, he _ _ hl, he _ _ hc, Sem.run_bind, hr, Result.andThen, Sem.run_pure]

/-- Bytes to a text. -/
theorem b2s {src dst : TypeId} {l : List UInt8} {p : HP} {N0 : Nat} (hs : P.underlying src = some (.slice et)) (he' : P.underlying et = some (.int .u8)) (hd : P.underlying dst = some .string) (hx : ev ρ x = some (.slice A n c))
    (hS : Src' B p 1 A n (u8s l)) (hH : H = p * R) : Yx P (.convert src dst x) ty ρ (St N0 B H) (str l) := .of (fun _ h => by cases h) fun f w _ _ _ _ he s => by
  obtain ⟨hl, hA⟩ := hS
  have hln : l.length = n := by simpa [u8s] using hl
  have hc : (convert src dst (.slice A n c)).run P w = .ok (str l) w := by
    rcases hA with ⟨h1, h2⟩ | ⟨b, o, h1, h2⟩
    · subst h1; subst h2
      rw [run_convert_bytes_nil w src et hs he' 0 c dst hd]
      have : l = [] := List.eq_nil_of_length_eq_zero hln
      subst this; rfl
    · subst h1
      have h3 := h2 N0 R w (hH ▸ s)
      rw [run_convert_bytes_arg w src et hs he' b o n c (l.map fun b => (b.toNat : Int)) (by simp [hln]) (fun i hi => by
        refine h3 i _ ?_
        simp [u8s, List.getElem?_map, List.getElem?_eq_getElem (show i < l.length by omega)]) dst hd]
      congr 1
      simp only [strOfNums, str, Value.string.injEq, ByteArray.mk.injEq, List.map_map]
      congr 1
      conv => rhs; rw [← List.map_id l]
      apply List.map_congr_left
      intro b _
      simp
  simp only [execOp, he _ _ hx, Sem.run_bind, hc, Result.andThen, Sem.run_pure]
theorem u8s_nil : u8s [] = [] := rfl
theorem u8s_cons {b : UInt8} {l : List UInt8} {vs : List Value} (h : u8s l = vs) : u8s (b :: l) = .int .u8 (b.toNat : Nat) :: vs := by rw [← h]; rfl
/-- A literal's bytes, to a text. -/
theorem b2sR {src dst : TypeId} {l : List UInt8} {vs : List Value} {N0 : Nat} {b0 : Nat} {fz : Nat × Nat} (hs : P.underlying src = some (.slice et)) (he' : P.underlying et = some (.int .u8)) (hd : P.underlying dst = some .string) (hx : ev ρ x = some (.slice (some ⟨b0, 0, none⟩) n c))
    [hp : PickB H b0 (.cells vs.toArray et fz) R] (hv : u8s l = vs) (hn : vs.length = n) : Yx P (.convert src dst x) ty ρ (St N0 B H) (str l) :=
  b2s hs he' hd hx (Src'.row (o := 0) (cs := vs) (fz := fz) (et := et) (by rw [hv, hn]; simp) (by rw [hv, ← hn]; simp)) hp.eq
end
end Go.SL

/-
  Regions that draw their order, over the states of the small separation logic: what only reckons, or reads, is taken first; all else comes up in every order.
-/
namespace Go.SL
open Go.RowKit
set_option linter.unusedSimpArgs false
set_option linter.unusedVariables false

/-- Does operation j wait for operation i, by an edge of its own? -/
def edge (ops : Array Oper) (j i : Nat) : Bool := match ops[j]? with
  | some o => o.after.any fun x => Region.binds .any x && x.on == i
  | none => false

/-- Whatever order is picked from here on, and behind operation i 'J i' holds. -/
def anyJ (P : Program) (r : Option Nat) (ops : Array Oper) (Q : Exit → Act → World → Prop) (J : Nat → World → Prop) : Nat → Array Bool → Act → World → Prop
  | 0, listed, a, w => Region.ready .any ops listed = [] ∧ Q .normal a w
  | fuel + 1, listed, a, w =>
    (Region.ready .any ops listed = [] → Q .normal a w) ∧
    ∀ i ∈ Region.ready .any ops listed, wpOpIn (FW r) 0 P ops Q i (fun a' w' => (w' = w ∨ J i w') ∧ anyJ P r ops Q J fuel (listed.setIfInBounds i true) a' w') a w

section
variable {P : Program} {r : Option Nat} {ops : Array Oper} {Q : Exit → Act → World → Prop} {J J' : Nat → World → Prop}
theorem anyJ_any : ∀ (fuel : Nat) (listed : Array Bool) (a : Act) (w : World), anyJ P r ops Q J fuel listed a w → wpAnyIn (FW r) 0 P .any ops Q fuel listed a w
  | 0, _, _, _, h => h
  | fuel + 1, _, _, _, h => ⟨h.1, fun i hi => wpOpIn_mono (fun a' w' h' => anyJ_any fuel _ a' w' h'.2) (h.2 i hi)⟩
theorem anyJ_mono (hJ : ∀ j w, J j w → J' j w) : ∀ (fuel : Nat) (listed : Array Bool) (a : Act) (w : World), anyJ P r ops Q J fuel listed a w → anyJ P r ops Q J' fuel listed a w
  | 0, _, _, _, h => h
  | fuel + 1, _, _, _, h => ⟨h.1, fun i hi => wpOpIn_mono (fun a' w' h' => ⟨h'.1.imp id (hJ _ _), anyJ_mono hJ fuel _ a' w' h'.2⟩) (h.2 i hi)⟩

/-- In every world that meets T the operation (no defer statement) leaves v and does nothing else. -/
def YT (P : Program) (ops : Array Oper) (T : World → Prop) (o : Oper) (v : Value) (a : Act) : Prop := (∀ c, o.op ≠ .defer c) ∧ YieldsIf P ops T o v a

theorem semAt_FW {o : Oper} {ρ : Operand → Value} (h : ∀ c, o.op ≠ .defer c) : Oper.semAt (FW r).round ρ o = execOp ρ o := Oper.semAt_eq _ _ _ h

theorem YT.wpOpIn {T : World → Prop} {i : Nat} {o : Oper} {v : Value} {a : Act} (hi : ops[i]? = some o) (hy : YT P ops T o v a) {K : Act → World → Prop} {w : World} (hT : T w) (h : K (a.put o.dst v) w) : wpOpIn (FW r) 0 P ops Q i K a w := by
  unfold Go.wpOpIn
  simp only [hi]
  rcases hy with ⟨hd, ⟨hw, hv⟩ | ⟨hw, rfl⟩⟩
  · simp only [hw, if_true, Oper.wpIn, semAt_FW hd, hv w hT, Oper.uponIn]; exact ⟨fun _ _ => trivial, h⟩
  · simp only [hw, Bool.false_eq_true, if_false]; exact ⟨fun _ _ => trivial, h⟩

theorem semAt_put {oj : Oper} {a : Act} {dst : Option Tmp} {v : Value} (hsj : ∀ cs b, oj.op ≠ .select cs b) (h1 : ∀ d, dst = some d → d ∉ oj.looksAt ops) :
    Oper.semAt (FW r).round (a.put dst v).eval oj = Oper.semAt (FW r).round a.eval oj := by
  by_cases hd : ∃ c, oj.op = .defer c
  · obtain ⟨c, hc⟩ := hd
    have hr := resolve_congr (ρ := (a.put dst v).eval) (ρ' := a.eval) c oj.type (fun x hx => Act.eval_put fun d hd hxd => h1 d hd (by
      subst hxd
      exact List.mem_append_left _ (List.mem_filterMap.2 ⟨.tmp d, by rw [hc]; simpa [Op.operands] using hx, rfl⟩)))
    have he := execOp_put (ops := ops) oj hsj a dst v h1
    unfold Oper.semAt
    rw [hc]
    cases hq : (FW r).round with
    | none => exact he
    | some l => simp only [hr]
  · have hd' : ∀ c, oj.op ≠ .defer c := fun c h => hd ⟨c, h⟩
    rw [semAt_FW hd', semAt_FW hd', execOp_put (ops := ops) oj hsj a dst v h1]

theorem wpOpIn_putT {T : World → Prop} {j : Nat} {oi oj : Oper} {v : Value} (hj : ops[j]? = some oj) (hap : oi.apart ops oj = true)
    (hsi : ∀ cs b, oi.op ≠ .select cs b) (hsj : ∀ cs b, oj.op ≠ .select cs b)
    (hQ : ∀ c a w, Q (.panic c) (a.put oi.dst v) w → Q (.panic c) a w) {K : Act → World → Prop} {a : Act} {w : World}
    (hy : YT P ops T oi v a) (h : wpOpIn (FW r) 0 P ops Q j K (a.put oi.dst v) w) :
    wpOpIn (FW r) 0 P ops Q j (fun a' w' => YT P ops T oi v a' ∧ K (a'.put oi.dst v) w') a w := by
  obtain ⟨h1, h2, h3⟩ := Oper.apart_spec hap
  have keep : ∀ (a : Act), YT P ops T oi v a → ∀ u, YT P ops T oi v (a.put oj.dst u) := fun a hy u =>
    ⟨hy.1, hy.2.of_same (execOp_put oi hsi a oj.dst u h3) (wanted_put oi a oj.dst u h3)⟩
  have keepD : ∀ d, YT P ops T oi v { a with defers := d :: a.defers } := fun d => ⟨hy.1, hy.2.of_same rfl rfl⟩
  unfold wpOpIn at *
  simp only [hj] at *
  rw [wanted_put oj a oi.dst v h1] at h
  split
  · rename_i hw
    simp only [hw, if_true] at h
    unfold Oper.wpIn at *
    refine ⟨fun _ _ => trivial, ?_⟩
    have h := h.2
    rw [semAt_put hsj h1] at h
    generalize (Oper.semAt (FW r).round a.eval oj).run P w = q at *
    cases q with
    | ok x w' =>
      cases x <;> simp only [Oper.uponIn] at h ⊢
      case value u => exact ⟨keep a hy u, by rw [← Act.put_comm a v u h2]; exact h⟩
      case skip => exact ⟨keep a hy _, by rw [← Act.put_comm a v undef h2]; exact h⟩
      case defer d =>
        refine ⟨keep _ (keepD d) _, ?_⟩
        rw [← Act.put_comm _ v undef h2, ← Act.put_defers]
        exact h
      case enter f args =>
        refine ⟨h.1, CallsIn.mono h.2 fun e w'' he => ?_⟩
        cases e with
        | returned u => exact ⟨keep a hy u, by rw [← Act.put_comm a v u h2]; exact he⟩
        | panicked c => exact hQ _ _ _ he
        | outgrown => exact he
      case row row args => exact ⟨h.1, RowsIn.mono h.2 fun u w'' he => ⟨keep a hy u, by rw [← Act.put_comm a v u h2]; exact he⟩⟩
      case round l f tmps assign body =>
        refine ⟨h.1, RoundIn.mono h.2 fun e w'' he => ?_⟩
        cases e with
        | returned u => exact ⟨keep a hy u, by rw [← Act.put_comm a v u h2]; exact he⟩
        | panicked c => exact hQ _ _ _ he
        | outgrown => exact he
    | halt x w' =>
      cases x <;> simp only [Oper.uponIn] at h ⊢
      case panic u => exact hQ _ _ _ h
  · rename_i hw
    simp only [hw] at h
    exact ⟨fun _ _ => trivial, keep a hy _, by rw [← Act.put_comm a v undef h2]; exact h.2⟩

theorem anyJ_first {T : World → Prop} {i : Nat} {oi : Oper} {v : Value} (hi : ops[i]? = some oi) (hsel : ∀ (j : Nat) (o : Oper) cs b, ops[j]? = some o → o.op ≠ .select cs b)
    (hQ : ∀ c a w, Q (.panic c) (a.put oi.dst v) w → Q (.panic c) a w) (hJT : ∀ j w, J j w → edge ops j i = false → T w) :
    ∀ (fuel : Nat) (listed : Array Bool) (a : Act) (w : World),
      (∀ j oj, ops[j]? = some oj → j ≠ i → listed.getD j true = false → (∀ e ∈ oj.after, Region.binds .any e = true → e.on ≠ i) → oi.apart ops oj = true) →
      i ∈ Region.ready .any ops listed → YT P ops T oi v a → T w →
      anyJ P r ops Q J fuel (listed.setIfInBounds i true) (a.put oi.dst v) w → anyJ P r ops Q J (fuel + 1) listed a w := by
  intro fuel
  induction fuel with
  | zero =>
    intro listed a w _ hr hy hT H
    refine ⟨fun h => (by rw [h] at hr; cases hr), fun j hj => ?_⟩
    by_cases hji : j = i
    · subst hji; exact hy.wpOpIn hi hT ⟨.inl rfl, H⟩
    · have := ready_mono hj hji
      rw [H.1] at this
      cases this
  | succ fuel ih =>
    intro listed a w hfree hr hy hT H
    refine ⟨fun h => (by rw [h] at hr; cases hr), fun j hj => ?_⟩
    by_cases hji : j = i
    · subst hji; exact hy.wpOpIn hi hT ⟨.inl rfl, H⟩
    · have h1 := H.2 j (ready_mono hj hji)
      obtain ⟨hjun, oj, hoj, hall⟩ := mem_ready.1 hj
      have hnot : ∀ e ∈ oj.after, Region.binds .any e = true → e.on ≠ i := fun e he hb heq => by
        have h1 := hall e he hb
        have h0 := (mem_ready.1 hr).1
        rw [heq] at h1
        rcases Nat.lt_or_ge i listed.size with h' | h'
        · simp [h'] at h0 h1; rw [h0] at h1; cases h1
        · simp [Array.getElem?_eq_none h'] at h1
      have hed : edge ops j i = false := by
        simp only [edge, hoj]
        cases hq : oj.after.any fun x => Region.binds .any x && x.on == i with
        | false => rfl
        | true =>
          obtain ⟨x, hx, hb⟩ := Array.any_eq_true'.1 hq
          simp only [Bool.and_eq_true, beq_iff_eq] at hb
          exact absurd hb.2 (hnot x hx hb.1)
      have h2 := wpOpIn_putT hoj (hfree j oj hoj hji hjun hnot) (fun cs b => hsel i oi cs b hi) (fun cs b => hsel j oj cs b hoj) hQ hy h1
      have hfree' : ∀ k ok, ops[k]? = some ok → k ≠ i → (listed.setIfInBounds j true).getD k true = false →
          (∀ e ∈ ok.after, Region.binds .any e = true → e.on ≠ i) → oi.apart ops ok = true := fun k ok hk hki hun hno => by
        refine hfree k ok hk hki ?_ hno
        by_cases hjk : j = k
        · subst hjk; exact hjun
        · rw [getD_set_ne true hjk] at hun; exact hun
      refine wpOpIn_mono (fun a' w' h3 => ⟨h3.2.1, ih (listed.setIfInBounds j true) a' w' hfree' (ready_mono hr (Ne.symm hji)) h3.1 (h3.2.1.elim (fun e => e ▸ hT) fun h => hJT j w' h hed) ?_⟩) h2
      rw [Array.setIfInBounds_comm _ _ hji]
      exact h3.2.2

/-- May i be taken first here? -/
def tk (ops : Array Oper) (listed : Array Bool) (i : Nat) : Bool := Region.noSelect ops && Region.free .any ops listed i && (Region.ready .any ops listed).contains i

theorem anyJ_take {T : World → Prop} {i : Nat} {oi : Oper} {v : Value} {fuel : Nat} {listed : Array Bool} {a : Act} {w : World} (hi : ops[i]? = some oi) (ht : tk ops listed i = true)
    (hQ : ∀ c a w, Q (.panic c) (a.put oi.dst v) w → Q (.panic c) a w) (hy : YT P ops T oi v a) (hT : T w)
    (h : anyJ P r ops Q (fun j w => J j w ∧ (edge ops j i = false → T w)) fuel (listed.setIfInBounds i true) (a.put oi.dst v) w) : anyJ P r ops Q J (fuel + 1) listed a w := by
  simp only [tk, Bool.and_eq_true] at ht
  refine anyJ_mono (fun j w h => h.1) _ _ _ _ (anyJ_first (J := fun j w => J j w ∧ (edge ops j i = false → T w)) hi (Region.noSelect_spec ht.1.1) hQ (fun j w h => h.2) fuel listed a w (Region.free_spec hi ht.1.2) (by simpa using ht.2) hy hT h)
end

/-- A region from the state on: whichever order is picked. -/
def Dx (e : Env) (ds : List Deferred) (ops : Array Oper) (Q : Exit → Act → World → Prop) (J : Nat → World → Prop) (fuel : Nat) (listed : Array Bool) (ρ : Sl) (B : Frag) (H : HP) : Prop :=
  Xx e ds (fun a w => anyJ e.P e.r ops Q J fuel listed a w) ρ B H
def J0 : Nat → World → Prop := fun _ _ => True
/-- Behind what does not wait for i, this still reads as v. -/
def J1 (P : Program) (ops : Array Oper) (J : Nat → World → Prop) (i : Nat) (op : Op) (ty : TypeId) (ρ : Sl) (v : Value) : Nat → World → Prop :=
  fun j w => J j w ∧ (edge ops j i = false → Yx P op ty ρ (fun w' => w' = w) v)
def JOk (e : Env) (B : Frag) (H : HP) (J : Nat → World → Prop) (j : Nat) : Prop := ∀ w, St e.N0 B H w → J j w

section
variable {e : Env} {ds : List Deferred} {Q : Exit → Act → World → Prop} {ρ ρ' : Sl} {B B' : Frag} {H H' : HP} {K : Act → World → Prop} {ops : Array Oper} {J : Nat → World → Prop} {fuel : Nat} {listed : Array Bool}

theorem JOk.top {j : Nat} : JOk e B H J0 j := fun _ _ => trivial
theorem JOk.edge {i j : Nat} {op : Op} {ty : TypeId} {v : Value} (h : JOk e B H J j) (he : SL.edge ops j i = true) : JOk e B H (J1 e.P ops J i op ty ρ v) j := fun w s => ⟨h w s, fun hf => by rw [he] at hf; cases hf⟩
theorem JOk.yes {i j : Nat} {op : Op} {ty : TypeId} {v : Value} (h : JOk e B H J j) (hy : Yx e.P op ty ρ (St e.N0 B H) v) : JOk e B H (J1 e.P ops J i op ty ρ v) j :=
  fun w s => ⟨h w s, fun _ => ⟨hy.1, fun f w' d p a g he hw => by subst hw; exact hy.2 f w' d p a g he s⟩⟩

theorem Cx.drawn {id : Nat} {l : List Oper} (hm : e.P.follows .mixedOrders = true) (h : Dx e ds l.toArray (NoPanic Q) J0 l.length (List.replicate l.length false).toArray ρ B H) : Cx e ds (.region id l.toArray true) Q ρ B H :=
  fun a w f b s => by
    have h1 := h a w.drew f b.drew s.drew
    have h2 : anyJ e.P e.r l.toArray (NoPanic Q) J0 l.toArray.size (Array.replicate l.toArray.size false) a w.drew := by simpa using h1
    exact wpIn_mono (wpIn_region_any hm (anyJ_any _ _ _ _ h2)) NoPanic.imp

theorem Dx.done (hr : Region.ready .any ops listed = []) (h : Xx e ds (Q .normal) ρ B H) : Dx e ds ops (NoPanic Q) J fuel listed ρ B H := fun a w f b s => by
  have hq : NoPanic Q .normal a w := h a w f b s
  cases fuel with
  | zero => exact ⟨hr, hq⟩
  | succ n => exact ⟨fun _ => hq, by rw [hr]; simp⟩

/-- What only reckons is taken first. -/
theorem Dx.p {i d : Nat} {op : Op} {ty : TypeId} {pos : String} {af : Array Edge} {v : Value} (hi : ops[i]? = some ⟨some d, op, ty, pos, af, none⟩) (ht : tk ops listed i = true)
    (hy : Yx e.P op ty ρ (fun _ => True) v) (hd : Nat.blt d e.nt = true) (k : Dx e ds ops (NoPanic Q) J fuel (listed.setIfInBounds i true) ((d, v) :: ρ) B H) : Dx e ds ops (NoPanic Q) J (fuel + 1) listed ρ B H :=
  fun a w f b s => anyJ_take (T := fun _ => True) hi ht (fun _ _ _ h => h) ⟨hy.1, .inl ⟨by simp [Region.wanted], fun w hw => hy.2 a.eval w _ _ _ _ f.ev hw⟩⟩ trivial
    (anyJ_mono (fun j w h => ⟨h, fun _ => trivial⟩) _ _ _ _ (k _ w (f.put hd v) b s))
/-- What reads is taken first, and must read so behind all that does not wait for it. -/
theorem Dx.r {i d : Nat} {op : Op} {ty : TypeId} {pos : String} {af : Array Edge} {v : Value} (hi : ops[i]? = some ⟨some d, op, ty, pos, af, none⟩) (ht : tk ops listed i = true)
    (hy : Yx e.P op ty ρ (St e.N0 B H) v) (hd : Nat.blt d e.nt = true) (k : Dx e ds ops (NoPanic Q) (J1 e.P ops J i op ty ρ v) fuel (listed.setIfInBounds i true) ((d, v) :: ρ) B H) : Dx e ds ops (NoPanic Q) J (fuel + 1) listed ρ B H :=
  fun a w f b s => anyJ_take (T := fun w => Yx e.P op ty ρ (fun w' => w' = w) v) hi ht (fun _ _ _ h => h)
    ⟨hy.1, .inl ⟨by simp [Region.wanted], fun w hw => hw.2 a.eval w _ _ _ _ f.ev rfl⟩⟩ ⟨hy.1, fun f' w' d' p a' g he hw => by subst hw; exact hy.2 f' w' d' p a' g he s⟩ (k _ w (f.put hd v) b s)
/-- The same under a guard that says yes; and what a guard passes over. -/
theorem Dx.pT {i d j t : Nat} {u : Bool} {o : Oper} {op : Op} {ty : TypeId} {pos : String} {af : Array Edge} {v : Value} (hi : ops[i]? = some ⟨some d, op, ty, pos, af, some (j, u)⟩) (hj : ops[j]? = some o) (ho : o.dst = some t) (hv : lk ρ t = some (.bool u)) (ht : tk ops listed i = true)
    (hy : Yx e.P op ty ρ (fun _ => True) v) (hd : Nat.blt d e.nt = true) (k : Dx e ds ops (NoPanic Q) J fuel (listed.setIfInBounds i true) ((d, v) :: ρ) B H) : Dx e ds ops (NoPanic Q) J (fuel + 1) listed ρ B H :=
  fun a w f b s => anyJ_take (T := fun _ => True) hi ht (fun _ _ _ h => h) ⟨hy.1, .inl ⟨by simp [Region.wanted, yielded_of (e := e) f hj ho hv], fun w hw => hy.2 a.eval w _ _ _ _ f.ev hw⟩⟩ trivial
    (anyJ_mono (fun j w h => ⟨h, fun _ => trivial⟩) _ _ _ _ (k _ w (f.put hd v) b s))
theorem Dx.rT {i d j t : Nat} {u : Bool} {o : Oper} {op : Op} {ty : TypeId} {pos : String} {af : Array Edge} {v : Value} (hi : ops[i]? = some ⟨some d, op, ty, pos, af, some (j, u)⟩) (hj : ops[j]? = some o) (ho : o.dst = some t) (hv : lk ρ t = some (.bool u)) (ht : tk ops listed i = true)
    (hy : Yx e.P op ty ρ (St e.N0 B H) v) (hd : Nat.blt d e.nt = true) (k : Dx e ds ops (NoPanic Q) (J1 e.P ops J i op ty ρ v) fuel (listed.setIfInBounds i true) ((d, v) :: ρ) B H) : Dx e ds ops (NoPanic Q) J (fuel + 1) listed ρ B H :=
  fun a w f b s => anyJ_take (T := fun w => Yx e.P op ty ρ (fun w' => w' = w) v) hi ht (fun _ _ _ h => h)
    ⟨hy.1, .inl ⟨by simp [Region.wanted, yielded_of (e := e) f hj ho hv], fun w hw => hw.2 a.eval w _ _ _ _ f.ev rfl⟩⟩ ⟨hy.1, fun f' w' d' p a' g he hw => by subst hw; exact hy.2 f' w' d' p a' g he s⟩ (k _ w (f.put hd v) b s)
theorem Dx.pF {i d j t : Nat} {u : Bool} {o : Oper} {op : Op} {ty : TypeId} {pos : String} {af : Array Edge} (hi : ops[i]? = some ⟨some d, op, ty, pos, af, some (j, u)⟩) (hop : ∀ c, op ≠ .defer c) (hj : ops[j]? = some o) (ho : o.dst = some t) (hv : lk ρ t = some (.bool (!u))) (ht : tk ops listed i = true)
    (hd : Nat.blt d e.nt = true) (k : Dx e ds ops (NoPanic Q) J fuel (listed.setIfInBounds i true) ((d, undef) :: ρ) B H) : Dx e ds ops (NoPanic Q) J (fuel + 1) listed ρ B H :=
  fun a w f b s => anyJ_take (T := fun _ => True) hi ht (fun _ _ _ h => h) ⟨hop, .inr ⟨by simp [Region.wanted, yielded_of (e := e) f hj ho hv], rfl⟩⟩ trivial
    (anyJ_mono (fun j w h => ⟨h, fun _ => trivial⟩) _ _ _ _ (k _ w (f.put hd undef) b s))

/-- One of those that may come up. -/
def Dstep (e : Env) (ds : List Deferred) (ops : Array Oper) (Q : Exit → Act → World → Prop) (J : Nat → World → Prop) (fuel : Nat) (listed : Array Bool) (ρ : Sl) (B : Frag) (H : HP) (i : Nat) : Prop :=
  Xx e ds (fun a w => wpOpIn (FW e.r) 0 e.P ops Q i (fun a' w' => (w' = w ∨ J i w') ∧ anyJ e.P e.r ops Q J fuel (listed.setIfInBounds i true) a' w') a w) ρ B H
theorem Dx.all {is : List Nat} (hr : Region.ready .any ops listed = is) (hne : is ≠ []) (h : ∀ i ∈ is, Dstep e ds ops Q J fuel listed ρ B H i) : Dx e ds ops Q J (fuel + 1) listed ρ B H :=
  fun a w f b s => ⟨fun h0 => absurd (hr ▸ h0) hne, fun i hi => h i (hr ▸ hi) a w f b s⟩
theorem Dx.one {i : Nat} (hr : Region.ready .any ops listed = [i]) (h : Dstep e ds ops Q J fuel listed ρ B H i) : Dx e ds ops Q J (fuel + 1) listed ρ B H :=
  Dx.all hr (by simp) fun j hj => by rw [List.mem_singleton.1 hj]; exact h
theorem Dx.two {i j : Nat} (hr : Region.ready .any ops listed = [i, j]) (h : Dstep e ds ops Q J fuel listed ρ B H i) (h2 : Dstep e ds ops Q J fuel listed ρ B H j) : Dx e ds ops Q J (fuel + 1) listed ρ B H :=
  Dx.all hr (by simp) fun k hk => by
    simp at hk
    rcases hk with rfl | rfl
    · exact h
    · exact h2
theorem Dx.three {i j l : Nat} (hr : Region.ready .any ops listed = [i, j, l]) (h : Dstep e ds ops Q J fuel listed ρ B H i) (h2 : Dstep e ds ops Q J fuel listed ρ B H j) (h3 : Dstep e ds ops Q J fuel listed ρ B H l) : Dx e ds ops Q J (fuel + 1) listed ρ B H :=
  Dx.all hr (by simp) fun k hk => by
    simp at hk
    rcases hk with rfl | rfl | rfl
    · exact h
    · exact h2
    · exact h3

theorem Dstep.o {i d : Nat} {op : Op} {ty : TypeId} {pos : String} {af : Array Edge} {Φ : Value → Frag → HP → Prop} (hi : ops[i]? = some ⟨some d, op, ty, pos, af, none⟩) (h : Ox e ds op ty ρ B H Φ) (hd : Nat.blt d e.nt = true)
    (k : ∀ v B' H', Φ v B' H' → B.le B' → JOk e B' H' J i ∧ Dx e ds ops Q J fuel (listed.setIfInBounds i true) ((d, v) :: ρ) B' H') : Dstep e ds ops Q J fuel listed ρ B H i := by
  intro a w f b s
  unfold wpOpIn
  simp only [hi]
  rw [if_pos (by simp [Region.wanted])]
  exact Oper.wpIn_FW h.1 (h.2 a w _ _ _ _ _ _ f b s fun v B' H' w' hΦ hB b' s' => ⟨.inr ((k v B' H' hΦ hB).1 w' s'), (k v B' H' hΦ hB).2 _ w' (f.put hd v) b' s'⟩)
theorem Dstep.o0 {i : Nat} {op : Op} {ty : TypeId} {pos : String} {af : Array Edge} {Φ : Value → Frag → HP → Prop} (hi : ops[i]? = some ⟨none, op, ty, pos, af, none⟩) (h : Ox e ds op ty ρ B H Φ)
    (k : ∀ v B' H', Φ v B' H' → B.le B' → JOk e B' H' J i ∧ Dx e ds ops Q J fuel (listed.setIfInBounds i true) ρ B' H') : Dstep e ds ops Q J fuel listed ρ B H i := by
  intro a w f b s
  unfold wpOpIn
  simp only [hi]
  rw [if_pos (by simp [Region.wanted])]
  exact Oper.wpIn_FW h.1 (h.2 a w _ _ _ _ _ _ f b s fun v B' H' w' hΦ hB b' s' => ⟨.inr ((k v B' H' hΦ hB).1 w' s'), (k v B' H' hΦ hB).2 _ w' (f.put_none v) b' s'⟩)
theorem Dstep.oT {i d j t : Nat} {u : Bool} {o : Oper} {op : Op} {ty : TypeId} {pos : String} {af : Array Edge} {Φ : Value → Frag → HP → Prop} (hi : ops[i]? = some ⟨some d, op, ty, pos, af, some (j, u)⟩) (hj : ops[j]? = some o) (ho : o.dst = some t) (hv : lk ρ t = some (.bool u)) (h : Ox e ds op ty ρ B H Φ) (hd : Nat.blt d e.nt = true)
    (k : ∀ v B' H', Φ v B' H' → B.le B' → JOk e B' H' J i ∧ Dx e ds ops Q J fuel (listed.setIfInBounds i true) ((d, v) :: ρ) B' H') : Dstep e ds ops Q J fuel listed ρ B H i := by
  intro a w f b s
  unfold wpOpIn
  simp only [hi]
  rw [if_pos (by simp [Region.wanted, yielded_of (e := e) f hj ho hv])]
  exact Oper.wpIn_FW h.1 (h.2 a w _ _ _ _ _ _ f b s fun v B' H' w' hΦ hB b' s' => ⟨.inr ((k v B' H' hΦ hB).1 w' s'), (k v B' H' hΦ hB).2 _ w' (f.put hd v) b' s'⟩)

/-- A case is made of a truth in a slot. -/
theorem Xx.ifD {t : Nat} {p : Prop} [Decidable p] (hv : lk ρ t = some (.bool (decide p))) (h1 : p → Xx e ds K ((t, .bool true) :: ρ) B H) (h2 : ¬ p → Xx e ds K ((t, .bool false) :: ρ) B H) : Xx e ds K ρ B H := by
  by_cases h : p
  · refine (h1 h).sub (Sub.cons ?_ (Sub.refl ρ)); rw [hv]; simp [h]
  · refine (h2 h).sub (Sub.cons ?_ (Sub.refl ρ)); rw [hv]; simp [h]
theorem Xx.ifN {t : Nat} {p : Prop} [Decidable p] (hv : lk ρ t = some (.bool (!decide p))) (h1 : ¬ p → Xx e ds K ((t, .bool true) :: ρ) B H) (h2 : p → Xx e ds K ((t, .bool false) :: ρ) B H) : Xx e ds K ρ B H := by
  by_cases h : p
  · refine (h2 h).sub (Sub.cons ?_ (Sub.refl ρ)); rw [hv]; simp [h]
  · refine (h1 h).sub (Sub.cons ?_ (Sub.refl ρ)); rw [hv]; simp [h]
theorem Xx.ifB {t : Nat} {b : Bool} (hv : lk ρ t = some (.bool b)) (h1 : b = true → Xx e ds K ((t, .bool true) :: ρ) B H) (h2 : b = false → Xx e ds K ((t, .bool false) :: ρ) B H) : Xx e ds K ρ B H := by
  cases b with
  | true => exact (h1 rfl).sub (Sub.cons hv (Sub.refl ρ))
  | false => exact (h2 rfl).sub (Sub.cons hv (Sub.refl ρ))
end
end Go.SL

/-
  Contracts of functions that own nothing; loops that keep slots; struct literals.
-/
namespace Go.SL
open Go.RowKit
set_option linter.unusedSimpArgs false
set_option linter.unusedVariables false

/-- A function that owns nothing and hands back nothing owned: what is only read may grow. -/
def CtB (P : Program) (f : FuncId) (args : List Value) (B : Frag) (Φ : Value → Frag → Prop) : Prop :=
  (∀ args w, (callFunc f args).run P w = .ok (.enter f args) w) ∧
  ∀ (N0 : Nat) (w : World) (R : HP), St N0 B R w → Calls P f args.toArray w fun x w' => ∃ v B', x = .returned v ∧ Φ v B' ∧ B.le B' ∧ Below N0 w w' ∧ St N0 B' R w'
def FinB (N0 : Nat) (w0 : World) (R : HP) (B : Frag) (Φ : Value → Frag → Prop) (x : Ending) (w' : World) : Prop :=
  ∃ v B', x = .returned v ∧ Φ v B' ∧ B.le B' ∧ Below N0 w0 w' ∧ St N0 B' R w'
/-- One that hands back v, whatever the state. -/
abbrev CtP (P : Program) (f : FuncId) (args : List Value) (B : Frag) (v : Value) : Prop := CtB P f args B fun v' B' => v' = v ∧ B' = B

section
variable {e : Env} {ds : List Deferred} {Q : Exit → Act → World → Prop} {ρ ρ' : Sl} {B B' B0 : Frag} {H H' R : HP} {K : Act → World → Prop} {P : Program}

theorem CtB.ct {f : FuncId} {args : List Value} {Φ : Value → Frag → Prop} (h : CtB P f args B Φ) : Ct P f args B 1 (fun v B' H' => Φ v B' ∧ H' = 1) :=
  ⟨h.1, fun N0 w R s => (h.2 N0 w R (by rw [← one_star R]; exact s)).mono fun x w' ⟨v, B', h1, h2, h3, h4, h5⟩ => ⟨v, B', 1, h1, ⟨h2, rfl⟩, h3, h4, by rw [one_star]; exact h5⟩⟩
theorem CtB.of_ct {f : FuncId} {args : List Value} {Φ : Value → Frag → Prop} (h : Ct P f args B 1 (fun v B' H' => Φ v B' ∧ H' = 1)) : CtB P f args B Φ :=
  ⟨h.1, fun N0 w R s => (h.2 N0 w R (by rw [one_star]; exact s)).mono fun x w' ⟨v, B', H', h1, ⟨h2, h6⟩, h3, h4, h5⟩ => ⟨v, B', h1, h2, h3, h4, by subst h6; rw [one_star] at h5; exact h5⟩⟩
theorem CtB.mono {f : FuncId} {args : List Value} {Φ Φ' : Value → Frag → Prop} (h : CtB P f args B Φ) (hm : ∀ v B', Φ v B' → Φ' v B') : CtB P f args B Φ' :=
  ⟨h.1, fun N0 w R s => (h.2 N0 w R s).mono fun _ _ ⟨v, B', a, b, c⟩ => ⟨v, B', a, hm _ _ b, c⟩⟩

theorem CtB.of_body {f : FuncId} {fn : Func} {c : Code} {args : List Value} {Φ : Value → Frag → Prop} {nt : Nat}
    (hf : P.funcs[f]? = some fn) (hb : fn.body = some c) (hnt : fn.ntmps = nt) (hn : (fn.name == "runtime.NumGoroutine") = false) (hs : Nat.ble args.length nt = true)
    (h : ∀ (N0 : Nat) (w0 : World) (R : HP), Cx ⟨P, none, N0, w0, nt⟩ [] c (bodyPost P fn (FinB N0 w0 R B Φ)) (mk0 0 args) B R) : CtB P f args B Φ :=
  ⟨enters_of hf hb hn, fun N0 w R s => by
    refine (callsIn_FW (r := none) (n := 0)).1 (callsIn_of_wp hf hb trivial ?_)
    rw [hnt]
    exact h N0 w R _ w (Fr.start hs) (Below.refl _ _) s⟩
theorem CtB.of_bodyM {f : FuncId} {fn : Func} {c : Code} {args : List Value} {Φ : Value → Frag → Prop} {nt : Nat}
    (hf : P.funcs[f]? = some fn) (hb : fn.body = some c) (hnt : fn.ntmps = nt) (hn : (fn.name == "runtime.NumGoroutine") = false) (hs : Nat.ble args.length nt = true)
    (h : ∀ (N0 : Nat) (w0 : World) (R : HP), Cx ⟨P, none, N0, w0, nt⟩ [] c (bodyPostM (FW none) 0 P fn (FinB N0 w0 R B Φ)) (mk0 0 args) B R) : CtB P f args B Φ :=
  ⟨enters_of hf hb hn, fun N0 w R s => by
    refine (callsIn_FW (r := none) (n := 0)).1 (callsIn_of_wp_marks hf hb trivial ?_)
    rw [hnt]
    exact h N0 w R _ w (Fr.start hs) (Below.refl _ _) s⟩

/-- A result: out of a slot, or out of a cell. -/
def rv (ρ : Sl) : ResultVar → Option Value
  | .tmp t => lk ρ t
  | .cell _ _ => none
def rvs (ρ : Sl) : List ResultVar → Option (List Value)
  | [] => some []
  | x :: xs => match rv ρ x, rvs ρ xs with
    | some v, some vs => some (v :: vs)
    | _, _ => none

theorem Xx.rB {fn : Func} {N0 nt : Nat} {w0 : World} {r : Option Nat} {Φ : Value → Frag → Prop} {v : Value} (hr : ∀ a w, Fr ρ nt [] a → St N0 B H w → (results fn a.tmps).run P w = .ok v w)
    (hΦ : Φ v B) (hB : B0.le B) (hH : H = R) : Xx ⟨P, r, N0, w0, nt⟩ [] (bodyPost P fn (FinB N0 w0 R B0 Φ) .ret) ρ B H := fun a w f b s =>
  ⟨f.defers, v, hr a w f s, v, B, rfl, hΦ, hB, b, hH ▸ s⟩
theorem Xx.rB1 {fn : Func} {N0 nt : Nat} {w0 : World} {r : Option Nat} {Φ : Value → Frag → Prop} {t : Tmp} {v : Value} (hr : fn.results = #[.tmp t]) (hv : lk ρ t = some v)
    (hΦ : Φ v B) (hB : B0.le B) (hH : H = R) : Xx ⟨P, r, N0, w0, nt⟩ [] (bodyPost P fn (FinB N0 w0 R B0 Φ) .ret) ρ B H :=
  Xx.rB (fun a w f _ => by rw [results_tmp hr]; have := f.get t v hv; simp [this]) hΦ hB hH
theorem Xx.rB2 {fn : Func} {N0 nt : Nat} {w0 : World} {r : Option Nat} {Φ : Value → Frag → Prop} {t u : Tmp} {v x : Value} (hr : fn.results = #[.tmp t, .tmp u]) (hv : lk ρ t = some v) (hx : lk ρ u = some x)
    (hΦ : Φ (.tuple #[v, x]) B) (hB : B0.le B) (hH : H = R) : Xx ⟨P, r, N0, w0, nt⟩ [] (bodyPost P fn (FinB N0 w0 R B0 Φ) .ret) ρ B H :=
  Xx.rB (fun a w f _ => by rw [results_tmp2 hr]; have h1 := f.get t v hv; have h2 := f.get u x hx; simp [h1, h2]) hΦ hB hH
theorem Xx.rB0 {fn : Func} {N0 nt : Nat} {w0 : World} {r : Option Nat} {Φ : Value → Frag → Prop} (hr : fn.results = #[])
    (hΦ : Φ (.tuple #[]) B) (hB : B0.le B) (hH : H = R) : Xx ⟨P, r, N0, w0, nt⟩ [] (bodyPost P fn (FinB N0 w0 R B0 Φ) .ret) ρ B H :=
  Xx.rB (fun a w f _ => results_none hr _ _ _) hΦ hB hH
/-- At a function's end: a first result in a cell of its own (many cells), a second in a slot. -/
theorem Xx.rBc {fn : Func} {N0 nt size : Nat} {w0 : World} {r : Option Nat} {Φ : Value → Frag → Prop} {t u : Tmp} {ty : TypeId} {x : Value} {d : TypeDesc} {vs : List Value} {b : Nat} {et : TypeId}
    (hr : fn.results = #[.cell t ty, .tmp u]) (ht : P.underlying ty = some d) (hd : aggB d = true) (hi : (P.info? ty).map (·.size) = some size) (hv : lk ρ t = some (.pointer (some ⟨b, 0, none⟩))) [hp : PickB H b (.cells vs.toArray et (0, 0)) R] (hl : vs.length = size) (hx : lk ρ u = some x)
    (hΦ : Φ (.tuple #[.agg vs.toArray, x]) B) (hB : B0.le B) : Xx ⟨P, r, N0, w0, nt⟩ [] (bodyPost P fn (FinB N0 w0 R B0 Φ) .ret) ρ B H := fun a w f bl s => by
  have s' : St N0 B (blk b (.cells vs.toArray et (0, 0)) * R) w := hp.eq ▸ s
  have hl := run_loadVar_row (P := P) w b et ty vs.toArray (0, 0) d s'.blk.1 ht (by cases d <;> simp_all [aggB]) (by rw [hi]; simp [hl])
  have h1 := f.get t _ hv
  have h2 := f.get u _ hx
  refine ⟨f.defers, .tuple #[.agg vs.toArray, x], ?_, _, B, rfl, hΦ, hB, bl, s'.drop⟩
  simp [results, hr, h1, h2, Sem.run_bind, asAddr, hl]

/-- A call of a function that owns nothing. -/
theorem Ox.cb {x : Operand} {xs : Array Operand} {ts : Array TypeId} {ty : TypeId} {fi : FuncId} {first caps : Array Value} {args vs : List Value} {Φ : Value → Frag → Prop}
    (hf : ev ρ x = some (.func (.func fi) first caps)) (hx : evl ρ xs.toList = some vs) (ha : first.toList ++ vs ++ caps.toList = args) (hc : CtB e.P fi args B Φ) :
    Ox e ds (.call { callee := .value x, args := xs, argTypes := ts }) ty ρ B H (fun v B' H' => H' = H ∧ Φ v B') :=
  ⟨fun _ h => (by cases h), fun a w dst pos after guard K Q f b s k => (Ox.call (ds := ds) hf hx ha hc.ct (one_star H).symm).2 a w dst pos after guard K Q f b s
    fun v B' H' w' ⟨H1, h1, h2, h3⟩ hB hb hs => k v B' H' w' ⟨by rw [h1, h3, one_star], h2⟩ hB hb hs⟩

variable {ops : Array Oper} {rest : List Oper}
theorem Lx.cb {x : Operand} {xs : Array Operand} {ts : Array TypeId} {ty : TypeId} {pos : String} {af : Array Edge} {d : Nat} {fi : FuncId} {first caps : Array Value} {args vs : List Value} {Φ : Value → Frag → Prop}
    (hf : ev ρ x = some (.func (.func fi) first caps)) (hx : evl ρ xs.toList = some vs) (ha : first.toList ++ vs ++ caps.toList = args) (hc : CtB e.P fi args B Φ) (hd : Nat.blt d e.nt = true)
    (k : ∀ v B', Φ v B' → B.le B' → Lx e ds ops Q rest ((d, v) :: ρ) B' H) : Lx e ds ops Q (⟨some d, .call { callee := .value x, args := xs, argTypes := ts }, ty, pos, af, none⟩ :: rest) ρ B H :=
  Lx.o (Ox.cb hf hx ha hc) hd fun v B' H' ⟨e1, hΦ⟩ hB => by subst e1; exact k v B' hΦ hB
theorem Lx.cp {x : Operand} {xs : Array Operand} {ts : Array TypeId} {ty : TypeId} {pos : String} {af : Array Edge} {d : Nat} {fi : FuncId} {first caps : Array Value} {args vs : List Value} {v : Value}
    (hf : ev ρ x = some (.func (.func fi) first caps)) (hx : evl ρ xs.toList = some vs) (ha : first.toList ++ vs ++ caps.toList = args) (hc : CtP e.P fi args B v) (hd : Nat.blt d e.nt = true)
    (k : Lx e ds ops Q rest ((d, v) :: ρ) B H) : Lx e ds ops Q (⟨some d, .call { callee := .value x, args := xs, argTypes := ts }, ty, pos, af, none⟩ :: rest) ρ B H :=
  Lx.cb hf hx ha hc hd fun v' B' ⟨e1, e2⟩ hB => by subst e1; subst e2; exact k

/-- A loop; σ: the slots that it leaves alone. -/
theorem Cx.loopK {c : Code} {σ : Sl} (hσ : Sub ρ σ) (I : Nat → Sl → Frag → HP → Prop) {m : Nat} (h0 : I m ρ' B H) (hs : Sub ρ (ρ' ++ σ))
    (round : ∀ m ρ' B H, I m ρ' B H → Cx e ds c (Exit.then (LK e ds (fun m ρ B H => ∃ ρ', ρ = ρ' ++ σ ∧ I m ρ' B H) m) Q) (ρ' ++ σ) B H) : Cx e ds (.loop c) Q ρ B H :=
  Cx.loop (fun m ρ B H => ∃ ρ', ρ = ρ' ++ σ ∧ I m ρ' B H) ⟨ρ', rfl, h0⟩ hs fun m ρ B H ⟨ρ', h1, h2⟩ => by subst h1; exact round m ρ' B H h2
theorem Xx.againK {σ : Sl} {I : Nat → Sl → Frag → HP → Prop} {m m' : Nat} (hi : I m' ρ' B H) (hm : m' < m) (hs : Sub ρ (ρ' ++ σ)) :
    Xx e ds (LK e ds (fun m ρ B H => ∃ ρ', ρ = ρ' ++ σ ∧ I m ρ' B H) m) ρ B H := Xx.again (I := fun m ρ B H => ∃ ρ', ρ = ρ' ++ σ ∧ I m ρ' B H) ⟨ρ', rfl, hi⟩ hm hs
/-- A cut; σ: the slots that are kept. -/
theorem Cx.cutK {x y : Code} {ds' : List Deferred} {σ : Sl} (hσ : Sub ρ σ) (M : Sl → Frag → HP → Prop) (hx : Cx e ds x (Exit.then (MK e ds' (fun ρ B H => ∃ ρ', ρ = ρ' ++ σ ∧ M ρ' B H)) Q) ρ B H) (hy : ∀ ρ' B H, M ρ' B H → Cx e ds' y Q (ρ' ++ σ) B H) : Cx e ds (.seq x y) Q ρ B H :=
  Cx.cut _ hx fun ρ B H ⟨ρ', h1, h2⟩ => by subst h1; exact hy ρ' B H h2
theorem Xx.mkK {σ : Sl} {M : Sl → Frag → HP → Prop} (hm : M ρ' B H) (hs : Sub ρ (ρ' ++ σ)) : Xx e ds (MK e ds (fun ρ B H => ∃ ρ', ρ = ρ' ++ σ ∧ M ρ' B H)) ρ B H := Xx.mk (M := fun ρ B H => ∃ ρ', ρ = ρ' ++ σ ∧ M ρ' B H) ⟨ρ', rfl, hm⟩ hs

/-- The places of a struct's fields. -/
def PL (P : Program) (t : TypeId) (ps : List (Nat × Nat)) : Prop := ∃ fs, P.underlying t = some (.struct fs) ∧ (fs.mapM fun f => do pure (f.offset, ← sizeOf f.type) : Sem (Array (Nat × Nat))).run P = fun w => .ok ps.toArray w
theorem PL.of {t : TypeId} {ps : List (Nat × Nat)} {fs : Array Field} (h1 : P.underlying t = some (.struct fs)) (h2 : (fs.toList.map fun f => (f.offset, (P.info? f.type).map (·.size))) = ps.map fun p => (p.1, some p.2)) : PL P t ps := by
  refine ⟨fs, h1, ?_⟩
  funext w
  obtain ⟨l⟩ := fs
  simp only [] at h2
  have key : ∀ (l : List Field) (ps : List (Nat × Nat)), (l.map fun f => (f.offset, (P.info? f.type).map (·.size))) = ps.map (fun p => (p.1, some p.2)) →
      (l.mapM fun f => (do pure (f.offset, ← sizeOf f.type) : Sem (Nat × Nat))).run P w = .ok ps w := by
    intro l
    induction l with
    | nil => intro ps h; simp at h; subst h; simp [Sem.run_pure]
    | cons f l ih =>
      intro ps h
      cases ps with
      | nil => simp at h
      | cons p ps =>
        simp only [List.map_cons, List.cons.injEq, Prod.mk.injEq] at h
        obtain ⟨⟨h3, h4⟩, h5⟩ := h
        cases hq : P.info? f.type with
        | none => rw [hq] at h4; simp at h4
        | some i =>
          rw [hq] at h4
          simp at h4
          have h6 := ih ps h5
          have h7 : (sizeOf f.type).run P w = .ok p.2 w := by simp [sizeOf, typeInfo, hq, h4]
          simp only [List.mapM_cons, Sem.run_bind, h7, Result.andThen, Sem.run_pure, h6, h3]
  have := key l ps (by simpa using h2)
  rw [Array.mapM_eq_mapM_toList]
  rw [map_eq_pure_bind]
  simp only [Sem.run_bind, this, Result.andThen, Sem.run_pure]

def fillL (ps : List (Nat × Nat)) : List Value → List (Nat × Value) → Option (List Value)
  | cs, [] => some cs
  | cs, (i, v) :: rest => match ps[i]? with
    | some (off, size) => bif Nat.beq v.cells.size size && Nat.ble (off + size) cs.length then fillL ps (cs.take off ++ v.cells.toList ++ cs.drop (off + size)) rest else none
    | none => none
theorem fillL_fill {ps : List (Nat × Nat)} : ∀ {parts : List (Nat × Value)} {cs out : List Value}, fillL ps cs parts = some out → Instr.fill (ps.toArray[·]?) cs.toArray parts = some out.toArray := by
  intro parts
  induction parts with
  | nil => intro cs out h; simp [fillL] at h; simp [Instr.fill, h]
  | cons p parts ih =>
    obtain ⟨i, v⟩ := p
    intro cs out h
    simp only [fillL] at h
    cases hq : ps[i]? with
    | none => rw [hq] at h; simp at h
    | some q =>
      obtain ⟨off, size⟩ := q
      rw [hq] at h
      simp only [cond_eq_ite, Bool.and_eq_true] at h
      split at h
      · rename_i hc
        have h1 := Nat.eq_of_beq_eq_true hc.1
        have h2 : off + size ≤ cs.length := by simpa using hc.2
        have h3 : ps.toArray[i]? = some (off, size) := by simpa using hq
        simp only [Instr.fill, h3]
        rw [if_neg (by simp [h1]; omega)]
        have key : (v.cells.zipIdx.foldl (fun cs x => cs.setIfInBounds (off + x.2) x.1) cs.toArray) = (cs.take off ++ v.cells.toList ++ cs.drop (off + size)).toArray := by
          rw [← Array.foldl_toList, Array.toList_zipIdx]
          have := fold_set off v.cells.toList 0 cs (by simp; omega)
          rw [this]
          simp [h1]
        rw [key]
        exact ih h
      · cases h
def evps (ρ : Sl) : List (Nat × Operand) → Option (List (Nat × Value))
  | [] => some []
  | (i, x) :: xs => match ev ρ x, evps ρ xs with
    | some v, some vs => some ((i, v) :: vs)
    | _, _ => none
theorem evps_map {f : Operand → Value} (h : Ev ρ f) : ∀ {xs : List (Nat × Operand)} {vs : List (Nat × Value)}, evps ρ xs = some vs → xs.map (fun (i, x) => (i, f x)) = vs := by
  intro xs
  induction xs with
  | nil => intro vs hv; simp [evps] at hv; simp [← hv]
  | cons a xs ih =>
    obtain ⟨i, x⟩ := a
    intro vs hv
    simp only [evps] at hv
    split at hv
    · rename_i v us hx hs
      injection hv with hv
      subst hv
      simp [h x v hx, ih hs]
    · simp at hv
/-- A struct literal. -/
theorem bld {S : World → Prop} {t ty : TypeId} {parts : Array (Nat × Operand)} {vs : List (Nat × Value)} {zs cs : List Value} {ps : List (Nat × Nat)} {size bytes : Nat} (hz : TI P t zs size bytes) (hp : PL P t ps) (hv : evps ρ parts.toList = some vs) (hfn : (fillL ps zs vs).bind (frc · some) = some cs) :
    Yx P (.build t parts) ty ρ S (.agg cs.toArray) := .of (fun _ h => by cases h) fun f w _ _ _ _ he _ => by
  obtain ⟨i, zv, z1, z2, z3, z4, z5, z6, z7⟩ := hz
  obtain ⟨fs, p1, p2⟩ := hp
  have hf : fillL ps zs vs = some cs := by
    cases hq : fillL ps zs vs with
    | none => rw [hq] at hfn; simp at hfn
    | some c => rw [hq] at hfn; rw [frc_eq hfn]
  have hpm : (parts.map fun (i, x) => (i, f x)) = vs.toArray := by
    apply Array.toList_inj.1
    simp [evps_map he hv]
  have hfl := fillL_fill hf
  have hpw := congrFun p2 w
  have hb : (Instr.build t vs.toArray).run P w = .ok (.agg cs.toArray) w := by
    simp only [Instr.build, Sem.run_bind, zeroValue, typeInfo, run_program, z1, Sem.run_pure, Result.andThen, z2, run_underlying p1, hpw, z3, hfl]
  simp only [execOp, hpm, Sem.run_bind, hb, Result.andThen, Sem.run_pure]
end
end Go.SL

/-
  Ranges over functions, over the states of the small separation logic: a yield's contract, an iterator's contract, the statement, the function's end.
-/
namespace Go.SL
open Go.RowKit
set_option linter.unusedSimpArgs false
set_option linter.unusedVariables false

/-- A yield of loop l: called with these, owning pre beside whatever R, it says yes or no. -/
def Yd (P : Program) (l : Nat) (args : List Value) (B : Frag) (pre : HP) (Φ : Bool → Frag → HP → Prop) : Prop :=
  ∀ (N0 : Nat) (w : World) (R : HP), St N0 B (pre * R) w → ∃ fn tmps assign body, (Instr.yield l args.toArray).run P w = .ok (.round l fn tmps assign body) w ∧
    RoundIn (FW none) 0 P l fn tmps assign body w fun x w' => ∃ t B' H', x = .returned (.bool t) ∧ Φ t B' H' ∧ B.le B' ∧ Below N0 w w' ∧ St N0 B' (H' * R) w'

/-- An iterator's contract: it hands xs to yield, one by one, till yield says no; own is its own while it runs. -/
def It (P : Program) (gf : FuncId) (caps : List Value) {α : Type} (enc : α → List Value) (xs : List α) (B : Frag) (own : HP) : Prop :=
  (∀ args w, (callFunc gf args).run P w = .ok (.enter gf args) w) ∧
  ∀ (l : Nat) (J Jx : List α → Frag → HP → Prop),
    (∀ pre x post B1 H1, xs = pre ++ x :: post → B.le B1 → J pre B1 H1 → Yd P l (enc x) B1 H1 fun t B' H' => (t = true ∧ J (pre ++ [x]) B' H') ∨ (t = false ∧ Jx (pre ++ [x]) B' H')) →
    ∀ B1 H1, B.le B1 → J [] B1 H1 → Ct P gf (.func (.yield l) #[] #[] :: caps) B1 (own * H1) fun v B' H' => ∃ H2, H' = own * H2 ∧ (J xs B' H2 ∨ ∃ pre post, xs = pre ++ post ∧ Jx pre B' H2)

section
variable {e : Env} {ds : List Deferred} {Q : Exit → Act → World → Prop} {ρ ρ' : Sl} {B B' B0 B1 : Frag} {H H' R : HP} {K : Act → World → Prop} {P : Program}

theorem Ox.yield {x : Operand} {xs : Array Operand} {ts : Array TypeId} {ty : TypeId} {l : Nat} {vs : List Value} {pre R : HP} {Φ : Bool → Frag → HP → Prop}
    (hf : ev ρ x = some (.func (.yield l) #[] #[])) (hx : evl ρ xs.toList = some vs) (hy : Yd e.P l vs B pre Φ) (hH : H = pre * R) :
    Ox e ds (.call { callee := .value x, args := xs, argTypes := ts }) ty ρ B H (fun v B' H' => ∃ t H1, v = .bool t ∧ H' = H1 * R ∧ Φ t B' H1) :=
  ⟨fun _ h => (by cases h), fun a w dst pos after guard K Q f b s k => by
    have hfv := f.ev _ _ hf
    have hxv : xs.map a.eval = vs.toArray := by
      have := f.ev.map hx
      apply Array.toList_inj.1
      simp [this]
    obtain ⟨fn, tmps, assign, body, hr, hR⟩ := hy e.N0 w R (hH ▸ s)
    have hrun : (execOp a.eval ⟨dst, .call { callee := .value x, args := xs, argTypes := ts }, ty, pos, after, guard⟩).run e.P w = .ok (.round l fn tmps assign body) w := by
      simp only [execOp, resolve, hfv, Deferred.ofValue, hxv, Sem.run_bind, Sem.run_pure, Result.andThen, invoke]
      simpa using hr
    rw [hrun]
    refine ⟨fun h => by simp [FW] at h, RoundIn.mono (F := FW e.r) hR ?_⟩
    rintro y w' ⟨t, B', H', rfl, hΦ, hB, b', s'⟩
    exact k (.bool t) B' _ w' ⟨t, H', rfl, rfl, hΦ⟩ hB (b.trans b') s'⟩

variable {ops : Array Oper} {rest : List Oper}
theorem Lx.yield {x : Operand} {xs : Array Operand} {ts : Array TypeId} {ty : TypeId} {pos : String} {af : Array Edge} {d l : Nat} {vs : List Value} {pre R : HP} {Φ : Bool → Frag → HP → Prop}
    (hf : ev ρ x = some (.func (.yield l) #[] #[])) (hx : evl ρ xs.toList = some vs) (hy : Yd e.P l vs B pre Φ) (hH : H = pre * R) (hd : Nat.blt d e.nt = true)
    (k : ∀ t B' H', Φ t B' H' → B.le B' → Lx e ds ops Q rest ((d, .bool t) :: ρ) B' (H' * R)) : Lx e ds ops Q (⟨some d, .call { callee := .value x, args := xs, argTypes := ts }, ty, pos, af, none⟩ :: rest) ρ B H :=
  Lx.o (Ox.yield hf hx hy hH) hd fun v B' H' ⟨t, H1, e1, e2, hΦ⟩ hB => by subst e1; subst e2; exact k t B' H1 hΦ hB

/-- The slots of a round's begin. -/
def asgn : List Tmp → List Value → Sl → Sl
  | p :: ps, v :: vs, ρ => asgn ps vs ((p, v) :: ρ)
  | _, _, ρ => ρ
theorem asgn_fr {nt : Nat} : ∀ (ps : List Tmp) (vs : List Value) (ρ : Sl) (t : Array Value), ps.all (fun p => Nat.blt p nt) = true → Fr ρ nt [] ⟨t, []⟩ →
    Fr (asgn ps vs ρ) nt [] ⟨(ps.zip vs).foldl (fun t (x : Tmp × Value) => t.setIfInBounds x.1 x.2) t, []⟩ := by
  intro ps
  induction ps with
  | nil => intro vs ρ t _ h; simpa [asgn] using h
  | cons p ps ih =>
    intro vs ρ t hp h
    cases vs with
    | nil => simpa [asgn] using h
    | cons v vs =>
      simp only [List.all_cons, Bool.and_eq_true] at hp
      simp only [asgn, List.zip_cons_cons, List.foldl_cons]
      exact ih vs _ _ hp.2 (h.put hp.1 v)

/-- What is asked at a round's end. -/
def RQ {α : Type} (N0 : Nat) (w0 : World) (B1 : Frag) (J : List α → Frag → HP → Prop) (Jx : Code → List α → Frag → HP → Prop) (pre : List α) (F : HP) : Exit → Act → World → Prop
  | .normal, _, w => ∃ B' H', J pre B' H' ∧ B1.le B' ∧ Below N0 w0 w ∧ St N0 B' (H' * F) w
  | .ret, _, w => ∃ B' H', Jx .ret pre B' H' ∧ B1.le B' ∧ Below N0 w0 w ∧ St N0 B' (H' * F) w
  | .exit id, _, w => ∃ B' H', Jx (.exit id) pre B' H' ∧ B1.le B' ∧ Below N0 w0 w ∧ St N0 B' (H' * F) w
  | _, _, _ => False
variable {α : Type} {N0 nt : Nat} {w0 : World} {r : Option Nat} {J : List α → Frag → HP → Prop} {Jx : Code → List α → Frag → HP → Prop} {pre : List α} {F : HP}
theorem Xx.rqn (hJ : J pre B H') (hB : B1.le B) (hH : H = H' * F) : Xx ⟨P, r, N0, w0, nt⟩ ds (RQ N0 w0 B1 J Jx pre F .normal) ρ B H := fun _ _ _ b s => ⟨B, H', hJ, hB, b, hH ▸ s⟩
theorem Xx.rqr (hJ : Jx .ret pre B H') (hB : B1.le B) (hH : H = H' * F) : Xx ⟨P, r, N0, w0, nt⟩ ds (RQ N0 w0 B1 J Jx pre F .ret) ρ B H := fun _ _ _ b s => ⟨B, H', hJ, hB, b, hH ▸ s⟩
theorem Xx.rqe {id : Nat} (hJ : Jx (.exit id) pre B H') (hB : B1.le B) (hH : H = H' * F) : Xx ⟨P, r, N0, w0, nt⟩ ds (RQ N0 w0 B1 J Jx pre F (.exit id)) ρ B H := fun _ _ _ b s => ⟨B, H', hJ, hB, b, hH ▸ s⟩

theorem St.putObj {o o' : Obj} {b : Nat} {w : World} (h : St N0 B (SL.blk b o * R) w) : St N0 B (SL.blk b o' * R) (w.putObj b o') ∧ Below N0 w (w.putObj b o') := by
  have hlt : b < w.heap.size := (Array.getElem?_eq_some_iff.1 h.blk.1).1
  exact ⟨h.put (World.putObj_heap_same hlt) (fun k hk => World.putObj_heap_other hk) (by simp), ⟨rfl, rfl, rfl, by simp, fun k hk => World.putObj_heap_other (by have := h.blk.2.2; omega)⟩⟩

abbrev mkRec (fn : FuncId) (tmps : Array Value) (ps : Array Tmp) (assign body : Code) (D : Nat) (st : LoopState) (pe : Option Code) : Loop :=
  { state := st, pending := pe, fn, tmps, params := ps, assign, body, defers := D }
abbrev dfr : Obj := .deferred (some [])
abbrev mark (D : Nat) : Deferred := { target := .collected D, args := #[] }

/-- A range over a function, outside of every other one. -/
theorem Cx.rangeF {g : Operand} {ps : Array Tmp} {assign body : Code} {gf : FuncId} {caps : List Value} {enc : α → List Value} {xs : List α} {own H1 R : HP}
    (hr : e.r = none) (hg : ev ρ g = some (.func (.func gf) #[] caps.toArray)) (hIt : It e.P gf caps enc xs B own) (hH : H = own * (H1 * R)) (hnt : ps.toList.all (fun p => Nat.blt p e.nt) = true) (hps : ∀ x, (enc x).length = ps.size)
    (J : List α → Frag → HP → Prop) (Jx : Code → List α → Frag → HP → Prop) (AS : List α → α → Frag → Sl → Frag → HP → Prop) (h0 : J [] B H1)
    (hassign : ∀ (l N0 : Nat) (w0 : World) pre x post B1 H1 (F : HP) (K : Act → World → Prop), xs = pre ++ x :: post → B.le B1 → J pre B1 H1 →
      (∀ ρ' B' H', AS pre x B1 ρ' B' H' → B1.le B' → Xx ⟨e.P, some l, N0, w0, e.nt⟩ [] K ρ' B' (H' * F)) →
      Cx ⟨e.P, some l, N0, w0, e.nt⟩ [] assign (Exit.then K (fun _ _ _ => False)) (asgn ps.toList (enc x) ρ) B1 (H1 * F))
    (hbody : ∀ (l N0 : Nat) (w0 : World) pre x post B1 (F : HP) ρ' B' H', xs = pre ++ x :: post → B.le B1 → B1.le B' → AS pre x B1 ρ' B' H' → Cx ⟨e.P, some l, N0, w0, e.nt⟩ [] body (RQ N0 w0 B1 J Jx (pre ++ [x]) F) ρ' B' (H' * F))
    (hdone : ∀ D B' H', B.le B' → J xs B' H' → Xx e (mark D :: ds) (Q .normal) ρ B' (H' * (blk D dfr * (own * R))))
    (hstop : ∀ D c pre post B' H', xs = pre ++ post → B.le B' → Jx c pre B' H' → Cx e (mark D :: ds) c Q ρ B' (H' * (blk D dfr * (own * R)))) :
    Cx e ds (.rangeFunc g ps assign body) Q ρ B H := by
  intro a w f b s
  refine wpIn_rangeFunc ?_
  intro fn _
  have hgv := f.ev _ _ hg
  have s1 := (s.alloc dfr).alloc (.loop (mkRec fn a.tmps ps assign body w.heap.size .ready none))
  have b1 : Below e.N0 e.w0 ((w.alloc dfr).alloc (.loop (mkRec fn a.tmps ps assign body w.heap.size .ready none))) := (b.alloc s.sz _).alloc (s.alloc dfr).sz _
  rw [World.size_alloc, hH] at s1
  -- the loop's record l, the block D
  generalize hl : w.heap.size + 1 = l at *
  generalize hD : w.heap.size = D at *
  generalize hw1 : (w.alloc dfr).alloc (.loop (mkRec fn a.tmps ps assign body D .ready none)) = w1 at *
  have s2 : St e.N0 B ((own * (H1 * (blk l (.loop (mkRec fn a.tmps ps assign body D .ready none)) * blk D dfr))) * R) w1 := by
    exact s1.of_eq (by ac_rfl)
  have heg := hIt.1 #[.func (.yield l) #[] #[], ] w1
  let J' : List α → Frag → HP → Prop := fun pre B' H' => ∃ H1, H' = H1 * (blk l (.loop (mkRec fn a.tmps ps assign body D .ready none)) * blk D dfr) ∧ J pre B' H1
  let Jx' : List α → Frag → HP → Prop := fun pre B' H' => ∃ c H1, H' = H1 * (blk l (.loop (mkRec fn a.tmps ps assign body D .done (some c))) * blk D dfr) ∧ Jx c pre B' H1
  have hct := hIt.2 l J' Jx' ?round B _ (Frag.le_refl _) ⟨H1, rfl, h0⟩
  case round =>
    rintro pre x post B1 _ hxs hB1 ⟨H2, rfl, hJ⟩ N0 wy Rf sy
    have hrl : wy.heap[l]? = some (.loop (mkRec fn a.tmps ps assign body D .ready none)) := by
      have : St N0 B1 (blk l (.loop (mkRec fn a.tmps ps assign body D .ready none)) * (H2 * (blk D dfr * Rf))) wy := sy.of_eq (by ac_rfl)
      exact this.blk.1
    have hy := run_yield (P := e.P) (args := (enc x).toArray) hrl (by simpa using hps x)
    refine ⟨fn, _, assign, body, hy, roundIn_of_wpIn trivial ?_⟩
    have hfr := asgn_fr (nt := e.nt) ps.toList (enc x) ρ a.tmps hnt ⟨f.size, f.get, rfl⟩
    have hzip : (ps.zip (enc x).toArray).foldl (fun tmps (t, a) => tmps.setIfInBounds t a) a.tmps = (ps.toList.zip (enc x)).foldl (fun t (y : Tmp × Value) => t.setIfInBounds y.1 y.2) a.tmps := by
      rw [← Array.foldl_toList, Array.toList_zip]
    show Code.wpIn (FW (some l)) 0 e.P assign _ { tmps := (ps.zip (enc x).toArray).foldl (fun tmps (t, a) => tmps.setIfInBounds t a) a.tmps, defers := [] } wy
    rw [hzip]
    refine hassign l N0 wy pre x post B1 H2 ((blk l (.loop (mkRec fn a.tmps ps assign body D .ready none)) * blk D dfr) * Rf) _ hxs hB1 hJ ?_ _ wy hfr (Below.refl _ _) (by rw [← star_assoc]; exact sy)
    intro ρ' B' H' hAS hB' a1 wa fa ba sa
    have sa' : St N0 B' (blk l (.loop (mkRec fn a.tmps ps assign body D .ready none)) * (H' * (blk D dfr * Rf))) wa := sa.of_eq (by ac_rfl)
    have hbr := run_beginRound (P := e.P) sa'.blk.1 rfl
    refine ⟨_, hbr, ?_⟩
    have sb := sa'.putObj (o' := .loop { mkRec fn a.tmps ps assign body D .ready none with state := .busy })
    have sb2 : St N0 B' (H' * ((blk l (.loop { mkRec fn a.tmps ps assign body D .ready none with state := .busy }) * blk D dfr) * Rf)) (wa.putObj l (.loop { mkRec fn a.tmps ps assign body D .ready none with state := .busy })) := sb.1.of_eq (by ac_rfl)
    refine wpIn_mono (hbody l N0 wy pre x post B1 _ ρ' B' H' hxs hB1 hB' hAS a1 _ fa (ba.trans sb.2) sb2) ?_
    have fin : ∀ (jump : Option Code) (w3 : World) B3 H3, St N0 B3 (H3 * ((blk l (.loop { mkRec fn a.tmps ps assign body D .ready none with state := .busy }) * blk D dfr) * Rf)) w3 →
        (Instr.endRound l jump).run e.P w3 = .ok (.bool jump.isNone) (w3.putObj l (.loop (mkRec fn a.tmps ps assign body D (if jump.isNone then .ready else .done) jump))) ∧ Below N0 w3 (w3.putObj l (.loop (mkRec fn a.tmps ps assign body D (if jump.isNone then .ready else .done) jump))) ∧
        St N0 B3 ((H3 * (blk l (.loop (mkRec fn a.tmps ps assign body D (if jump.isNone then .ready else .done) jump)) * blk D dfr)) * Rf) (w3.putObj l (.loop (mkRec fn a.tmps ps assign body D (if jump.isNone then .ready else .done) jump))) := by
      intro jump w3 B3 H3 s3
      have s3' : St N0 B3 (blk l (.loop { mkRec fn a.tmps ps assign body D .ready none with state := .busy }) * (H3 * (blk D dfr * Rf))) w3 := s3.of_eq (by ac_rfl)
      have h1 := run_endRound (P := e.P) jump s3'.blk.1
      have h2 := s3'.putObj (o' := .loop (mkRec fn a.tmps ps assign body D (if jump.isNone then .ready else .done) jump))
      refine ⟨h1, h2.2, h2.1.of_eq (by ac_rfl)⟩
    rintro x3 a3 w3 hp
    cases x3 with
    | normal =>
      obtain ⟨B3, H3, hJ3, hB3, b3, s3⟩ := hp
      obtain ⟨h1, h2, h3⟩ := fin none w3 B3 H3 s3
      exact ⟨_, _, h1, true, B3, _, rfl, .inl ⟨rfl, H3, rfl, hJ3⟩, hB3, b3.trans h2, h3⟩
    | ret =>
      obtain ⟨B3, H3, hJ3, hB3, b3, s3⟩ := hp
      obtain ⟨h1, h2, h3⟩ := fin (some .ret) w3 B3 H3 s3
      exact ⟨_, _, h1, false, B3, _, rfl, .inr ⟨rfl, _, H3, rfl, hJ3⟩, hB3, b3.trans h2, h3⟩
    | exit id =>
      obtain ⟨B3, H3, hJ3, hB3, b3, s3⟩ := hp
      obtain ⟨h1, h2, h3⟩ := fin (some (.exit id)) w3 B3 H3 s3
      exact ⟨_, _, h1, false, B3, _, rfl, .inr ⟨rfl, _, H3, rfl, hJ3⟩, hB3, b3.trans h2, h3⟩
    | goto t => exact hp.elim
    | panic ch => exact hp.elim
    | outgrown => exact hp.elim
  refine ⟨l, [mark D], w1, { target := .fn (.func gf) caps.toArray, args := #[.func (.yield l) #[] #[]] }, w1, gf, (.func (.yield l) #[] #[] :: caps).toArray, w1, ?_, ?_, fun _ _ => trivial, ?_, fun h => by simp [FW] at h, ?_⟩
  · have : (FW e.r).round = none := hr
    rw [this, ← hw1, ← hl]
    have := run_enterLoop_outer (P := e.P) (w := w) fn a.tmps ps assign body
    rw [hD] at this
    exact this
  · simp only [resolve, hgv, Deferred.ofValue]
    simp [Act.eval]
  · simp only [invoke]
    have := hIt.1 (#[.func (.yield l) #[] #[]] ++ caps.toArray) w1
    simpa using this
  · refine callsIn_FW.2 ((hct.2 e.N0 w1 R s2).mono ?_)
    rintro y w2 ⟨v, B', _, rfl, ⟨H2, rfl, (⟨H3, rfl, hJ⟩ | ⟨pre, post, hpp, c, H3, rfl, hJ⟩)⟩, hB', b2, s3⟩
    · have s3' : St e.N0 B' (blk l (.loop (mkRec fn a.tmps ps assign body D .ready none)) * (H3 * (blk D dfr * (own * R)))) w2 := s3.of_eq (by ac_rfl)
      have h1 := run_endLoop (P := e.P) s3'.blk.1 (by simp)
      have h2 := s3'.putObj (o' := .loop { mkRec fn a.tmps ps assign body D .ready none with state := .exhausted })
      refine ⟨none, _, h1, ?_⟩
      exact hdone D B' H3 hB' hJ _ _ ⟨f.size, f.get, by simp [f.defers]⟩ ((b1.trans b2).trans h2.2) h2.1.drop
    · have s3' : St e.N0 B' (blk l (.loop (mkRec fn a.tmps ps assign body D .done (some c))) * (H3 * (blk D dfr * (own * R)))) w2 := s3.of_eq (by ac_rfl)
      have h1 := run_endLoop (P := e.P) s3'.blk.1 (by simp)
      have h2 := s3'.putObj (o' := .loop { mkRec fn a.tmps ps assign body D .done (some c) with state := .exhausted })
      refine ⟨some c, _, h1, ?_⟩
      exact hstop D c pre post B' H3 hpp hB' hJ _ _ ⟨f.size, f.get, by simp [f.defers]⟩ ((b1.trans b2).trans h2.2) h2.1.drop

/-- The same; σ: slots that the rounds may look at. -/
theorem Cx.rangeK {g : Operand} {ps : Array Tmp} {assign body : Code} {gf : FuncId} {caps : List Value} {enc : α → List Value} {xs : List α} {own H1 R : HP} {σ : Sl} (hσ : Sub ρ σ)
    (hr : e.r = none) (hg : ev ρ g = some (.func (.func gf) #[] caps.toArray)) (hIt : It e.P gf caps enc xs B own) (hH : H = own * (H1 * R)) (hnt : ps.toList.all (fun p => Nat.blt p e.nt) = true) (hps : ∀ x, (enc x).length = ps.size)
    (J : List α → Frag → HP → Prop) (Jx : Code → List α → Frag → HP → Prop) (AS : List α → α → Frag → Sl → Frag → HP → Prop) (h0 : J [] B H1)
    (hassign : ∀ (l N0 : Nat) (w0 : World) pre x post B1 H1 (F : HP) (K : Act → World → Prop), xs = pre ++ x :: post → B.le B1 → J pre B1 H1 →
      (∀ ρ' B' H', AS pre x B1 ρ' B' H' → B1.le B' → Xx ⟨e.P, some l, N0, w0, e.nt⟩ [] K (ρ' ++ σ) B' (H' * F)) →
      Cx ⟨e.P, some l, N0, w0, e.nt⟩ [] assign (Exit.then K (fun _ _ _ => False)) (asgn ps.toList (enc x) ρ) B1 (H1 * F))
    (hbody : ∀ (l N0 : Nat) (w0 : World) pre x post B1 (F : HP) ρ' B' H', xs = pre ++ x :: post → B.le B1 → B1.le B' → AS pre x B1 ρ' B' H' → Cx ⟨e.P, some l, N0, w0, e.nt⟩ [] body (RQ N0 w0 B1 J Jx (pre ++ [x]) F) (ρ' ++ σ) B' (H' * F))
    (hdone : ∀ D B' H', B.le B' → J xs B' H' → Xx e (mark D :: ds) (Q .normal) ρ B' (H' * (blk D dfr * (own * R))))
    (hstop : ∀ D c pre post B' H', xs = pre ++ post → B.le B' → Jx c pre B' H' → Cx e (mark D :: ds) c Q ρ B' (H' * (blk D dfr * (own * R)))) :
    Cx e ds (.rangeFunc g ps assign body) Q ρ B H :=
  Cx.rangeF hr hg hIt hH hnt hps J Jx (fun pre x B1 ρ' B' H' => ∃ ρ'', ρ' = ρ'' ++ σ ∧ AS pre x B1 ρ'' B' H') h0
    (fun l N0 w0 pre x post B1 H1 F K hxs hB1 hJ hK => hassign l N0 w0 pre x post B1 H1 F K hxs hB1 hJ fun ρ' B' H' hAS hB' => hK _ B' H' ⟨ρ', rfl, hAS⟩ hB')
    (fun l N0 w0 pre x post B1 F ρ' B' H' hxs hB1 hB' ⟨ρ'', h1, hAS⟩ => by subst h1; exact hbody l N0 w0 pre x post B1 F ρ'' B' H' hxs hB1 hB' hAS) hdone hstop

/-- The end of a function that ranged over functions: each mark's block is there, and empty. -/
def marks : List Nat → HP
  | [] => 1
  | D :: l => blk D dfr * marks l
theorem leavesM {fn : Func} {tmps : Array Value} {Rr : Ending → World → Prop} {HR : HP} : ∀ (Ds : List Nat) (w : World), Below N0 w0 w → St N0 B (marks Ds * HR) w →
    (∀ w', Below N0 w0 w' → St N0 B HR w' → ∃ v, (results fn tmps).run P w' = .ok v w' ∧ Rr (.returned v) w') → LeavesInM (FW r) 0 P fn tmps Rr (Ds.map mark) .returning w := by
  intro Ds
  induction Ds with
  | nil =>
    intro w hb hs h
    simp only [marks, one_star] at hs
    exact h w hb hs
  | cons D Ds ih =>
    intro w hb hs h
    have hs' : St N0 B (SL.blk D dfr * (marks Ds * HR)) w := hs.of_eq (by simp only [marks]; ac_rfl)
    have h2 := hs'.putObj (o' := .deferred none)
    exact ⟨by simp, .inl ⟨D, _, rfl, run_takeDeferred hs'.blk.1, ih _ (hb.trans h2.2) h2.1.drop h⟩⟩

theorem Xx.rM {fn : Func} {Ds : List Nat} {Φ : Value → Frag → HP → Prop} {v : Value} (hr : ∀ a w, Fr ρ nt (Ds.map mark) a → St N0 B (H' * R) w → (results fn a.tmps).run P w = .ok v w)
    (hΦ : Φ v B H') (hB : B0.le B) (hH : H = marks Ds * (H' * R)) : Xx ⟨P, r, N0, w0, nt⟩ (Ds.map mark) (bodyPostM (FW none) 0 P fn (Fin N0 w0 R B0 Φ) .ret) ρ B H := fun a w f b s => by
  show LeavesInM (FW none) 0 P fn a.tmps _ a.defers .returning w
  rw [f.defers]
  exact leavesM Ds w b (hH ▸ s) fun w' b' s' => ⟨v, hr a w' f s', v, B, H', rfl, hΦ, hB, b', s'⟩
theorem Xx.rBM {fn : Func} {Ds : List Nat} {Φ : Value → Frag → Prop} {v : Value} (hr : ∀ a w, Fr ρ nt (Ds.map mark) a → St N0 B R w → (results fn a.tmps).run P w = .ok v w)
    (hΦ : Φ v B) (hB : B0.le B) (hH : H = marks Ds * R) : Xx ⟨P, r, N0, w0, nt⟩ (Ds.map mark) (bodyPostM (FW none) 0 P fn (FinB N0 w0 R B0 Φ) .ret) ρ B H := fun a w f b s => by
  show LeavesInM (FW none) 0 P fn a.tmps _ a.defers .returning w
  rw [f.defers]
  exact leavesM Ds w b (hH ▸ s) fun w' b' s' => ⟨v, hr a w' f s', v, B, rfl, hΦ, hB, b', s'⟩
/-- What a slot, or two, hand back. -/
theorem res1 {fn : Func} {t : Tmp} {v : Value} {ds : List Deferred} (hr : fn.results = #[.tmp t]) (hv : lk ρ t = some v) : ∀ a w, Fr ρ nt ds a → St N0 B H w → (results fn a.tmps).run P w = .ok v w := fun a w f _ => by
  rw [results_tmp hr]; have := f.get t v hv; simp [this]
theorem res2 {fn : Func} {t u : Tmp} {v x : Value} {ds : List Deferred} (hr : fn.results = #[.tmp t, .tmp u]) (hv : lk ρ t = some v) (hx : lk ρ u = some x) : ∀ a w, Fr ρ nt ds a → St N0 B H w → (results fn a.tmps).run P w = .ok (.tuple #[v, x]) w := fun a w f _ => by
  rw [results_tmp2 hr]; have h1 := f.get t v hv; have h2 := f.get u x hx; simp [h1, h2]
/-- A result in a cell of one's own. -/
theorem resC1 {fn : Func} {t : Tmp} {ty : TypeId} {v : Value} {ds : List Deferred} {b : Nat} {et : TypeId} {d : TypeDesc} (hr : fn.results = #[.cell t ty]) (ht : P.underlying ty = some d) (hd : aggB d = false) (hv : lk ρ t = some (.pointer (some ⟨b, 0, none⟩))) [hp : PickB H b (.cells [v].toArray et (0, 0)) R] :
    ∀ a w, Fr ρ nt ds a → St N0 B H w → (results fn a.tmps).run P w = .ok v w := fun a w f s => by
  have s' : St N0 B (blk b (.cells [v].toArray et (0, 0)) * R) w := hp.eq ▸ s
  have h1 := f.get t _ hv
  have hc := cell_of_heap (o := 0) s'.blk.1 (v := v) rfl
  have hg := run_isAgg (P := P) ht w
  rw [hd] at hg
  simp [results, hr, h1, Sem.run_bind, asAddr, loadVar, hg, hc]
/-- A block let go, or made only to read, wherever it stands. -/
theorem Xx.dropB (b : Nat) {o : Obj} [hp : PickB H b o R] (h : Xx e ds K ρ B R) : Xx e ds K ρ B H := Xx.perm (Xx.drop h) hp.eq
theorem Xx.freezeB (b : Nat) {o : Obj} [hp : PickB H b o R] (h : ∀ B', B.le B' → B' b = some o → Xx e ds K ρ B' R) : Xx e ds K ρ B H := Xx.perm (Xx.freeze h) hp.eq
/-- The buffer at A, wherever it stands. -/
class PickS (H : HP) (A : Option Addr) (et : outParam TypeId) (size n c : outParam Nat) (xs : outParam (List Value)) (R : outParam HP) : Prop where
  eq : H = sbuf et size A n c xs * R
instance (A : Option Addr) (et : TypeId) (size n c : Nat) (xs : List Value) (R : HP) : PickS (sbuf et size A n c xs * R) A et size n c xs R := ⟨rfl⟩
instance (y H : HP) (A : Option Addr) (et : TypeId) (size n c : Nat) (xs : List Value) (R : HP) [h : PickS H A et size n c xs R] : PickS (y * H) A et size n c xs (y * R) := ⟨by rw [h.eq, star_left]⟩
theorem Xx.freezeT (A : Option Addr) {et : TypeId} {size n c : Nat} {xs : List Value} [hp : PickS H A et size n c xs R]
    (h : ∀ B', B.le B' → RoS B' size A n xs → n ≤ c → xs.length = n * size → Xx e ds K ρ B' R) : Xx e ds K ρ B H :=
  Xx.perm (Xx.sbuf_facts fun h1 _ => Xx.freezeS fun B' h2 h3 h4 => h B' h2 h3 h4 h1) hp.eq
/-- append to a buffer what a row of one's own holds. -/
theorem appR {e : Env} {ds : List Deferred} {ρ : Sl} {B : Frag} {H R1 R : HP} {t tx et ty : TypeId} {x y : Operand} {size bytes nl c nx cx b : Nat} {zs xs news cs : List Value} {A : Option Addr} {tyx et' : TypeId} {fz : Nat × Nat}
    (ht : e.P.underlying t = some (.slice et)) (htx : e.P.underlying tx = some (.slice tyx)) (hz : TI e.P et zs size bytes)
    (hx : ev ρ x = some (.slice A nl c)) (hy : ev ρ y = some (.slice (some ⟨b, 0, none⟩) nx cx)) [h1 : PickS H A et size nl c xs R1] [h2 : PickB R1 b (.cells cs.toArray et' fz) R] (hl : news.length = nx * size) (hn : (cs.drop 0).take (nx * size) = news) (h1 : news.all (·.oneCell') = true)
    (hb : nl + nx ≤ 9223372036854775807) (hbb : (nl + nx) * bytes ≤ 140737488355328) :
    Ox e ds (.call { callee := .builtin .append, args := #[x, y], argTypes := #[t, tx] }) ty ρ B H
      (fun v B' H' => ∃ A' c', v = .slice A' (nl + nx) c' ∧ (0 < nl + nx → ∃ b, A' = some ⟨b, 0, none⟩) ∧ xs.length = nl * size ∧ nl + nx ≤ c' ∧ B' = B ∧ H' = sbuf et size A' (nl + nx) c' (xs ++ news) * (blk b (.cells cs.toArray et' fz) * R)) :=
  appO ht htx hz hx hy (Src'.row hl hn) h1 (by rw [PickS.eq (H := H) (A := A), h2.eq]) hb hbb
/-- A row of one's own, as a buffer. -/
theorem Xx.toS (b : Nat) {cs : List Value} {et : TypeId} (size n c : Nat) [hp : PickB H b (.cells cs.toArray et (0, 0)) R] (h1 : cs.length = n * size) (h2 : n ≤ c) (h3 : cs.length = c * size)
    (h : Xx e ds K ρ B (sbuf et size (some ⟨b, 0, none⟩) n c cs * R)) : Xx e ds K ρ B H :=
  Xx.perm (Xx.imp h (star_mono (fun k hk => sbuf_one (sp := []) h1 h2 (by simpa using h3) k (by simpa using hk)) fun _ h => h)) hp.eq
/-- A result in a cell, in a function that ranged over functions. -/
theorem Xx.rBMc {fn : Func} {Ds : List Nat} {Φ : Value → Frag → Prop} {v : Value} {G : HP} (hr : ∀ a w, Fr ρ nt (Ds.map mark) a → St N0 B (G * R) w → (results fn a.tmps).run P w = .ok v w)
    (hΦ : Φ v B) (hB : B0.le B) (hH : H = marks Ds * (G * R)) : Xx ⟨P, r, N0, w0, nt⟩ (Ds.map mark) (bodyPostM (FW none) 0 P fn (FinB N0 w0 R B0 Φ) .ret) ρ B H := fun a w f b s => by
  show LeavesInM (FW none) 0 P fn a.tmps _ a.defers .returning w
  rw [f.defers]
  exact leavesM Ds w b (hH ▸ s) fun w' b' s' => ⟨v, hr a w' f s', v, B, rfl, hΦ, hB, b', s'.drop⟩
/-- A place of a slice that is only read. -/
theorem _root_.Go.SL.RoS.at {B : Frag} {size n k : Nat} {A : Option Addr} {xs : List Value} (h : RoS B size A n xs) (hk : k < n) :
    ∃ b o cs et fz, A = some ⟨b, o, none⟩ ∧ B b = some (.cells (List.toArray cs) et fz) ∧ (cs.drop (o + k * size)).take size = (xs.drop (k * size)).take size := by
  obtain ⟨h1, h2 | ⟨b, o, cs, et, fz, h3, h4, h5⟩⟩ := h
  · omega
  · refine ⟨b, o, cs, et, fz, h3, h4, ?_⟩
    subst h5
    rw [List.drop_take, List.drop_drop, List.take_take, Nat.min_eq_left]
    have : (k + 1) * size ≤ n * size := Nat.mul_le_mul_right _ hk
    rw [Nat.add_mul, Nat.one_mul] at this
    omega
theorem _root_.Go.SL.RoS.at1 {B : Frag} {n k : Nat} {A : Option Addr} {xs : List Value} (h : RoS B 1 A n xs) (hk : k < n) :
    ∃ b o cs et fz, A = some ⟨b, o, none⟩ ∧ B b = some (.cells (List.toArray cs) et fz) ∧ cs[o + k * 1]? = xs[k]? := by
  obtain ⟨b, o, cs, et, fz, h1, h2, h3⟩ := h.at hk
  refine ⟨b, o, cs, et, fz, h1, h2, ?_⟩
  have := congrArg (·[0]?) h3
  simpa [List.getElem?_take, List.getElem?_drop] using this
end
end Go.SL

/-
  Unsigned words as bit vectors, over the states of the small separation logic.
-/
namespace Go.SL
open Go.RowKit
set_option linter.unusedSimpArgs false
set_option linter.unusedVariables false

abbrev u32 (x : BitVec 32) : Value := .int .u32 (x.toNat : Nat)
theorem wrapBV32 (n : Int) : IntKind.u32.wrap n = ((BitVec.ofInt 32 n).toNat : Nat) := by
  have h := BitVec.toNat_ofInt (n := 32) n
  rw [h]
  simp only [IntKind.wrap, IntKind.bits, IntKind.signed, Bool.false_and]
  have h1 : 0 ≤ n % (2 ^ 32 : Int) := Int.emod_nonneg _ (by decide)
  simp
  omega
theorem ofInt_nat32 (n : Nat) : BitVec.ofInt 32 (n : Int) = BitVec.ofNat 32 n := BitVec.ofInt_natCast _ _
theorem ofNat_bv32 (a : BitVec 32) : BitVec.ofNat 32 a.toNat = a := by rw [BitVec.ofNat_toNat, BitVec.setWidth_eq]
theorem ofInt_toNat32 (a : BitVec 32) : BitVec.ofInt 32 (a.toNat : Int) = a := by rw [ofInt_nat32]; simp
section
variable {P : Program} {ρ : Sl} {S : World → Prop} {ty t t' : TypeId} {x y : Operand} {a b : BitVec 32} {k k' : IntKind} {n : Int}
theorem addW32 (hx : ev ρ x = some (u32 a)) (hy : ev ρ y = some (u32 b)) : Yx P (.binOp .add t x y t') ty ρ S (u32 (a + b)) :=
  add hx hy (by rw [wrapBV32, BitVec.ofInt_add, ofInt_toNat32, ofInt_toNat32])
theorem subW32 (hx : ev ρ x = some (u32 a)) (hy : ev ρ y = some (u32 b)) : Yx P (.binOp .sub t x y t') ty ρ S (u32 (a - b)) :=
  sub hx hy (by rw [wrapBV32, Int.sub_eq_add_neg, BitVec.ofInt_add, BitVec.ofInt_neg, ofInt_toNat32, ofInt_toNat32, BitVec.sub_eq_add_neg])
theorem mulW32 (hx : ev ρ x = some (u32 a)) (hy : ev ρ y = some (u32 b)) : Yx P (.binOp .mul t x y t') ty ρ S (u32 (a * b)) :=
  mul hx hy (by rw [wrapBV32, BitVec.ofInt_mul, ofInt_toNat32, ofInt_toNat32])
theorem xorW32 (hx : ev ρ x = some (u32 a)) (hy : ev ρ y = some (u32 b)) : Yx P (.binOp .xor t x y t') ty ρ S (u32 (a ^^^ b)) :=
  bxor hx hy (by unfold bXor; rw [wrapBV32, ofInt_nat32]; congr 2; show BitVec.ofNat 32 ((BitVec.ofInt 32 _ ^^^ BitVec.ofInt 32 _ : BitVec 32).toNat) = _; rw [ofInt_toNat32, ofInt_toNat32]; simp)
theorem andW32 (hx : ev ρ x = some (u32 a)) (hy : ev ρ y = some (u32 b)) : Yx P (.binOp .and t x y t') ty ρ S (u32 (a &&& b)) :=
  band hx hy (by unfold bAnd; rw [wrapBV32, ofInt_nat32]; congr 2; show BitVec.ofNat 32 ((BitVec.ofInt 32 _ &&& BitVec.ofInt 32 _ : BitVec 32).toNat) = _; rw [ofInt_toNat32, ofInt_toNat32]; simp)
theorem orW32 (hx : ev ρ x = some (u32 a)) (hy : ev ρ y = some (u32 b)) : Yx P (.binOp .or t x y t') ty ρ S (u32 (a ||| b)) :=
  bor hx hy (by unfold bOr; rw [wrapBV32, ofInt_nat32]; congr 2; show BitVec.ofNat 32 ((BitVec.ofInt 32 _ ||| BitVec.ofInt 32 _ : BitVec 32).toNat) = _; rw [ofInt_toNat32, ofInt_toNat32]; simp)
theorem shrW32 {c : Nat} (hx : ev ρ x = some (u32 a)) (hy : ev ρ y = some (.int k' (c : Nat))) (hc : Nat.ble c 32 = true) : Yx P (.binOp .shr t x y t') ty ρ S (u32 (a >>> c)) :=
  shr hx hy (by omega) (by
    have hc' : c ≤ 32 := by simpa using hc
    have hm : min (c : Int).toNat (IntKind.bits .u32) = c := by simp [IntKind.bits]; omega
    rw [hm, BitVec.toNat_ushiftRight, Nat.shiftRight_eq_div_pow, Int.fdiv_eq_ediv_of_nonneg _ (Int.le_of_lt (Int.pow_pos (by decide)))]
    simp)
theorem shlW32 {c : Nat} (hx : ev ρ x = some (u32 a)) (hy : ev ρ y = some (.int k' (c : Nat))) (hc : Nat.ble c 32 = true) : Yx P (.binOp .shl t x y t') ty ρ S (u32 (a <<< c)) :=
  shl hx hy (by omega) (by
    have hc' : c ≤ 32 := by simpa using hc
    have hm : min (c : Int).toNat (IntKind.bits .u32) = c := by simp [IntKind.bits]; omega
    rw [hm, wrapBV32, BitVec.toNat_shiftLeft, Nat.shiftLeft_eq]
    have : ((a.toNat : Nat) : Int) * 2 ^ c = ((a.toNat * 2 ^ c : Nat) : Int) := by simp
    rw [this, ofInt_nat32]; simp)
theorem negW32 (hx : ev ρ x = some (u32 a)) : Yx P (.unOp .neg t x) ty ρ S (u32 (-a)) :=
  neg hx (by rw [wrapBV32, Int.zero_sub, BitVec.ofInt_neg, ofInt_toNat32])
theorem complW32 (hx : ev ρ x = some (u32 a)) : Yx P (.unOp .xor t x) ty ρ S (u32 (~~~a)) :=
  compl hx (by
    unfold bXor; rw [wrapBV32, ofInt_nat32]; congr 2
    show BitVec.ofNat 32 ((BitVec.ofInt 32 (if IntKind.signed .u32 = true then -1 else IntKind.max .u32) ^^^ BitVec.ofInt 32 _ : BitVec 32).toNat) = _
    have : BitVec.ofInt 32 (if IntKind.signed .u32 = true then -1 else IntKind.max .u32) = BitVec.allOnes 32 := by decide
    rw [this, ofInt_toNat32, BitVec.allOnes_xor, ofNat_bv32])
theorem quoW32 (hx : ev ρ x = some (u32 a)) (hy : ev ρ y = some (u32 b)) (h0 : b ≠ 0) : Yx P (.binOp .quo t x y t') ty ρ S (u32 (a / b)) :=
  quo hx hy (by intro h; apply h0; apply BitVec.eq_of_toNat_eq; simpa using h) (by
    rw [Int.tdiv_eq_ediv_of_nonneg (by omega), wrapBV32, ← Int.natCast_ediv, ofInt_nat32, ← BitVec.toNat_udiv, ofNat_bv32])
theorem remW32 (hx : ev ρ x = some (u32 a)) (hy : ev ρ y = some (u32 b)) (h0 : b ≠ 0) : Yx P (.binOp .rem t x y t') ty ρ S (u32 (a % b)) :=
  rem hx hy (by intro h; apply h0; apply BitVec.eq_of_toNat_eq; simpa using h) (by
    rw [Int.tmod_eq_emod_of_nonneg (by omega), ← Int.natCast_emod, ← BitVec.toNat_umod])
/-- Of a number, of a byte, of a word. -/
theorem cvW32 {s d : TypeId} {D : TypeDesc} (hx : ev ρ x = some (.int k n)) (hs : P.underlying s = some D) (hd : P.underlying d = some (.int .u32)) : Yx P (.convert s d x) ty ρ S (u32 (BitVec.ofInt 32 n)) :=
  cvI hx hs hd (wrapBV32 n)
theorem eqW32 (hx : ev ρ x = some (u32 a)) (hy : ev ρ y = some (u32 b)) : Yx P (.binOp .eql t x y t') ty ρ S (.bool (decide (a = b))) := by
  have := eqI (P := P) (ty := ty) (S := S) (t := t) (t' := t') hx hy
  have e : decide ((a.toNat : Int) = (b.toNat : Int)) = decide (a = b) := by
    rw [decide_eq_decide]; constructor
    · intro h; apply BitVec.eq_of_toNat_eq; exact Int.ofNat.inj h
    · intro h; rw [h]
  rw [e] at this; exact this
theorem neW32 (hx : ev ρ x = some (u32 a)) (hy : ev ρ y = some (u32 b)) : Yx P (.binOp .neq t x y t') ty ρ S (.bool (!decide (a = b))) := by
  have := neI (P := P) (ty := ty) (S := S) (t := t) (t' := t') hx hy
  have e : decide ((a.toNat : Int) = (b.toNat : Int)) = decide (a = b) := by
    rw [decide_eq_decide]; constructor
    · intro h; apply BitVec.eq_of_toNat_eq; exact Int.ofNat.inj h
    · intro h; rw [h]
  rw [e] at this; exact this
end

abbrev u64 (x : BitVec 64) : Value := .int .u64 (x.toNat : Nat)
theorem wrapBV64 (n : Int) : IntKind.u64.wrap n = ((BitVec.ofInt 64 n).toNat : Nat) := by
  have h := BitVec.toNat_ofInt (n := 64) n
  rw [h]
  simp only [IntKind.wrap, IntKind.bits, IntKind.signed, Bool.false_and]
  have h1 : 0 ≤ n % (2 ^ 64 : Int) := Int.emod_nonneg _ (by decide)
  simp
  omega
theorem ofInt_nat64 (n : Nat) : BitVec.ofInt 64 (n : Int) = BitVec.ofNat 64 n := BitVec.ofInt_natCast _ _
theorem ofNat_bv64 (a : BitVec 64) : BitVec.ofNat 64 a.toNat = a := by rw [BitVec.ofNat_toNat, BitVec.setWidth_eq]
theorem ofInt_toNat64 (a : BitVec 64) : BitVec.ofInt 64 (a.toNat : Int) = a := by rw [ofInt_nat64]; simp
section
variable {P : Program} {ρ : Sl} {S : World → Prop} {ty t t' : TypeId} {x y : Operand} {a b : BitVec 64} {k k' : IntKind} {n : Int}
theorem addW64 (hx : ev ρ x = some (u64 a)) (hy : ev ρ y = some (u64 b)) : Yx P (.binOp .add t x y t') ty ρ S (u64 (a + b)) :=
  add hx hy (by rw [wrapBV64, BitVec.ofInt_add, ofInt_toNat64, ofInt_toNat64])
theorem subW64 (hx : ev ρ x = some (u64 a)) (hy : ev ρ y = some (u64 b)) : Yx P (.binOp .sub t x y t') ty ρ S (u64 (a - b)) :=
  sub hx hy (by rw [wrapBV64, Int.sub_eq_add_neg, BitVec.ofInt_add, BitVec.ofInt_neg, ofInt_toNat64, ofInt_toNat64, BitVec.sub_eq_add_neg])
theorem mulW64 (hx : ev ρ x = some (u64 a)) (hy : ev ρ y = some (u64 b)) : Yx P (.binOp .mul t x y t') ty ρ S (u64 (a * b)) :=
  mul hx hy (by rw [wrapBV64, BitVec.ofInt_mul, ofInt_toNat64, ofInt_toNat64])
theorem xorW64 (hx : ev ρ x = some (u64 a)) (hy : ev ρ y = some (u64 b)) : Yx P (.binOp .xor t x y t') ty ρ S (u64 (a ^^^ b)) :=
  bxor hx hy (by unfold bXor; rw [wrapBV64, ofInt_nat64]; congr 2; show BitVec.ofNat 64 ((BitVec.ofInt 64 _ ^^^ BitVec.ofInt 64 _ : BitVec 64).toNat) = _; rw [ofInt_toNat64, ofInt_toNat64]; simp)
theorem andW64 (hx : ev ρ x = some (u64 a)) (hy : ev ρ y = some (u64 b)) : Yx P (.binOp .and t x y t') ty ρ S (u64 (a &&& b)) :=
  band hx hy (by unfold bAnd; rw [wrapBV64, ofInt_nat64]; congr 2; show BitVec.ofNat 64 ((BitVec.ofInt 64 _ &&& BitVec.ofInt 64 _ : BitVec 64).toNat) = _; rw [ofInt_toNat64, ofInt_toNat64]; simp)
theorem orW64 (hx : ev ρ x = some (u64 a)) (hy : ev ρ y = some (u64 b)) : Yx P (.binOp .or t x y t') ty ρ S (u64 (a ||| b)) :=
  bor hx hy (by unfold bOr; rw [wrapBV64, ofInt_nat64]; congr 2; show BitVec.ofNat 64 ((BitVec.ofInt 64 _ ||| BitVec.ofInt 64 _ : BitVec 64).toNat) = _; rw [ofInt_toNat64, ofInt_toNat64]; simp)
theorem shrW64 {c : Nat} (hx : ev ρ x = some (u64 a)) (hy : ev ρ y = some (.int k' (c : Nat))) (hc : Nat.ble c 64 = true) : Yx P (.binOp .shr t x y t') ty ρ S (u64 (a >>> c)) :=
  shr hx hy (by omega) (by
    have hc' : c ≤ 64 := by simpa using hc
    have hm : min (c : Int).toNat (IntKind.bits .u64) = c := by simp [IntKind.bits]; omega
    rw [hm, BitVec.toNat_ushiftRight, Nat.shiftRight_eq_div_pow, Int.fdiv_eq_ediv_of_nonneg _ (Int.le_of_lt (Int.pow_pos (by decide)))]
    simp)
theorem shlW64 {c : Nat} (hx : ev ρ x = some (u64 a)) (hy : ev ρ y = some (.int k' (c : Nat))) (hc : Nat.ble c 64 = true) : Yx P (.binOp .shl t x y t') ty ρ S (u64 (a <<< c)) :=
  shl hx hy (by omega) (by
    have hc' : c ≤ 64 := by simpa using hc
    have hm : min (c : Int).toNat (IntKind.bits .u64) = c := by simp [IntKind.bits]; omega
    rw [hm, wrapBV64, BitVec.toNat_shiftLeft, Nat.shiftLeft_eq]
    have : ((a.toNat : Nat) : Int) * 2 ^ c = ((a.toNat * 2 ^ c : Nat) : Int) := by simp
    rw [this, ofInt_nat64]; simp)
theorem negW64 (hx : ev ρ x = some (u64 a)) : Yx P (.unOp .neg t x) ty ρ S (u64 (-a)) :=
  neg hx (by rw [wrapBV64, Int.zero_sub, BitVec.ofInt_neg, ofInt_toNat64])
theorem complW64 (hx : ev ρ x = some (u64 a)) : Yx P (.unOp .xor t x) ty ρ S (u64 (~~~a)) :=
  compl hx (by
    unfold bXor; rw [wrapBV64, ofInt_nat64]; congr 2
    show BitVec.ofNat 64 ((BitVec.ofInt 64 (if IntKind.signed .u64 = true then -1 else IntKind.max .u64) ^^^ BitVec.ofInt 64 _ : BitVec 64).toNat) = _
    have : BitVec.ofInt 64 (if IntKind.signed .u64 = true then -1 else IntKind.max .u64) = BitVec.allOnes 64 := by decide
    rw [this, ofInt_toNat64, BitVec.allOnes_xor, ofNat_bv64])
theorem quoW64 (hx : ev ρ x = some (u64 a)) (hy : ev ρ y = some (u64 b)) (h0 : b ≠ 0) : Yx P (.binOp .quo t x y t') ty ρ S (u64 (a / b)) :=
  quo hx hy (by intro h; apply h0; apply BitVec.eq_of_toNat_eq; simpa using h) (by
    rw [Int.tdiv_eq_ediv_of_nonneg (by omega), wrapBV64, ← Int.natCast_ediv, ofInt_nat64, ← BitVec.toNat_udiv, ofNat_bv64])
theorem remW64 (hx : ev ρ x = some (u64 a)) (hy : ev ρ y = some (u64 b)) (h0 : b ≠ 0) : Yx P (.binOp .rem t x y t') ty ρ S (u64 (a % b)) :=
  rem hx hy (by intro h; apply h0; apply BitVec.eq_of_toNat_eq; simpa using h) (by
    rw [Int.tmod_eq_emod_of_nonneg (by omega), ← Int.natCast_emod, ← BitVec.toNat_umod])
/-- Of a number, of a byte, of a word. -/
theorem cvW64 {s d : TypeId} {D : TypeDesc} (hx : ev ρ x = some (.int k n)) (hs : P.underlying s = some D) (hd : P.underlying d = some (.int .u64)) : Yx P (.convert s d x) ty ρ S (u64 (BitVec.ofInt 64 n)) :=
  cvI hx hs hd (wrapBV64 n)
theorem eqW64 (hx : ev ρ x = some (u64 a)) (hy : ev ρ y = some (u64 b)) : Yx P (.binOp .eql t x y t') ty ρ S (.bool (decide (a = b))) := by
  have := eqI (P := P) (ty := ty) (S := S) (t := t) (t' := t') hx hy
  have e : decide ((a.toNat : Int) = (b.toNat : Int)) = decide (a = b) := by
    rw [decide_eq_decide]; constructor
    · intro h; apply BitVec.eq_of_toNat_eq; exact Int.ofNat.inj h
    · intro h; rw [h]
  rw [e] at this; exact this
theorem neW64 (hx : ev ρ x = some (u64 a)) (hy : ev ρ y = some (u64 b)) : Yx P (.binOp .neq t x y t') ty ρ S (.bool (!decide (a = b))) := by
  have := neI (P := P) (ty := ty) (S := S) (t := t) (t' := t') hx hy
  have e : decide ((a.toNat : Int) = (b.toNat : Int)) = decide (a = b) := by
    rw [decide_eq_decide]; constructor
    · intro h; apply BitVec.eq_of_toNat_eq; exact Int.ofNat.inj h
    · intro h; rw [h]
  rw [e] at this; exact this
end
end Go.SL

/-
  The walks of package frame and of its reference: checks, numbers in bytes, heads, frames.
-/
namespace Go.Proofs.Ytgcebieihmlaoaa
open Go.SL Go.RowKit
set_option linter.unusedVariables false
set_option linter.unusedSimpArgs false
set_option maxRecDepth 100000
namespace Fr1
theorem ti5 : TI Try.prog 5 [.int .u8 0] 1 1 := TI.of (by kernel_rfl) rfl rfl

def poly : BitVec 32 := 3988292384#32
def crcBit (h : BitVec 32) : BitVec 32 := (h >>> 1) ^^^ (3988292384#32 &&& -(h &&& 1#32))
def crcBits : Nat → BitVec 32 → BitVec 32
  | 0, h => h
  | n + 1, h => crcBit (crcBits n h)
def crcStep (h : BitVec 32) (b : UInt8) : BitVec 32 := crcBits 8 (h ^^^ BitVec.ofInt 32 (b.toNat : Nat))
def crcTo (l : List UInt8) : BitVec 32 := l.foldl crcStep 4294967295#32
def crc (l : List UInt8) : BitVec 32 := ~~~(crcTo l)
theorem crcTo_take (l : List UInt8) (k : Nat) (h : k < l.length) : crcTo (l.take (k + 1)) = crcBits 8 (crcTo (l.take k) ^^^ BitVec.ofInt 32 ((l.getD k 0).toNat : Nat)) := by
  unfold crcTo
  rw [List.take_succ_eq_append_getElem h, List.foldl_append]
  simp [crcStep, List.getD, List.getElem?_eq_getElem h]

set_option maxHeartbeats 1000000 in
theorem Check_ct (l : List UInt8) (B : Frag) (hl : l.length ≤ 4611686018427387904) : CtP Try.prog 99 [str l] B (u32 (crc l)) := by
  refine CtB.of_body Try.func99 rfl (nt := 29) rfl (by kernel_rfl) rfl ?_
  intro N0 w0 R
  refine Cx.seq (fun K1 k1 => ?_)
  refine Cx.region ?_
  refine Lx.y (asg rfl) rfl ?_
  refine Lx.nil ?_
  refine Xx.tn (k1 _ _ _ _ ?_)
  refine Cx.seq (fun K2 k2 => ?_)
  refine Cx.region ?_
  refine Lx.y (asg rfl) rfl ?_
  refine Lx.nil ?_
  refine Xx.tn (k2 _ _ _ _ ?_)
  refine Cx.seq (fun K3 k3 => ?_)
  refine Cx.seq (fun K4 k4 => ?_)
  refine Cx.region ?_
  refine Lx.y (mv rfl) rfl ?_
  refine Lx.y (lenS Try.underlying9 rfl) rfl ?_
  refine Lx.y (mv rfl) rfl ?_
  refine Lx.nil ?_
  refine Xx.tn (k4 _ _ _ _ ?_)
  refine Cx.block ?_
  refine Cx.loopK (Sub.cons (s := 0) rfl (Sub.cons (s := 2) rfl (Sub.cons (s := 5) rfl (Sub.cons (s := 6) rfl (Sub.nil _))))) (fun m ρ' B' H' => ∃ (k : Nat), (k ≤ l.length) ∧ m = l.length - k ∧ ρ' = [(3, u32 (crcTo (l.take k))), (7, i64 k)] ∧ B = B' ∧ R = H') ⟨0, Nat.zero_le _, rfl, rfl, rfl, rfl⟩ (Sub.cons (s := 3) rfl (Sub.cons (s := 7) rfl (Sub.cons (s := 0) rfl (Sub.cons (s := 2) rfl (Sub.cons (s := 5) rfl (Sub.cons (s := 6) rfl (Sub.nil _))))))) ?_
  rintro m ρ' B' H' ⟨k, hk, rfl, rfl, rfl, rfl⟩
  refine Cx.seq (fun K5 k5 => ?_)
  refine Cx.region ?_
  refine Lx.y (lss rfl rfl) rfl ?_
  refine Lx.nil ?_
  refine Xx.tn (k5 _ _ _ _ ?_)
  refine Cx.seq (fun K6 k6 => ?_)
  refine Cx.condD rfl (fun h7 => ?_) (fun h7 => ?_)
  · skip
    refine Cx.skip ?_
    refine Xx.tn (k6 _ _ _ _ ?_)
    refine Cx.seq (fun K8 k8 => ?_)
    refine Cx.block ?_
    refine Cx.seq (fun K9 k9 => ?_)
    refine Cx.region ?_
    refine Lx.y (mv rfl) rfl ?_
    refine Lx.y (asg rfl) rfl ?_
    refine Lx.nil ?_
    refine Xx.tn (k9 _ _ _ _ ?_)
    refine Cx.seq (fun K10 k10 => ?_)
    refine Cx.region ?_
    refine Lx.y (mv rfl) rfl ?_
    refine Lx.y (mv rfl) rfl ?_
    refine Lx.y (mv rfl) rfl ?_
    refine Lx.y (ixS Try.underlying9 rfl rfl (by first | exact Int.toNat_natCast _ | rfl) (by omega) (by omega)) rfl ?_
    refine Lx.y (cvW32 rfl Try.underlying5 Try.underlying110) rfl ?_
    refine Lx.y (xorW32 rfl rfl) rfl ?_
    refine Lx.y (asg rfl) rfl ?_
    refine Lx.nil ?_
    refine Xx.tn (k10 _ _ _ _ ?_)
    refine Cx.seq (fun K11 k11 => ?_)
    refine Cx.region ?_
    refine Lx.y (mv rfl) rfl ?_
    refine Lx.nil ?_
    refine Xx.tn (k11 _ _ _ _ ?_)
    refine Cx.block ?_
    refine Cx.loopK (Sub.cons (s := 0) rfl (Sub.cons (s := 2) rfl (Sub.cons (s := 4) rfl (Sub.cons (s := 5) rfl (Sub.cons (s := 6) rfl (Sub.cons (s := 7) rfl (Sub.cons (s := 8) rfl (Sub.cons (s := 9) rfl (Sub.cons (s := 10) rfl (Sub.cons (s := 11) rfl (Sub.cons (s := 12) rfl (Sub.cons (s := 13) rfl (Sub.cons (s := 14) rfl (Sub.cons (s := 15) rfl (Sub.nil _))))))))))))))) (fun m ρ' B' H' => ∃ (j : Nat), (j ≤ 8) ∧ m = 8 - j ∧ ρ' = [(3, u32 (crcBits j (crcTo (l.take k) ^^^ BitVec.ofInt 32 ((l.getD k 0).toNat : Nat)))), (16, i64 j)] ∧ B = B' ∧ R = H') ⟨0, Nat.zero_le _, rfl, rfl, rfl, rfl⟩ (Sub.cons (s := 3) rfl (Sub.cons (s := 16) rfl (Sub.cons (s := 0) rfl (Sub.cons (s := 2) rfl (Sub.cons (s := 4) rfl (Sub.cons (s := 5) rfl (Sub.cons (s := 6) rfl (Sub.cons (s := 7) rfl (Sub.cons (s := 8) rfl (Sub.cons (s := 9) rfl (Sub.cons (s := 10) rfl (Sub.cons (s := 11) rfl (Sub.cons (s := 12) rfl (Sub.cons (s := 13) rfl (Sub.cons (s := 14) rfl (Sub.cons (s := 15) rfl (Sub.nil _))))))))))))))))) ?_
    rintro m ρ' B' H' ⟨j, hj, rfl, rfl, rfl, rfl⟩
    refine Cx.seq (fun K12 k12 => ?_)
    refine Cx.region ?_
    refine Lx.y (lss rfl rfl) rfl ?_
    refine Lx.nil ?_
    refine Xx.tn (k12 _ _ _ _ ?_)
    refine Cx.seq (fun K13 k13 => ?_)
    refine Cx.condD rfl (fun h14 => ?_) (fun h14 => ?_)
    · skip
      refine Cx.skip ?_
      refine Xx.tn (k13 _ _ _ _ ?_)
      refine Cx.seq (fun K15 k15 => ?_)
      refine Cx.block ?_
      refine Cx.region ?_
      refine Lx.y (mv rfl) rfl ?_
      refine Lx.y (shrW32 (c := 1) rfl rfl rfl) rfl ?_
      refine Lx.y (mv rfl) rfl ?_
      refine Lx.y (andW32 (b := 1#32) rfl rfl) rfl ?_
      refine Lx.y (negW32 rfl) rfl ?_
      refine Lx.y (andW32 (a := 3988292384#32) rfl rfl) rfl ?_
      refine Lx.y (xorW32 rfl rfl) rfl ?_
      refine Lx.y (asg rfl) rfl ?_
      refine Lx.nil ?_
      refine Xx.bn ?_
      refine Xx.tn (k15 _ _ _ _ ?_)
      refine Cx.region ?_
      refine Lx.y (add rfl rfl (by first | exact wrap64 (by omega) (by omega) | rfl)) rfl ?_
      refine Lx.y (mv rfl) rfl ?_
      refine Lx.nil ?_
      exact Xx.againK ⟨j + 1, by omega, rfl, rfl, rfl, rfl⟩ (by omega) (Sub.cons (s := 3) rfl (Sub.cons (s := 16) rfl (Sub.cons (s := 0) rfl (Sub.cons (s := 2) rfl (Sub.cons (s := 4) rfl (Sub.cons (s := 5) rfl (Sub.cons (s := 6) rfl (Sub.cons (s := 7) rfl (Sub.cons (s := 8) rfl (Sub.cons (s := 9) rfl (Sub.cons (s := 10) rfl (Sub.cons (s := 11) rfl (Sub.cons (s := 12) rfl (Sub.cons (s := 13) rfl (Sub.cons (s := 14) rfl (Sub.cons (s := 15) rfl (Sub.nil _)))))))))))))))))
    · skip
      obtain rfl : j = 8 := by omega
      refine Cx.exit ?_
      refine Xx.te ?_
      refine Xx.te ?_
      refine Xx.bh ?_
      refine Xx.bn ?_
      refine Xx.tn (k8 _ _ _ _ ?_)
      refine Cx.region ?_
      refine Lx.y (add rfl rfl (by first | exact wrap64 (by omega) (by omega) | rfl)) rfl ?_
      refine Lx.y (mv rfl) rfl ?_
      refine Lx.nil ?_
      exact Xx.againK ⟨k + 1, by omega, rfl, rfl, rfl, rfl⟩ (by omega) (Sub.consE (s := 3) rfl (by rw [crcTo_take l k (by omega)]) (Sub.cons (s := 7) rfl (Sub.cons (s := 0) rfl (Sub.cons (s := 2) rfl (Sub.cons (s := 5) rfl (Sub.cons (s := 6) rfl (Sub.nil _)))))))
  · skip
    obtain rfl : k = l.length := by omega
    rw [List.take_length]
    refine Cx.exit ?_
    refine Xx.te ?_
    refine Xx.te ?_
    refine Xx.bh ?_
    refine Xx.tn (k3 _ _ _ _ ?_)
    refine Cx.seq (fun K16 k16 => ?_)
    refine Cx.region ?_
    refine Lx.y (mv rfl) rfl ?_
    refine Lx.y (complW32 rfl) rfl ?_
    refine Lx.y (asg rfl) rfl ?_
    refine Lx.nil ?_
    refine Xx.tn (k16 _ _ _ _ ?_)
    refine Cx.ret ?_
    exact Xx.rB1 rfl rfl ⟨rfl, rfl⟩ (Frag.le_refl _) rfl

def halfBit (n : BitVec 32) : BitVec 32 := if n % 2#32 = 1#32 then n / 2#32 ^^^ 3988292384#32 else n / 2#32
def halfBits : Nat → BitVec 32 → BitVec 32
  | 0, h => h
  | n + 1, h => halfBit (halfBits n h)
def refMid (h : BitVec 32) : BitVec 32 := h / 16#32 ^^^ halfBits 4 (h % 16#32)
def refStep (h : BitVec 32) (b : UInt8) : BitVec 32 := refMid (refMid (h ^^^ BitVec.ofInt 32 (b.toNat : Nat)))
def refTo (l : List UInt8) : BitVec 32 := l.foldl refStep 4294967295#32
def refCrc (l : List UInt8) : BitVec 32 := 4294967295#32 - refTo l
theorem refTo_take (l : List UInt8) (k : Nat) (h : k < l.length) : refTo (l.take (k + 1)) = refStep (refTo (l.take k)) (l.getD k 0) := by
  unfold refTo
  rw [List.take_succ_eq_append_getElem h, List.foldl_append]
  simp [List.getD, List.getElem?_eq_getElem h]

set_option maxHeartbeats 1000000 in
theorem half_ct (n : BitVec 32) (B : Frag) : CtP Try.prog 80 [u32 n] B (u32 (halfBits 4 n)) := by
  refine CtB.of_body Try.func80 rfl (nt := 18) rfl (by kernel_rfl) rfl ?_
  intro N0 w0 R
  refine Cx.seq (fun K1 k1 => ?_)
  refine Cx.region ?_
  refine Lx.y (asg rfl) rfl ?_
  refine Lx.nil ?_
  refine Xx.tn (k1 _ _ _ _ ?_)
  refine Cx.seq (fun K2 k2 => ?_)
  refine Cx.seq (fun K3 k3 => ?_)
  refine Cx.region ?_
  refine Lx.y (asg rfl) rfl ?_
  refine Lx.nil ?_
  refine Xx.tn (k3 _ _ _ _ ?_)
  refine Cx.block ?_
  refine Cx.loopK (Sub.cons (s := 2) rfl (Sub.nil _)) (fun m ρ' B' H' => ∃ (j : Nat), (j ≤ 4) ∧ m = 4 - j ∧ ρ' = [(0, u32 (halfBits j n)), (3, i64 j)] ∧ B = B' ∧ R = H') ⟨0, Nat.zero_le _, rfl, rfl, rfl, rfl⟩ (Sub.cons (s := 0) rfl (Sub.cons (s := 3) rfl (Sub.cons (s := 2) rfl (Sub.nil _)))) ?_
  rintro m ρ' B' H' ⟨j, hj, rfl, rfl, rfl, rfl⟩
  refine Cx.seq (fun K4 k4 => ?_)
  refine Cx.seq (fun K5 k5 => ?_)
  refine Cx.region ?_
  refine Lx.y (mv rfl) rfl ?_
  refine Lx.y (lss rfl rfl) rfl ?_
  refine Lx.nil ?_
  refine Xx.tn (k5 _ _ _ _ ?_)
  refine Cx.condD rfl (fun h6 => ?_) (fun h6 => ?_)
  · skip
    refine Cx.skip ?_
    refine Xx.tn (k4 _ _ _ _ ?_)
    refine Cx.seq (fun K7 k7 => ?_)
    refine Cx.block ?_
    refine Cx.seq (fun K8 k8 => ?_)
    refine Cx.region ?_
    refine Lx.y (mv rfl) rfl ?_
    refine Lx.y (remW32 (b := 2#32) rfl rfl (by decide)) rfl ?_
    refine Lx.y (eqW32 (b := 1#32) rfl rfl) rfl ?_
    refine Lx.y (asg rfl) rfl ?_
    refine Lx.nil ?_
    refine Xx.tn (k8 _ _ _ _ ?_)
    refine Cx.seq (fun K9 k9 => ?_)
    refine Cx.region ?_
    refine Lx.y (mv rfl) rfl ?_
    refine Lx.y (quoW32 (b := 2#32) rfl rfl (by decide)) rfl ?_
    refine Lx.y (asg rfl) rfl ?_
    refine Lx.nil ?_
    refine Xx.tn (k9 _ _ _ _ ?_)
    refine Cx.seq (fun K10 k10 => ?_)
    refine Cx.region ?_
    refine Lx.y (mv rfl) rfl ?_
    refine Lx.nil ?_
    refine Xx.tn (k10 _ _ _ _ ?_)
    refine Cx.condD rfl (fun h11 => ?_) (fun h11 => ?_)
    · skip
      have h3 := h11
      refine Cx.region ?_
      refine Lx.y (mv rfl) rfl ?_
      refine Lx.y (xorW32 (b := 3988292384#32) rfl rfl) rfl ?_
      refine Lx.y (asg rfl) rfl ?_
      refine Lx.nil ?_
      refine Xx.bn ?_
      refine Xx.tn (k7 _ _ _ _ ?_)
      refine Cx.region ?_
      refine Lx.y (mv rfl) rfl ?_
      refine Lx.y (add rfl rfl (by first | exact wrap64 (by omega) (by omega) | rfl)) rfl ?_
      refine Lx.y (asg rfl) rfl ?_
      refine Lx.nil ?_
      exact Xx.againK ⟨j + 1, by omega, rfl, rfl, rfl, rfl⟩ (by omega) (Sub.consE (s := 0) rfl (by show u32 _ = u32 (halfBit _); unfold halfBit; rw [if_pos h3]) (Sub.cons (s := 3) rfl (Sub.cons (s := 2) rfl (Sub.nil _))))
    · skip
      have h3 := h11
      refine Cx.skip ?_
      refine Xx.bn ?_
      refine Xx.tn (k7 _ _ _ _ ?_)
      refine Cx.region ?_
      refine Lx.y (mv rfl) rfl ?_
      refine Lx.y (add rfl rfl (by first | exact wrap64 (by omega) (by omega) | rfl)) rfl ?_
      refine Lx.y (asg rfl) rfl ?_
      refine Lx.nil ?_
      exact Xx.againK ⟨j + 1, by omega, rfl, rfl, rfl, rfl⟩ (by omega) (Sub.consE (s := 0) rfl (by show u32 _ = u32 (halfBit _); unfold halfBit; rw [if_neg h3]) (Sub.cons (s := 3) rfl (Sub.cons (s := 2) rfl (Sub.nil _))))
  · skip
    obtain rfl : j = 4 := by omega
    refine Cx.exit ?_
    refine Xx.te ?_
    refine Xx.te ?_
    refine Xx.bh ?_
    refine Xx.tn (k2 _ _ _ _ ?_)
    refine Cx.seq (fun K12 k12 => ?_)
    refine Cx.region ?_
    refine Lx.y (mv rfl) rfl ?_
    refine Lx.y (asg rfl) rfl ?_
    refine Lx.nil ?_
    refine Xx.tn (k12 _ _ _ _ ?_)
    refine Cx.ret ?_
    exact Xx.rB1 rfl rfl ⟨rfl, rfl⟩ (Frag.le_refl _) rfl

set_option maxHeartbeats 1000000 in
theorem RefCheck_ct (l : List UInt8) (B : Frag) (hl : l.length ≤ 4611686018427387904) : CtP Try.prog 56 [str l] B (u32 (refCrc l)) := by
  refine CtB.of_body Try.func56 rfl (nt := 31) rfl (by kernel_rfl) rfl ?_
  intro N0 w0 R
  refine Cx.seq (fun K1 k1 => ?_)
  refine Cx.region ?_
  refine Lx.y (asg rfl) rfl ?_
  refine Lx.nil ?_
  refine Xx.tn (k1 _ _ _ _ ?_)
  refine Cx.seq (fun K2 k2 => ?_)
  refine Cx.region ?_
  refine Lx.y (asg rfl) rfl ?_
  refine Lx.nil ?_
  refine Xx.tn (k2 _ _ _ _ ?_)
  refine Cx.seq (fun K3 k3 => ?_)
  refine Cx.seq (fun K4 k4 => ?_)
  refine Cx.region ?_
  refine Lx.y (asg rfl) rfl ?_
  refine Lx.nil ?_
  refine Xx.tn (k4 _ _ _ _ ?_)
  refine Cx.block ?_
  refine Cx.loopK (Sub.cons (s := 0) rfl (Sub.cons (s := 2) rfl (Sub.nil _))) (fun m ρ' B' H' => ∃ (k : Nat), (k ≤ l.length) ∧ m = l.length - k ∧ ρ' = [(3, u32 (refTo (l.take k))), (4, i64 k)] ∧ B = B' ∧ R = H') ⟨0, Nat.zero_le _, rfl, rfl, rfl, rfl⟩ (Sub.cons (s := 3) rfl (Sub.cons (s := 4) rfl (Sub.cons (s := 0) rfl (Sub.cons (s := 2) rfl (Sub.nil _))))) ?_
  rintro m ρ' B' H' ⟨k, hk, rfl, rfl, rfl, rfl⟩
  refine Cx.seq (fun K5 k5 => ?_)
  refine Cx.seq (fun K6 k6 => ?_)
  refine Cx.region ?_
  refine Lx.y (mv rfl) rfl ?_
  refine Lx.y (mv rfl) rfl ?_
  refine Lx.y (lenS Try.underlying9 rfl) rfl ?_
  refine Lx.y (lss rfl rfl) rfl ?_
  refine Lx.nil ?_
  refine Xx.tn (k6 _ _ _ _ ?_)
  refine Cx.condD rfl (fun h7 => ?_) (fun h7 => ?_)
  · skip
    refine Cx.skip ?_
    refine Xx.tn (k5 _ _ _ _ ?_)
    refine Cx.seq (fun K8 k8 => ?_)
    refine Cx.block ?_
    refine Cx.seq (fun K9 k9 => ?_)
    refine Cx.region ?_
    refine Lx.y (mv rfl) rfl ?_
    refine Lx.y (mv rfl) rfl ?_
    refine Lx.y (mv rfl) rfl ?_
    refine Lx.y (ixS Try.underlying9 rfl rfl (by first | exact Int.toNat_natCast _ | rfl) (by omega) (by omega)) rfl ?_
    refine Lx.y (cvW32 rfl Try.underlying5 Try.underlying110) rfl ?_
    refine Lx.y (xorW32 rfl rfl) rfl ?_
    refine Lx.y (asg rfl) rfl ?_
    refine Lx.nil ?_
    refine Xx.tn (k9 _ _ _ _ ?_)
    refine Cx.seq (fun K10 k10 => ?_)
    refine Cx.region ?_
    refine Lx.y (mv rfl) rfl ?_
    refine Lx.y (quoW32 (b := 16#32) rfl rfl (by decide)) rfl ?_
    refine Lx.y (mv rfl) rfl ?_
    refine Lx.y (remW32 (b := 16#32) rfl rfl (by decide)) rfl ?_
    refine Lx.cp rfl rfl rfl (half_ct _ _) rfl ?_
    refine Lx.y (xorW32 rfl rfl) rfl ?_
    refine Lx.y (asg rfl) rfl ?_
    refine Lx.nil ?_
    refine Xx.tn (k10 _ _ _ _ ?_)
    refine Cx.region ?_
    refine Lx.y (mv rfl) rfl ?_
    refine Lx.y (quoW32 (b := 16#32) rfl rfl (by decide)) rfl ?_
    refine Lx.y (mv rfl) rfl ?_
    refine Lx.y (remW32 (b := 16#32) rfl rfl (by decide)) rfl ?_
    refine Lx.cp rfl rfl rfl (half_ct _ _) rfl ?_
    refine Lx.y (xorW32 rfl rfl) rfl ?_
    refine Lx.y (asg rfl) rfl ?_
    refine Lx.nil ?_
    refine Xx.bn ?_
    refine Xx.tn (k8 _ _ _ _ ?_)
    refine Cx.region ?_
    refine Lx.y (mv rfl) rfl ?_
    refine Lx.y (add rfl rfl (by first | exact wrap64 (by omega) (by omega) | rfl)) rfl ?_
    refine Lx.y (asg rfl) rfl ?_
    refine Lx.nil ?_
    exact Xx.againK ⟨k + 1, by omega, rfl, rfl, rfl, rfl⟩ (by omega) (Sub.consE (s := 3) rfl (by rw [refTo_take l k (by omega)]; rfl) (Sub.cons (s := 4) rfl (Sub.cons (s := 0) rfl (Sub.cons (s := 2) rfl (Sub.nil _)))))
  · skip
    obtain rfl : k = l.length := by omega
    rw [List.take_length]
    refine Cx.exit ?_
    refine Xx.te ?_
    refine Xx.te ?_
    refine Xx.bh ?_
    refine Xx.tn (k3 _ _ _ _ ?_)
    refine Cx.seq (fun K11 k11 => ?_)
    refine Cx.region ?_
    refine Lx.y (mv rfl) rfl ?_
    refine Lx.y (subW32 (a := 4294967295#32) rfl rfl) rfl ?_
    refine Lx.y (asg rfl) rfl ?_
    refine Lx.nil ?_
    refine Xx.tn (k11 _ _ _ _ ?_)
    refine Cx.ret ?_
    exact Xx.rB1 rfl rfl ⟨rfl, rfl⟩ (Frag.le_refl _) rfl

def fourL (n : BitVec 32) : List UInt8 := [toB (n.toNat : Nat), toB ((n >>> 8).toNat : Nat), toB ((n >>> 16).toNat : Nat), toB ((n >>> 24).toNat : Nat)]
def refFourL (n : BitVec 32) : List UInt8 := [toB ((n % 256#32).toNat : Nat), toB ((n / 256#32 % 256#32).toNat : Nat), toB ((n / 65536#32 % 256#32).toNat : Nat), toB ((n / 16777216#32).toNat : Nat)]
@[simp] theorem fourL_len (n : BitVec 32) : (fourL n).length = 4 := rfl
@[simp] theorem refFourL_len (n : BitVec 32) : (refFourL n).length = 4 := rfl
def bW (b : UInt8) : BitVec 32 := BitVec.ofInt 32 (b.toNat : Nat)
def numL (l : List UInt8) : BitVec 32 := bW (l.getD 0 0) ||| bW (l.getD 1 0) <<< 8 ||| bW (l.getD 2 0) <<< 16 ||| bW (l.getD 3 0) <<< 24
def refNumL (l : List UInt8) : Int := ((l.getD 0 0).toNat : Nat) + ((l.getD 1 0).toNat : Nat) * 256 + ((l.getD 2 0).toNat : Nat) * 65536 + ((l.getD 3 0).toNat : Nat) * 16777216

set_option maxHeartbeats 1000000 in
theorem four_ct (n : BitVec 32) (B : Frag) : CtP Try.prog 98 [u32 n] B (str (fourL n)) := by
  refine CtB.of_body Try.func98 rfl (nt := 16) rfl (by kernel_rfl) rfl ?_
  intro N0 w0 R
  refine Cx.seq (fun K1 k1 => ?_)
  refine Cx.region ?_
  refine Lx.y (asg rfl) rfl ?_
  refine Lx.nil ?_
  refine Xx.tn (k1 _ _ _ _ ?_)
  refine Cx.seq (fun K2 k2 => ?_)
  refine Cx.region ?_
  refine Lx.y (mv rfl) rfl ?_
  refine Lx.y (cvI rfl Try.underlying110 Try.underlying5 (wrap_u8 _)) rfl ?_
  refine Lx.y (mv rfl) rfl ?_
  refine Lx.y (shrW32 (c := 8) rfl rfl rfl) rfl ?_
  refine Lx.y (cvI rfl Try.underlying110 Try.underlying5 (wrap_u8 _)) rfl ?_
  refine Lx.y (mv rfl) rfl ?_
  refine Lx.y (shrW32 (c := 16) rfl rfl rfl) rfl ?_
  refine Lx.y (cvI rfl Try.underlying110 Try.underlying5 (wrap_u8 _)) rfl ?_
  refine Lx.y (mv rfl) rfl ?_
  refine Lx.y (shrW32 (c := 24) rfl rfl rfl) rfl ?_
  refine Lx.y (cvI rfl Try.underlying110 Try.underlying5 (wrap_u8 _)) rfl ?_
  refine Lx.bsl (bsl1 Try.underlying80 ti5 rfl rfl rfl (by decide)) rfl (fun b3 => ?_)
  refine Lx.y (b2sR Try.underlying80 Try.underlying5 Try.underlying9 rfl (u8s_cons (u8s_cons (u8s_cons (u8s_cons u8s_nil)))) rfl) rfl ?_
  refine Lx.y (asg rfl) rfl ?_
  refine Lx.nil ?_
  refine Xx.tn (k2 _ _ _ _ ?_)
  refine Cx.ret ?_
  refine Xx.drop ?_
  exact Xx.rB1 rfl rfl ⟨rfl, rfl⟩ (Frag.le_refl _) rfl

set_option maxHeartbeats 1000000 in
theorem Four_ct (n : BitVec 32) (B : Frag) : CtP Try.prog 55 [u32 n] B (str (refFourL n)) := by
  refine CtB.of_body Try.func55 rfl (nt := 19) rfl (by kernel_rfl) rfl ?_
  intro N0 w0 R
  refine Cx.seq (fun K1 k1 => ?_)
  refine Cx.region ?_
  refine Lx.y (asg rfl) rfl ?_
  refine Lx.nil ?_
  refine Xx.tn (k1 _ _ _ _ ?_)
  refine Cx.seq (fun K2 k2 => ?_)
  refine Cx.region ?_
  refine Lx.y (mv rfl) rfl ?_
  refine Lx.y (remW32 (b := 256#32) rfl rfl (by decide)) rfl ?_
  refine Lx.y (cvI rfl Try.underlying110 Try.underlying5 (wrap_u8 _)) rfl ?_
  refine Lx.y (mv rfl) rfl ?_
  refine Lx.y (quoW32 (b := 256#32) rfl rfl (by decide)) rfl ?_
  refine Lx.y (remW32 (b := 256#32) rfl rfl (by decide)) rfl ?_
  refine Lx.y (cvI rfl Try.underlying110 Try.underlying5 (wrap_u8 _)) rfl ?_
  refine Lx.y (mv rfl) rfl ?_
  refine Lx.y (quoW32 (b := 65536#32) rfl rfl (by decide)) rfl ?_
  refine Lx.y (remW32 (b := 256#32) rfl rfl (by decide)) rfl ?_
  refine Lx.y (cvI rfl Try.underlying110 Try.underlying5 (wrap_u8 _)) rfl ?_
  refine Lx.y (mv rfl) rfl ?_
  refine Lx.y (quoW32 (b := 16777216#32) rfl rfl (by decide)) rfl ?_
  refine Lx.y (cvI rfl Try.underlying110 Try.underlying5 (wrap_u8 _)) rfl ?_
  refine Lx.bsl (bsl1 Try.underlying80 ti5 rfl rfl rfl (by decide)) rfl (fun b3 => ?_)
  refine Lx.y (b2sR Try.underlying80 Try.underlying5 Try.underlying9 rfl (u8s_cons (u8s_cons (u8s_cons (u8s_cons u8s_nil)))) rfl) rfl ?_
  refine Lx.y (asg rfl) rfl ?_
  refine Lx.nil ?_
  refine Xx.tn (k2 _ _ _ _ ?_)
  refine Cx.ret ?_
  refine Xx.drop ?_
  exact Xx.rB1 rfl rfl ⟨rfl, rfl⟩ (Frag.le_refl _) rfl

set_option maxHeartbeats 1000000 in
theorem number_ct (l : List UInt8) (B : Frag) (hl : 4 ≤ l.length) : CtP Try.prog 117 [str l] B (u32 (numL l)) := by
  refine CtB.of_body Try.func117 rfl (nt := 21) rfl (by kernel_rfl) rfl ?_
  intro N0 w0 R
  refine Cx.seq (fun K1 k1 => ?_)
  refine Cx.region ?_
  refine Lx.y (asg rfl) rfl ?_
  refine Lx.nil ?_
  refine Xx.tn (k1 _ _ _ _ ?_)
  refine Cx.seq (fun K2 k2 => ?_)
  refine Cx.drawn (by kernel_rfl) ?_
  refine Dx.p (i := 0) rfl (by kernel_rfl) (mv rfl) rfl ?_
  refine Dx.p (i := 1) rfl (by kernel_rfl) (ixS Try.underlying9 rfl rfl (show Int.toNat _ = 0 from rfl) (by omega) (by omega)) rfl ?_
  refine Dx.p (i := 2) rfl (by kernel_rfl) (cvW32 rfl Try.underlying5 Try.underlying110) rfl ?_
  refine Dx.p (i := 3) rfl (by kernel_rfl) (mv rfl) rfl ?_
  refine Dx.p (i := 4) rfl (by kernel_rfl) (ixS Try.underlying9 rfl rfl (show Int.toNat _ = 1 from rfl) (by omega) (by omega)) rfl ?_
  refine Dx.p (i := 5) rfl (by kernel_rfl) (cvW32 rfl Try.underlying5 Try.underlying110) rfl ?_
  refine Dx.p (i := 6) rfl (by kernel_rfl) (shlW32 (c := 8) rfl rfl rfl) rfl ?_
  refine Dx.p (i := 7) rfl (by kernel_rfl) (orW32 rfl rfl) rfl ?_
  refine Dx.p (i := 8) rfl (by kernel_rfl) (mv rfl) rfl ?_
  refine Dx.p (i := 9) rfl (by kernel_rfl) (ixS Try.underlying9 rfl rfl (show Int.toNat _ = 2 from rfl) (by omega) (by omega)) rfl ?_
  refine Dx.p (i := 10) rfl (by kernel_rfl) (cvW32 rfl Try.underlying5 Try.underlying110) rfl ?_
  refine Dx.p (i := 11) rfl (by kernel_rfl) (shlW32 (c := 16) rfl rfl rfl) rfl ?_
  refine Dx.p (i := 12) rfl (by kernel_rfl) (orW32 rfl rfl) rfl ?_
  refine Dx.p (i := 13) rfl (by kernel_rfl) (mv rfl) rfl ?_
  refine Dx.p (i := 14) rfl (by kernel_rfl) (ixS Try.underlying9 rfl rfl (show Int.toNat _ = 3 from rfl) (by omega) (by omega)) rfl ?_
  refine Dx.p (i := 15) rfl (by kernel_rfl) (cvW32 rfl Try.underlying5 Try.underlying110) rfl ?_
  refine Dx.p (i := 16) rfl (by kernel_rfl) (shlW32 (c := 24) rfl rfl rfl) rfl ?_
  refine Dx.p (i := 17) rfl (by kernel_rfl) (orW32 rfl rfl) rfl ?_
  refine Dx.p (i := 18) rfl (by kernel_rfl) (asg rfl) rfl ?_
  refine Dx.done (by kernel_rfl) ?_
  refine Xx.tn (k2 _ _ _ _ ?_)
  refine Cx.ret ?_
  exact Xx.rB1 rfl rfl ⟨rfl, rfl⟩ (Frag.le_refl _) rfl

set_option maxHeartbeats 1000000 in
theorem RefNumber_ct (l : List UInt8) (B : Frag) (hl : 4 ≤ l.length) : CtP Try.prog 57 [str l] B (i64 (refNumL l)) := by
  have b0 := (l.getD 0 0).toNat_lt
  have b1 := (l.getD 1 0).toNat_lt
  have b2 := (l.getD 2 0).toNat_lt
  have b3 := (l.getD 3 0).toNat_lt
  refine CtB.of_body Try.func57 rfl (nt := 21) rfl (by kernel_rfl) rfl ?_
  intro N0 w0 R
  refine Cx.seq (fun K1 k1 => ?_)
  refine Cx.region ?_
  refine Lx.y (asg rfl) rfl ?_
  refine Lx.nil ?_
  refine Xx.tn (k1 _ _ _ _ ?_)
  refine Cx.seq (fun K2 k2 => ?_)
  refine Cx.drawn (by kernel_rfl) ?_
  refine Dx.p (i := 0) rfl (by kernel_rfl) (mv rfl) rfl ?_
  refine Dx.p (i := 1) rfl (by kernel_rfl) (ixS Try.underlying9 rfl rfl (show Int.toNat _ = 0 from rfl) (by omega) (by omega)) rfl ?_
  refine Dx.p (i := 2) rfl (by kernel_rfl) (cvI rfl Try.underlying5 Try.underlying3 (by first | exact wrap64 (by omega) (by omega) | rfl)) rfl ?_
  refine Dx.p (i := 3) rfl (by kernel_rfl) (mv rfl) rfl ?_
  refine Dx.p (i := 4) rfl (by kernel_rfl) (ixS Try.underlying9 rfl rfl (show Int.toNat _ = 1 from rfl) (by omega) (by omega)) rfl ?_
  refine Dx.p (i := 5) rfl (by kernel_rfl) (cvI rfl Try.underlying5 Try.underlying3 (by first | exact wrap64 (by omega) (by omega) | rfl)) rfl ?_
  refine Dx.p (i := 6) rfl (by kernel_rfl) (mul rfl rfl (by first | exact wrap64 (by omega) (by omega) | rfl)) rfl ?_
  refine Dx.p (i := 7) rfl (by kernel_rfl) (add rfl rfl (by first | exact wrap64 (by omega) (by omega) | rfl)) rfl ?_
  refine Dx.p (i := 8) rfl (by kernel_rfl) (mv rfl) rfl ?_
  refine Dx.p (i := 9) rfl (by kernel_rfl) (ixS Try.underlying9 rfl rfl (show Int.toNat _ = 2 from rfl) (by omega) (by omega)) rfl ?_
  refine Dx.p (i := 10) rfl (by kernel_rfl) (cvI rfl Try.underlying5 Try.underlying3 (by first | exact wrap64 (by omega) (by omega) | rfl)) rfl ?_
  refine Dx.p (i := 11) rfl (by kernel_rfl) (mul rfl rfl (by first | exact wrap64 (by omega) (by omega) | rfl)) rfl ?_
  refine Dx.p (i := 12) rfl (by kernel_rfl) (add rfl rfl (by first | exact wrap64 (by omega) (by omega) | rfl)) rfl ?_
  refine Dx.p (i := 13) rfl (by kernel_rfl) (mv rfl) rfl ?_
  refine Dx.p (i := 14) rfl (by kernel_rfl) (ixS Try.underlying9 rfl rfl (show Int.toNat _ = 3 from rfl) (by omega) (by omega)) rfl ?_
  refine Dx.p (i := 15) rfl (by kernel_rfl) (cvI rfl Try.underlying5 Try.underlying3 (by first | exact wrap64 (by omega) (by omega) | rfl)) rfl ?_
  refine Dx.p (i := 16) rfl (by kernel_rfl) (mul rfl rfl (by first | exact wrap64 (by omega) (by omega) | rfl)) rfl ?_
  refine Dx.p (i := 17) rfl (by kernel_rfl) (add rfl rfl (by first | exact wrap64 (by omega) (by omega) | rfl)) rfl ?_
  refine Dx.p (i := 18) rfl (by kernel_rfl) (asg rfl) rfl ?_
  refine Dx.done (by kernel_rfl) ?_
  refine Xx.tn (k2 _ _ _ _ ?_)
  refine Cx.ret ?_
  exact Xx.rB1 rfl rfl ⟨rfl, rfl⟩ (Frag.le_refl _) rfl

def headL (l : List UInt8) : List UInt8 := fourL (BitVec.ofInt 32 (l.length : Nat)) ++ fourL (crc (fourL (BitVec.ofInt 32 (l.length : Nat)))) ++ fourL (crc l)
@[simp] theorem headL_len (l : List UInt8) : (headL l).length = 12 := by simp [headL]
def refFrameL (l : List UInt8) : List UInt8 := refFourL (BitVec.ofInt 32 (l.length : Nat)) ++ refFourL (refCrc (refFourL (BitVec.ofInt 32 (l.length : Nat)))) ++ refFourL (refCrc l) ++ l
def makeV (l : List UInt8) : Value := if (65536 : Int) < (l.length : Nat) then .tuple #[str [], i64 3] else .tuple #[str (headL l ++ l), i64 0]

set_option maxHeartbeats 1000000 in
theorem Head_ct (l : List UInt8) (B : Frag) (hl : l.length ≤ 4611686018427387904) : CtP Try.prog 82 [str l] B (str (headL l)) := by
  refine CtB.of_body Try.func82 rfl (nt := 17) rfl (by kernel_rfl) rfl ?_
  intro N0 w0 R
  refine Cx.seq (fun K1 k1 => ?_)
  refine Cx.region ?_
  refine Lx.y (asg rfl) rfl ?_
  refine Lx.nil ?_
  refine Xx.tn (k1 _ _ _ _ ?_)
  refine Cx.seq (fun K2 k2 => ?_)
  refine Cx.region ?_
  refine Lx.y (mv rfl) rfl ?_
  refine Lx.y (lenS Try.underlying9 rfl) rfl ?_
  refine Lx.y (cvW32 rfl Try.underlying3 Try.underlying110) rfl ?_
  refine Lx.cp rfl rfl rfl (four_ct _ _) rfl ?_
  refine Lx.y (asg rfl) rfl ?_
  refine Lx.nil ?_
  refine Xx.tn (k2 _ _ _ _ ?_)
  refine Cx.seq (fun K3 k3 => ?_)
  refine Cx.region ?_
  refine Lx.y (mv rfl) rfl ?_
  refine Lx.y (mv rfl) rfl ?_
  refine Lx.cp rfl rfl rfl (Check_ct _ _ (by first | omega | (simp <;> omega))) rfl ?_
  refine Lx.cp rfl rfl rfl (four_ct _ _) rfl ?_
  refine Lx.y (catS rfl rfl (by first | omega | (simp <;> omega))) rfl ?_
  refine Lx.y (mv rfl) rfl ?_
  refine Lx.cp rfl rfl rfl (Check_ct _ _ (by first | omega | (simp <;> omega))) rfl ?_
  refine Lx.cp rfl rfl rfl (four_ct _ _) rfl ?_
  refine Lx.y (catS rfl rfl (by first | omega | (simp <;> omega))) rfl ?_
  refine Lx.y (asg rfl) rfl ?_
  refine Lx.nil ?_
  refine Xx.tn (k3 _ _ _ _ ?_)
  refine Cx.ret ?_
  exact Xx.rB1 rfl rfl ⟨rfl, rfl⟩ (Frag.le_refl _) rfl

set_option maxHeartbeats 1000000 in
theorem Make_ct (l : List UInt8) (B : Frag) (hl : l.length ≤ 4611686018427387904) : CtP Try.prog 59 [str l] B (makeV l) := by
  refine CtB.of_body Try.func59 rfl (nt := 11) rfl (by kernel_rfl) rfl ?_
  intro N0 w0 R
  refine Cx.seq (fun K1 k1 => ?_)
  refine Cx.region ?_
  refine Lx.y (asg rfl) rfl ?_
  refine Lx.y (asg rfl) rfl ?_
  refine Lx.nil ?_
  refine Xx.tn (k1 _ _ _ _ ?_)
  refine Cx.seq (fun K2 k2 => ?_)
  refine Cx.seq (fun K3 k3 => ?_)
  refine Cx.region ?_
  refine Lx.y (mv rfl) rfl ?_
  refine Lx.y (lenS Try.underlying9 rfl) rfl ?_
  refine Lx.y (gtr rfl rfl) rfl ?_
  refine Lx.nil ?_
  refine Xx.tn (k3 _ _ _ _ ?_)
  refine Cx.condD rfl (fun h4 => ?_) (fun h4 => ?_)
  · skip
    have h3 := h4
    refine Cx.seq (fun K5 k5 => ?_)
    refine Cx.region ?_
    refine Lx.y (asg rfl) rfl ?_
    refine Lx.y (asg rfl) rfl ?_
    refine Lx.nil ?_
    refine Xx.tn (k5 _ _ _ _ ?_)
    refine Cx.ret ?_
    refine Xx.tr ?_
    exact Xx.rB2 rfl rfl rfl ⟨by simp only [makeV]; rw [if_pos h3], rfl⟩ (Frag.le_refl _) rfl
  · skip
    have h3 := h4
    refine Cx.skip ?_
    refine Xx.tn (k2 _ _ _ _ ?_)
    refine Cx.seq (fun K6 k6 => ?_)
    refine Cx.region ?_
    refine Lx.y (mv rfl) rfl ?_
    refine Lx.cp rfl rfl rfl (Head_ct _ _ hl) rfl ?_
    refine Lx.y (mv rfl) rfl ?_
    refine Lx.y (catS rfl rfl (by first | omega | (simp <;> omega))) rfl ?_
    refine Lx.y (asg rfl) rfl ?_
    refine Lx.y (asg rfl) rfl ?_
    refine Lx.nil ?_
    refine Xx.tn (k6 _ _ _ _ ?_)
    refine Cx.ret ?_
    exact Xx.rB2 rfl rfl rfl ⟨by simp only [makeV]; rw [if_neg h3], rfl⟩ (Frag.le_refl _) rfl

set_option maxHeartbeats 1000000 in
theorem RefFrame_ct (l : List UInt8) (B : Frag) (hl : l.length ≤ 4611686018427387904) : CtP Try.prog 31 [str l] B (str (refFrameL l)) := by
  refine CtB.of_body Try.func31 rfl (nt := 19) rfl (by kernel_rfl) rfl ?_
  intro N0 w0 R
  refine Cx.seq (fun K1 k1 => ?_)
  refine Cx.region ?_
  refine Lx.y (asg rfl) rfl ?_
  refine Lx.nil ?_
  refine Xx.tn (k1 _ _ _ _ ?_)
  refine Cx.seq (fun K2 k2 => ?_)
  refine Cx.region ?_
  refine Lx.y (mv rfl) rfl ?_
  refine Lx.y (lenS Try.underlying9 rfl) rfl ?_
  refine Lx.y (cvW32 rfl Try.underlying3 Try.underlying110) rfl ?_
  refine Lx.cp rfl rfl rfl (Four_ct _ _) rfl ?_
  refine Lx.y (asg rfl) rfl ?_
  refine Lx.nil ?_
  refine Xx.tn (k2 _ _ _ _ ?_)
  refine Cx.seq (fun K3 k3 => ?_)
  refine Cx.region ?_
  refine Lx.y (mv rfl) rfl ?_
  refine Lx.y (mv rfl) rfl ?_
  refine Lx.cp rfl rfl rfl (RefCheck_ct _ _ (by first | omega | (simp <;> omega))) rfl ?_
  refine Lx.cp rfl rfl rfl (Four_ct _ _) rfl ?_
  refine Lx.y (catS rfl rfl (by first | omega | (simp <;> omega))) rfl ?_
  refine Lx.y (mv rfl) rfl ?_
  refine Lx.cp rfl rfl rfl (RefCheck_ct _ _ (by first | omega | (simp <;> omega))) rfl ?_
  refine Lx.cp rfl rfl rfl (Four_ct _ _) rfl ?_
  refine Lx.y (catS rfl rfl (by first | omega | (simp <;> omega))) rfl ?_
  refine Lx.y (mv rfl) rfl ?_
  refine Lx.y (catS rfl rfl (by first | omega | (simp <;> omega))) rfl ?_
  refine Lx.y (asg rfl) rfl ?_
  refine Lx.nil ?_
  refine Xx.tn (k3 _ _ _ _ ?_)
  refine Cx.ret ?_
  exact Xx.rB1 rfl rfl ⟨rfl, rfl⟩ (Frag.le_refl _) rfl

def fewL (l : List UInt8) : List UInt8 := if (300 : Int) < (l.length : Nat) then l.take 300 else l
theorem fewL_len (l : List UInt8) : (fewL l).length ≤ 300 := by
  unfold fewL; split
  · simp; omega
  · omega
end Fr1
end Go.Proofs.Ytgcebieihmlaoaa

/-
  The walk of frame.next, of its iterator, of the scans.
-/
namespace Go.Proofs.Ytgcebieihmlaoaa
open Go.SL Go.RowKit
set_option linter.unusedVariables false
set_option linter.unusedSimpArgs false
set_option maxRecDepth 100000
open Fr1
namespace Fr2
theorem sz119 : (Try.prog.info? 119).map (·.size) = some 3 := by kernel_rfl
theorem ti119 : TI Try.prog 119 [.int .i64 0, str [], .bool false] 3 32 := TI.of (by kernel_rfl) rfl rfl
theorem fo119_0 : FO Try.prog 119 0 0 1 false := FO.of Try.underlying119 rfl rfl (by kernel_rfl) Try.underlying3 rfl rfl
theorem fo119_1 : FO Try.prog 119 1 1 1 false := FO.of Try.underlying119 rfl rfl (by kernel_rfl) Try.underlying9 rfl rfl
theorem pl119 : PL Try.prog 119 [(0, 1), (1, 1), (2, 1)] := PL.of Try.underlying119 (by kernel_rfl)

structure Fm where
  pos : Nat
  body : List UInt8
  good : Bool
def nextF (l : List UInt8) (a : Nat) : Option Fm :=
  if (l.length : Int) - a < 12 then none
  else if (65536 : Int) < ((numL (l.drop a)).toNat : Nat) then none
  else if ¬ numL (l.drop (a + 4)) = crc ((l.take (a + 4)).drop a) then none
  else if (l.length : Int) - a - 12 < ((numL (l.drop a)).toNat : Nat) then none
  else some ⟨a + 12, (l.take (a + 12 + (numL (l.drop a)).toNat)).drop (a + 12), decide (numL (l.drop (a + 8)) = crc ((l.take (a + 12 + (numL (l.drop a)).toNat)).drop (a + 12)))⟩
def fmV (f : Fm) : Value := .agg #[i64 f.pos, str f.body, .bool f.good]
def nextV (l : List UInt8) (a : Nat) : Value := match nextF l a with
  | none => .tuple #[.agg #[i64 0, str [], .bool false], .bool false]
  | some f => .tuple #[fmV f, .bool true]
theorem nextV_no {l : List UInt8} {a : Nat} (h : nextF l a = none) : nextV l a = .tuple #[.agg [i64 0, str [], .bool false].toArray, .bool false] := by unfold nextV; rw [h]
theorem nextV_yes {l : List UInt8} {a : Nat} {f : Fm} (h : nextF l a = some f) : nextV l a = .tuple #[.agg [i64 f.pos, str f.body, .bool f.good].toArray, .bool true] := by unfold nextV; rw [h]; rfl

set_option maxHeartbeats 1000000 in
theorem next_ct (l : List UInt8) (a : Nat) (B : Frag) (hl : l.length ≤ 4611686018427387904) (ha : a ≤ l.length) : CtP Try.prog 97 [str l, i64 a] B (nextV l a) := by
  refine CtB.of_body Try.func97 rfl (nt := 66) rfl (by kernel_rfl) rfl ?_
  intro N0 w0 R
  refine Cx.seq (fun K1 k1 => ?_)
  refine Cx.region ?_
  refine Lx.new (allocO ti119) rfl (fun b2 => ?_)
  refine Lx.y (asg rfl) rfl ?_
  refine Lx.nil ?_
  refine Xx.tn (k1 _ _ _ _ ?_)
  refine Cx.seq (fun K3 k3 => ?_)
  refine Cx.seq (fun K4 k4 => ?_)
  refine Cx.region ?_
  refine Lx.y (mv rfl) rfl ?_
  refine Lx.y (lenS Try.underlying9 rfl) rfl ?_
  refine Lx.y (mv rfl) rfl ?_
  refine Lx.y (sub rfl rfl (by first | exact wrap64 (by omega) (by omega) | rfl)) rfl ?_
  refine Lx.y (lss rfl rfl) rfl ?_
  refine Lx.nil ?_
  refine Xx.tn (k4 _ _ _ _ ?_)
  refine Cx.condD rfl (fun h5 => ?_) (fun h5 => ?_)
  · skip
    have q0 := h5
    refine Cx.seq (fun K6 k6 => ?_)
    refine Cx.region ?_
    refine Lx.y (bld ti119 pl119 rfl rfl) rfl ?_
    refine Lx.st (stA (d := .bool) sz119 rfl rfl rfl rfl (by simp) rfl) ?_
    refine Lx.y (asg rfl) rfl ?_
    refine Lx.nil ?_
    refine Xx.tn (k6 _ _ _ _ ?_)
    refine Cx.ret ?_
    refine Xx.tr ?_
    exact Xx.rBc rfl Try.underlying119 rfl sz119 rfl rfl rfl ⟨(nextV_no (by unfold nextF; rw [if_pos q0])).symm, rfl⟩ (Frag.le_refl _)
  · skip
    have q0 := h5
    refine Cx.skip ?_
    refine Xx.tn (k3 _ _ _ _ ?_)
    refine Cx.seq (fun K7 k7 => ?_)
    refine Cx.region ?_
    refine Lx.y (mv rfl) rfl ?_
    refine Lx.y (mv rfl) rfl ?_
    refine Lx.y (sl1S Try.underlying9 rfl rfl (by first | exact Int.toNat_natCast _ | rfl) (by omega) (by omega)) rfl ?_
    refine Lx.cp rfl rfl rfl (number_ct _ _ (by simp; omega)) rfl ?_
    refine Lx.y (asg rfl) rfl ?_
    refine Lx.nil ?_
    refine Xx.tn (k7 _ _ _ _ ?_)
    refine Cx.seq (fun K8 k8 => ?_)
    refine Cx.seq (fun K9 k9 => ?_)
    refine Cx.drawn (by kernel_rfl) ?_
    refine Dx.p (i := 0) rfl (by kernel_rfl) (mv rfl) rfl ?_
    refine Dx.p (i := 1) rfl (by kernel_rfl) (gtr rfl rfl) rfl ?_
    refine Dx.p (i := 2) rfl (by kernel_rfl) (mv rfl) rfl ?_
    refine Xx.ifD (t := 21) rfl (fun h10 => ?_) (fun h10 => ?_)
    · skip
      have q1 := h10
      refine Dx.pF (i := 3) rfl (fun _ h => by cases h) rfl rfl rfl (by kernel_rfl) rfl ?_
      refine Dx.pF (i := 4) rfl (fun _ h => by cases h) rfl rfl rfl (by kernel_rfl) rfl ?_
      refine Dx.pF (i := 5) rfl (fun _ h => by cases h) rfl rfl rfl (by kernel_rfl) rfl ?_
      refine Dx.pF (i := 6) rfl (fun _ h => by cases h) rfl rfl rfl (by kernel_rfl) rfl ?_
      refine Dx.pF (i := 7) rfl (fun _ h => by cases h) rfl rfl rfl (by kernel_rfl) rfl ?_
      refine Dx.pF (i := 8) rfl (fun _ h => by cases h) rfl rfl rfl (by kernel_rfl) rfl ?_
      refine Dx.pF (i := 9) rfl (fun _ h => by cases h) rfl rfl rfl (by kernel_rfl) rfl ?_
      refine Dx.pF (i := 10) rfl (fun _ h => by cases h) rfl rfl rfl (by kernel_rfl) rfl ?_
      refine Dx.pF (i := 11) rfl (fun _ h => by cases h) rfl rfl rfl (by kernel_rfl) rfl ?_
      refine Dx.pF (i := 12) rfl (fun _ h => by cases h) rfl rfl rfl (by kernel_rfl) rfl ?_
      refine Dx.pF (i := 13) rfl (fun _ h => by cases h) rfl rfl rfl (by kernel_rfl) rfl ?_
      refine Dx.pF (i := 14) rfl (fun _ h => by cases h) rfl rfl rfl (by kernel_rfl) rfl ?_
      refine Dx.p (i := 15) rfl (by kernel_rfl) (pickT rfl rfl) rfl ?_
      refine Dx.p (i := 16) rfl (by kernel_rfl) (mv rfl) rfl ?_
      refine Dx.pF (i := 17) rfl (fun _ h => by cases h) rfl rfl rfl (by kernel_rfl) rfl ?_
      refine Dx.pF (i := 18) rfl (fun _ h => by cases h) rfl rfl rfl (by kernel_rfl) rfl ?_
      refine Dx.pF (i := 19) rfl (fun _ h => by cases h) rfl rfl rfl (by kernel_rfl) rfl ?_
      refine Dx.pF (i := 20) rfl (fun _ h => by cases h) rfl rfl rfl (by kernel_rfl) rfl ?_
      refine Dx.pF (i := 21) rfl (fun _ h => by cases h) rfl rfl rfl (by kernel_rfl) rfl ?_
      refine Dx.pF (i := 22) rfl (fun _ h => by cases h) rfl rfl rfl (by kernel_rfl) rfl ?_
      refine Dx.pF (i := 23) rfl (fun _ h => by cases h) rfl rfl rfl (by kernel_rfl) rfl ?_
      refine Dx.pF (i := 24) rfl (fun _ h => by cases h) rfl rfl rfl (by kernel_rfl) rfl ?_
      refine Dx.p (i := 25) rfl (by kernel_rfl) (pickT rfl rfl) rfl ?_
      refine Dx.done (by kernel_rfl) ?_
      refine Xx.tn (k9 _ _ _ _ ?_)
      refine Cx.condT rfl ?_
      refine Cx.seq (fun K11 k11 => ?_)
      refine Cx.region ?_
      refine Lx.y (bld ti119 pl119 rfl rfl) rfl ?_
      refine Lx.st (stA (d := .bool) sz119 rfl rfl rfl rfl (by simp) rfl) ?_
      refine Lx.y (asg rfl) rfl ?_
      refine Lx.nil ?_
      refine Xx.tn (k11 _ _ _ _ ?_)
      refine Cx.ret ?_
      refine Xx.tr ?_
      exact Xx.rBc rfl Try.underlying119 rfl sz119 rfl rfl rfl ⟨(nextV_no (by unfold nextF; rw [if_neg q0, if_pos q1])).symm, rfl⟩ (Frag.le_refl _)
    · skip
      have q1 := h10
      have hn := (numL (l.drop a)).isLt
      refine Dx.pT (i := 3) rfl rfl rfl rfl (by kernel_rfl) (mv rfl) rfl ?_
      refine Dx.pT (i := 4) rfl rfl rfl rfl (by kernel_rfl) (mv rfl) rfl ?_
      refine Dx.pT (i := 5) rfl rfl rfl rfl (by kernel_rfl) (add rfl rfl (by first | exact wrap64 (by omega) (by omega) | rfl)) rfl ?_
      refine Dx.pT (i := 6) rfl rfl rfl rfl (by kernel_rfl) (sl1S Try.underlying9 rfl rfl (by first | exact Int.toNat_natCast _ | rfl) (by omega) (by omega)) rfl ?_
      refine Dx.pT (i := 8) rfl rfl rfl rfl (by kernel_rfl) (mv rfl) rfl ?_
      refine Dx.pT (i := 9) rfl rfl rfl rfl (by kernel_rfl) (mv rfl) rfl ?_
      refine Dx.pT (i := 10) rfl rfl rfl rfl (by kernel_rfl) (mv rfl) rfl ?_
      refine Dx.pT (i := 11) rfl rfl rfl rfl (by kernel_rfl) (add rfl rfl (by first | exact wrap64 (by omega) (by omega) | rfl)) rfl ?_
      refine Dx.pT (i := 12) rfl rfl rfl rfl (by kernel_rfl) (sl3S Try.underlying9 rfl rfl rfl (by first | exact Int.toNat_natCast _ | rfl) (by first | exact Int.toNat_natCast _ | rfl) (by omega) (by omega) (by omega)) rfl ?_
      refine Dx.one (i := 7) (by kernel_rfl) ?_
      refine Dstep.oT (i := 7) rfl rfl rfl rfl (Ox.cb rfl rfl rfl (number_ct _ _ (by simp; omega))) rfl (fun v B' H' hΦ hB => ?_)
      obtain ⟨rfl, rfl, rfl⟩ := hΦ; clear hB
      refine ⟨JOk.top, ?_⟩
      refine Dx.one (i := 13) (by kernel_rfl) ?_
      refine Dstep.oT (i := 13) rfl rfl rfl rfl (Ox.cb rfl rfl rfl (Check_ct _ _ (by simp; omega))) rfl (fun v B' H' hΦ hB => ?_)
      obtain ⟨rfl, rfl, rfl⟩ := hΦ; clear hB
      refine ⟨JOk.top, ?_⟩
      refine Dx.pT (i := 14) rfl rfl rfl rfl (by kernel_rfl) (neW32 rfl rfl) rfl ?_
      refine Dx.p (i := 15) rfl (by kernel_rfl) (pickF rfl rfl) rfl ?_
      refine Dx.p (i := 16) rfl (by kernel_rfl) (mv rfl) rfl ?_
      refine Xx.ifN (t := 35) rfl (fun h12 => ?_) (fun h12 => ?_)
      · skip
        have q2 := h12
        refine Dx.pF (i := 17) rfl (fun _ h => by cases h) rfl rfl rfl (by kernel_rfl) rfl ?_
        refine Dx.pF (i := 18) rfl (fun _ h => by cases h) rfl rfl rfl (by kernel_rfl) rfl ?_
        refine Dx.pF (i := 19) rfl (fun _ h => by cases h) rfl rfl rfl (by kernel_rfl) rfl ?_
        refine Dx.pF (i := 20) rfl (fun _ h => by cases h) rfl rfl rfl (by kernel_rfl) rfl ?_
        refine Dx.pF (i := 21) rfl (fun _ h => by cases h) rfl rfl rfl (by kernel_rfl) rfl ?_
        refine Dx.pF (i := 22) rfl (fun _ h => by cases h) rfl rfl rfl (by kernel_rfl) rfl ?_
        refine Dx.pF (i := 23) rfl (fun _ h => by cases h) rfl rfl rfl (by kernel_rfl) rfl ?_
        refine Dx.pF (i := 24) rfl (fun _ h => by cases h) rfl rfl rfl (by kernel_rfl) rfl ?_
        refine Dx.p (i := 25) rfl (by kernel_rfl) (pickT rfl rfl) rfl ?_
        refine Dx.done (by kernel_rfl) ?_
        refine Xx.tn (k9 _ _ _ _ ?_)
        refine Cx.condT rfl ?_
        refine Cx.seq (fun K13 k13 => ?_)
        refine Cx.region ?_
        refine Lx.y (bld ti119 pl119 rfl rfl) rfl ?_
        refine Lx.st (stA (d := .bool) sz119 rfl rfl rfl rfl (by simp) rfl) ?_
        refine Lx.y (asg rfl) rfl ?_
        refine Lx.nil ?_
        refine Xx.tn (k13 _ _ _ _ ?_)
        refine Cx.ret ?_
        refine Xx.tr ?_
        exact Xx.rBc rfl Try.underlying119 rfl sz119 rfl rfl rfl ⟨(nextV_no (by unfold nextF; rw [if_neg q0, if_neg q1, if_pos q2])).symm, rfl⟩ (Frag.le_refl _)
      · skip
        have q2 := h12
        refine Dx.pT (i := 17) rfl rfl rfl rfl (by kernel_rfl) (mv rfl) rfl ?_
        refine Dx.pT (i := 18) rfl rfl rfl rfl (by kernel_rfl) (cvI rfl Try.underlying110 Try.underlying3 (by first | exact wrap64 (by omega) (by omega) | rfl)) rfl ?_
        refine Dx.pT (i := 19) rfl rfl rfl rfl (by kernel_rfl) (mv rfl) rfl ?_
        refine Dx.pT (i := 20) rfl rfl rfl rfl (by kernel_rfl) (lenS Try.underlying9 rfl) rfl ?_
        refine Dx.pT (i := 21) rfl rfl rfl rfl (by kernel_rfl) (mv rfl) rfl ?_
        refine Dx.pT (i := 22) rfl rfl rfl rfl (by kernel_rfl) (sub rfl rfl (by first | exact wrap64 (by omega) (by omega) | rfl)) rfl ?_
        refine Dx.pT (i := 23) rfl rfl rfl rfl (by kernel_rfl) (sub rfl rfl (by first | exact wrap64 (by omega) (by omega) | rfl)) rfl ?_
        refine Dx.pT (i := 24) rfl rfl rfl rfl (by kernel_rfl) (gtr rfl rfl) rfl ?_
        refine Dx.p (i := 25) rfl (by kernel_rfl) (pickF rfl rfl) rfl ?_
        refine Dx.done (by kernel_rfl) ?_
        refine Xx.tn (k9 _ _ _ _ ?_)
        refine Cx.condD rfl (fun h14 => ?_) (fun h14 => ?_)
        · skip
          have q3 := h14
          refine Cx.seq (fun K15 k15 => ?_)
          refine Cx.region ?_
          refine Lx.y (bld ti119 pl119 rfl rfl) rfl ?_
          refine Lx.st (stA (d := .bool) sz119 rfl rfl rfl rfl (by simp) rfl) ?_
          refine Lx.y (asg rfl) rfl ?_
          refine Lx.nil ?_
          refine Xx.tn (k15 _ _ _ _ ?_)
          refine Cx.ret ?_
          refine Xx.tr ?_
          exact Xx.rBc rfl Try.underlying119 rfl sz119 rfl rfl rfl ⟨(nextV_no (by unfold nextF; rw [if_neg q0, if_neg q1, if_neg (by simpa using q2), if_pos q3])).symm, rfl⟩ (Frag.le_refl _)
        · skip
          have q3 := h14
          refine Cx.skip ?_
          refine Xx.tn (k8 _ _ _ _ ?_)
          refine Cx.seq (fun K16 k16 => ?_)
          refine Cx.region ?_
          refine Lx.y (mv rfl) rfl ?_
          refine Lx.y (add rfl rfl (by first | exact wrap64 (by omega) (by omega) | rfl)) rfl ?_
          refine Lx.y (asg rfl) rfl ?_
          refine Lx.nil ?_
          refine Xx.tn (k16 _ _ _ _ ?_)
          refine Cx.seq (fun K17 k17 => ?_)
          refine Cx.region ?_
          refine Lx.y (mv rfl) rfl ?_
          refine Lx.y (mv rfl) rfl ?_
          refine Lx.y (mv rfl) rfl ?_
          refine Lx.y (mv rfl) rfl ?_
          refine Lx.y (cvI rfl Try.underlying110 Try.underlying3 (by first | exact wrap64 (by omega) (by omega) | rfl)) rfl ?_
          refine Lx.y (add rfl rfl (by first | exact wrap64 (by omega) (by omega) | rfl)) rfl ?_
          refine Lx.y (sl3S Try.underlying9 rfl rfl rfl (by first | exact Int.toNat_natCast _ | rfl) (by first | exact Int.toNat_natCast _ | rfl) (by omega) (by omega) (by omega)) rfl ?_
          refine Lx.y (asg rfl) rfl ?_
          refine Lx.nil ?_
          refine Xx.tn (k17 _ _ _ _ ?_)
          refine Cx.seq (fun K18 k18 => ?_)
          refine Cx.region ?_
          refine Lx.y (mv rfl) rfl ?_
          refine Lx.y (mv rfl) rfl ?_
          refine Lx.y (mv rfl) rfl ?_
          refine Lx.y (mv rfl) rfl ?_
          refine Lx.y (add rfl rfl (by first | exact wrap64 (by omega) (by omega) | rfl)) rfl ?_
          refine Lx.y (sl1S Try.underlying9 rfl rfl (by first | exact Int.toNat_natCast _ | rfl) (by omega) (by omega)) rfl ?_
          refine Lx.cp rfl rfl rfl (number_ct _ _ (by simp; omega)) rfl ?_
          refine Lx.y (mv rfl) rfl ?_
          refine Lx.cp rfl rfl rfl (Check_ct _ _ (by simp; omega)) rfl ?_
          refine Lx.y (eqW32 rfl rfl) rfl ?_
          refine Lx.y (bld ti119 pl119 rfl rfl) rfl ?_
          refine Lx.st (stA (d := .bool) sz119 rfl rfl rfl rfl (by simp) rfl) ?_
          refine Lx.y (asg rfl) rfl ?_
          refine Lx.nil ?_
          refine Xx.tn (k18 _ _ _ _ ?_)
          refine Cx.ret ?_
          refine Xx.rBc rfl Try.underlying119 rfl sz119 rfl rfl rfl ⟨?_, rfl⟩ (Frag.le_refl _)
          exact (nextV_yes (by unfold nextF; rw [if_neg q0, if_neg q1, if_neg (by simpa using q2), if_neg q3])).symm

def nx (l : List UInt8) (a : Nat) : Fm := (nextF l a).getD ⟨0, [], false⟩
theorem nextV_eq (l : List UInt8) (a : Nat) : nextV l a = .tuple #[.agg [i64 (nx l a).pos, str (nx l a).body, .bool (nx l a).good].toArray, .bool (nextF l a).isSome] := by
  unfold nextV nx; cases nextF l a <;> rfl
theorem nx_bound {l : List UInt8} {a : Nat} (ha : a ≤ l.length) (h : (nextF l a).isSome = true) : (nx l a).pos = a + 12 ∧ (nx l a).pos + (nx l a).body.length ≤ l.length := by
  unfold nx
  unfold nextF at *
  split at h
  · cases h
  · split at h
    · cases h
    · split at h
      · cases h
      · split at h
        · cases h
        · rename_i h1 h2 h3 h4
          rw [if_neg h1, if_neg h2, if_neg h3, if_neg h4]
          simp
          omega
def scanF (l : List UInt8) : Nat → Nat → List Fm
  | 0, _ => []
  | n + 1, a => if (nextF l a).isSome = true then nx l a :: scanF l n ((nx l a).pos + (nx l a).body.length) else []
def scanL (l : List UInt8) : List Fm := scanF l (l.length + 1) 0
theorem scanF_len (l : List UInt8) : ∀ (n a : Nat), a ≤ l.length → 12 * (scanF l n a).length + a ≤ l.length := by
  intro n
  induction n with
  | zero => intro a ha; simpa [scanF] using ha
  | succ n ih =>
    intro a ha
    unfold scanF
    split
    · rename_i h
      have h1 := nx_bound ha h
      have h2 := ih ((nx l a).pos + (nx l a).body.length) h1.2
      simp only [List.length_cons]
      omega
    · simpa using ha
theorem scanF_mem (l : List UInt8) : ∀ (n a : Nat), a ≤ l.length → ∀ f ∈ scanF l n a, f.pos + f.body.length ≤ l.length := by
  intro n
  induction n with
  | zero => intro a ha f hf; simp [scanF] at hf
  | succ n ih =>
    intro a ha f hf
    unfold scanF at hf
    split at hf
    · rename_i h
      have h1 := nx_bound ha h
      rcases List.mem_cons.1 hf with rfl | h2
      · exact h1.2
      · exact ih _ h1.2 f h2
    · cases hf
theorem next_ct' (l : List UInt8) (a : Nat) (B : Frag) (hl : l.length ≤ 4611686018427387904) (ha : a ≤ l.length) : CtP Try.prog 97 [str l, i64 a] B (.tuple #[.agg [i64 (nx l a).pos, str (nx l a).body, .bool (nx l a).good].toArray, .bool (nextF l a).isSome]) := by
  rw [← nextV_eq]; exact next_ct l a B hl ha
def endL (xs : List Fm) : Nat := match xs.getLast? with
  | none => 0
  | some f => f.pos + f.body.length
@[simp] theorem endL_snoc (xs : List Fm) (x : Fm) : endL (xs ++ [x]) = x.pos + x.body.length := by simp [endL]
def flatF (xs : List Fm) : List Value := xs.flatMap fun f => [i64 f.pos, str f.body, .bool f.good]
@[simp] theorem flatF_snoc (xs : List Fm) (x : Fm) : flatF (xs ++ [x]) = flatF xs ++ [i64 x.pos, str x.body, .bool x.good] := by simp [flatF]
theorem flatF_len (xs : List Fm) : (flatF xs).length = xs.length * 3 := by
  unfold flatF
  induction xs with
  | nil => rfl
  | cons x xs ih => simp only [List.flatMap_cons, List.length_append, ih, List.length_cons, List.length_nil]; omega

set_option maxHeartbeats 1000000 in
theorem All_ct (l : List UInt8) (B : Frag) : CtB Try.prog 81 [str l] B (fun v B' => ∃ b, v = .func (.func 96) #[] #[.pointer (some ⟨b, 0, none⟩)] ∧ B' b = some (.cells [str l].toArray 9 (0, 0))) := by
  refine CtB.of_body Try.func81 rfl (nt := 4) rfl (by kernel_rfl) rfl ?_
  intro N0 w0 R
  refine Cx.seq (fun K1 k1 => ?_)
  refine Cx.region ?_
  refine Lx.new (boxO rfl rfl) rfl (fun bb => ?_)
  refine Lx.y (asg rfl) rfl ?_
  refine Lx.nil ?_
  refine Xx.tn (k1 _ _ _ _ ?_)
  refine Cx.seq (fun K2 k2 => ?_)
  refine Cx.region ?_
  refine Lx.y (mkf rfl rfl) rfl ?_
  refine Lx.y (asg rfl) rfl ?_
  refine Lx.nil ?_
  refine Xx.tn (k2 _ _ _ _ ?_)
  refine Cx.ret ?_
  refine Xx.freezeB bb fun B2 hB2 hb => ?_
  exact Xx.rB1 rfl rfl ⟨bb, rfl, hb⟩ hB2 rfl

set_option maxHeartbeats 1000000 in
theorem All1_it (l : List UInt8) (b : Nat) (B : Frag) (hl : l.length ≤ 4611686018427387904) (hb : B b = some (.cells [str l].toArray 9 (0, 0))) : It Try.prog 96 [.pointer (some ⟨b, 0, none⟩)] (fun f => [fmV f]) (scanL l) B 1 := by
  refine ⟨Go.SL.enters_of Try.func96 rfl (by kernel_rfl), fun lp J Jx hy B1 H1 hB1 hJ0 => ?_⟩
  refine Ct.of_body Try.func96 rfl (nt := 26) rfl (by kernel_rfl) rfl ?_
  intro N0 w0 R
  rw [one_star]
  refine Cx.seq (fun K1 k1 => ?_)
  refine Cx.region ?_
  refine Lx.y (asg rfl) rfl ?_
  refine Lx.nil ?_
  refine Xx.tn (k1 _ _ _ _ ?_)
  refine Cx.block ?_
  refine Cx.loopK (Sub.cons (s := 0) rfl (Sub.cons (s := 1) rfl (Sub.nil _))) (fun m ρ' B' H' => ∃ (n a : Nat) (pre : List Fm) (B2 : Frag) (H2 : HP), (scanL l = pre ++ scanF l n a ∧ l.length < n + a ∧ a ≤ l.length ∧ J pre B2 H2 ∧ B1.le B2) ∧ m = 1 + n ∧ ρ' = [(3, i64 a)] ∧ B2 = B' ∧ H2 * R = H') ⟨l.length + 1, 0, [], B1, H1, ⟨rfl, by omega, by omega, hJ0, Frag.le_refl _⟩, rfl, rfl, rfl, rfl⟩ (Sub.cons (s := 3) rfl (Sub.cons (s := 0) rfl (Sub.cons (s := 1) rfl (Sub.nil _)))) ?_
  rintro m ρ' B' H' ⟨n, a, pre, B2, H2, ⟨hxs, hn, ha, hJ, hB2⟩, rfl, rfl, rfl, rfl⟩
  obtain ⟨n, rfl⟩ : ∃ k, n = k + 1 := ⟨n - 1, by omega⟩
  refine Cx.block ?_
  refine Cx.seq (fun K2 k2 => ?_)
  refine Cx.region ?_
  refine Lx.y (ldB Try.underlying9 rfl rfl (hB2 _ _ (hB1 _ _ hb)) rfl) rfl ?_
  refine Lx.y (mv rfl) rfl ?_
  refine Lx.cp rfl rfl rfl (next_ct' l a _ hl ha) rfl ?_
  refine Lx.y (mv rfl) rfl ?_
  refine Lx.y (ext rfl rfl) rfl ?_
  refine Lx.y (ext rfl rfl) rfl ?_
  refine Lx.new (allocO ti119) rfl (fun b4 => ?_)
  refine Lx.st (stA (d := .bool) sz119 rfl rfl rfl rfl (by simp) rfl) ?_
  refine Lx.y (asg rfl) rfl ?_
  refine Lx.nil ?_
  refine Xx.tn (k2 _ _ _ _ ?_)
  refine Cx.seq (fun K3 k3 => ?_)
  refine Cx.seq (fun K4 k4 => ?_)
  refine Cx.region ?_
  refine Lx.y (mv rfl) rfl ?_
  refine Lx.y (not' rfl) rfl ?_
  refine Lx.y (mv rfl) rfl ?_
  refine Xx.ifB (t := 14) rfl (fun h5 => ?_) (fun h5 => ?_)
  · skip
    have his : ¬ (nextF l a).isSome = true := by simpa using h5
    have hxs2 : scanL l = pre := by rw [hxs, scanF, if_neg his]; simp
    refine Lx.gF rfl rfl rfl rfl ?_
    refine Lx.gF rfl rfl rfl rfl ?_
    refine Lx.gF rfl rfl rfl rfl ?_
    refine Lx.gF rfl rfl rfl rfl ?_
    refine Lx.y (pickT rfl rfl) rfl ?_
    refine Lx.nil ?_
    refine Xx.tn (k4 _ _ _ _ ?_)
    refine Cx.condT rfl ?_
    refine Cx.ret ?_
    refine Xx.tr ?_
    refine Xx.br ?_
    refine Xx.tr ?_
    refine Xx.br ?_
    refine Xx.dropB b4 ?_
    exact Xx.ret0 rfl ⟨H2, (one_star H2).symm, .inl (hxs2 ▸ hJ)⟩ hB2 rfl
  · skip
    have his : (nextF l a).isSome = true := by simpa using h5
    have hnb := nx_bound ha his
    have hxs2 : scanL l = (pre ++ [nx l a]) ++ scanF l n ((nx l a).pos + (nx l a).body.length) := by rw [hxs, scanF, if_pos his]; simp
    refine Lx.gT rfl rfl rfl ?_
    refine Lx.y (mv rfl) rfl ?_
    refine Lx.gT rfl rfl rfl ?_
    refine Lx.y (ldA Try.underlying119 rfl sz119 rfl (Cells.own (n := 3) PickB.eq rfl) rfl) rfl ?_
    refine Lx.gT rfl rfl rfl ?_
    refine Lx.yield rfl rfl (hy pre (nx l a) (scanF l n ((nx l a).pos + (nx l a).body.length)) B2 H2 (by rw [hxs2]; simp) (Frag.le_trans hB1 hB2) hJ) (star_left _ _ _) rfl ?_
    rintro t B3 H3 hΦ hB3
    refine Lx.gT rfl rfl rfl ?_
    refine Lx.y (not' rfl) rfl ?_
    refine Lx.y (pickF rfl rfl) rfl ?_
    refine Lx.nil ?_
    refine Xx.tn (k4 _ _ _ _ ?_)
    refine Cx.condB rfl (fun h6 => ?_) (fun h6 => ?_)
    · skip
      obtain ⟨_, hΦ⟩ : t = false ∧ Jx (pre ++ [nx l a]) B3 H3 := by simpa [show t = false by simpa using h6] using hΦ
      refine Cx.ret ?_
      refine Xx.tr ?_
      refine Xx.br ?_
      refine Xx.tr ?_
      refine Xx.br ?_
      refine Xx.dropB b4 ?_
      exact Xx.ret0 rfl ⟨H3, (one_star H3).symm, .inr ⟨_, _, hxs2, hΦ⟩⟩ (Frag.le_trans hB2 hB3) rfl
    · skip
      obtain ⟨_, hΦ⟩ : t = true ∧ J (pre ++ [nx l a]) B3 H3 := by simpa [show t = true by simpa using h6] using hΦ
      refine Cx.skip ?_
      refine Xx.tn (k3 _ _ _ _ ?_)
      refine Cx.region ?_
      refine Lx.y (fa' fo119_0 rfl) rfl ?_
      refine Lx.y (ld Try.underlying3 rfl rfl rfl) rfl ?_
      refine Lx.y (fa' fo119_1 rfl) rfl ?_
      refine Lx.y (ld Try.underlying9 rfl rfl rfl) rfl ?_
      refine Lx.y (lenS Try.underlying9 rfl) rfl ?_
      refine Lx.y (add rfl rfl (by first | exact wrap64 (by omega) (by omega) | rfl)) rfl ?_
      refine Lx.y (asg rfl) rfl ?_
      refine Lx.nil ?_
      refine Xx.bn ?_
      refine Xx.dropB b4 ?_
      exact Xx.againK ⟨n, (nx l a).pos + (nx l a).body.length, pre ++ [nx l a], B3, H3, ⟨hxs2, by omega, hnb.2, hΦ, Frag.le_trans hB2 hB3⟩, rfl, rfl, rfl, rfl⟩ (by omega) (Sub.cons (s := 3) rfl (Sub.cons (s := 0) rfl (Sub.cons (s := 1) rfl (Sub.nil _))))
end Fr2
end Go.Proofs.Ytgcebieihmlaoaa

/-
  The walks of the two scans, and of awake.
-/
namespace Go.Proofs.Ytgcebieihmlaoaa
open Go.SL Go.RowKit
set_option linter.unusedVariables false
set_option linter.unusedSimpArgs false
set_option maxRecDepth 100000
open Fr1 Fr2
namespace Fr3
theorem sz3 : (Try.prog.info? 3).map (·.size) = some 1 := by kernel_rfl
theorem sz116 : (Try.prog.info? 116).map (·.size) = some 1 := by kernel_rfl
theorem sz119 : (Try.prog.info? 119).map (·.size) = some 3 := by kernel_rfl
theorem ti3 : TI Try.prog 3 [.int .i64 0] 1 8 := TI.of (by kernel_rfl) rfl rfl
theorem ti116 : TI Try.prog 116 [.slice none 0 0] 1 24 := TI.of (by kernel_rfl) rfl rfl
theorem ti119 : TI Try.prog 119 [.int .i64 0, str [], .bool false] 3 32 := TI.of (by kernel_rfl) rfl rfl
theorem fo119_0 : FO Try.prog 119 0 0 1 false := FO.of Try.underlying119 rfl rfl (by kernel_rfl) Try.underlying3 rfl rfl
theorem fo119_1 : FO Try.prog 119 1 1 1 false := FO.of Try.underlying119 rfl rfl (by kernel_rfl) Try.underlying9 rfl rfl

set_option maxHeartbeats 1000000 in
theorem Scan_ct (l : List UInt8) (B : Frag) (hl : l.length ≤ 1048576) : CtB Try.prog 58 [str l] B (fun v B' => ∃ A c, v = .tuple #[.slice A (scanL l).length c, i64 (endL (scanL l))] ∧ RoS B' 3 A (scanL l).length (flatF (scanL l)) ∧ (scanL l).length ≤ c) := by
  refine CtB.of_bodyM Try.func58 rfl (nt := 22) rfl (by kernel_rfl) rfl ?_
  intro N0 w0 R
  refine Cx.seq (fun K1 k1 => ?_)
  refine Cx.region ?_
  refine Lx.y (asg rfl) rfl ?_
  refine Lx.y (asg rfl) rfl ?_
  refine Lx.nil ?_
  refine Xx.tn (k1 _ _ _ _ ?_)
  refine Cx.seq (fun K2 k2 => ?_)
  refine Cx.region ?_
  refine Lx.new (allocO ti116) rfl (fun bo => ?_)
  refine Lx.nil ?_
  refine Xx.tn (k2 _ _ _ _ ?_)
  refine Cx.seq (fun K3 k3 => ?_)
  refine Cx.region ?_
  refine Lx.new (allocO ti3) rfl (fun be => ?_)
  refine Lx.st (stO Try.underlying3 sz3 rfl rfl rfl (by simp) rfl) ?_
  refine Lx.nil ?_
  refine Xx.tn (k3 _ _ _ _ ?_)
  refine Cx.seq (fun K4 k4 => ?_)
  refine Cx.seq (fun K5 k5 => ?_)
  refine Cx.region ?_
  refine Lx.y (mv rfl) rfl ?_
  refine Lx.cb rfl rfl rfl (All_ct l _) rfl ?_
  rintro v B2 ⟨bb, rfl, hbb⟩ hB2
  refine Lx.nil ?_
  refine Xx.tn (k5 _ _ _ _ ?_)
  refine Cx.block ?_
  refine Cx.rangeK (σ := _) (Sub.cons (s := 4) rfl (Sub.cons (s := 5) rfl (Sub.nil _))) rfl rfl (All1_it l bb B2 (by omega) hbb) (show _ = 1 * ((sbuf 119 3 none 0 0 [] * (row bo 116 [.slice none 0 0] * row be 3 [.int .i64 0])) * R) by rw [sbuf_nil, one_star, one_star]; ac_rfl) rfl (fun _ => rfl) (fun pre B' H' => ∃ A c n e xs, n = pre.length ∧ e = endL pre ∧ xs = flatF pre ∧ H' = sbuf 119 3 A n c xs * (row bo 116 [.slice A n c] * row be 3 [i64 e])) (fun _ _ _ _ => False) (fun pre x B1 ρ' B' H' => ∃ bf A c n e xs, n = pre.length ∧ e = endL pre ∧ xs = flatF pre ∧ ρ' = [(6, .pointer (some ⟨bf, 0, none⟩))] ∧ B' = B1 ∧ H' = row bf 119 [i64 x.pos, str x.body, .bool x.good] * (sbuf 119 3 A n c xs * (row bo 116 [.slice A n c] * row be 3 [i64 e]))) (⟨none, 0, 0, 0, [], rfl, rfl, rfl, rfl⟩) ?_ ?_ ?_ ?_
  · rintro lz Nz wz pre x post B1 H1 F K hxs hB1 hJ hK
    obtain ⟨A, c, n, e, xs, hn, he, hxs2, rfl⟩ := hJ
    refine Cx.region ?_
    refine Lx.new (allocO ti119) rfl (fun bf => ?_)
    refine Lx.st (stA (d := .bool) sz119 rfl rfl rfl rfl (by simp) rfl) ?_
    refine Lx.nil ?_
    refine Xx.tn ?_
    exact Xx.sub (Xx.perm (hK _ _ _ ⟨bf, A, c, n, e, xs, hn, he, hxs2, rfl, rfl, rfl⟩ (Frag.le_refl _)) (star_assoc _ _ _).symm) (Sub.cons (s := 6) rfl (Sub.cons (s := 4) rfl (Sub.cons (s := 5) rfl (Sub.nil _))))
  · rintro lz Nz wz pre x post B1 F ρ' B' H' hxs hB1 hBx hAS
    obtain ⟨bf, A, c, n, e, xs, hn, he, hxs2, rfl, rfl, rfl⟩ := hAS
    have hlen := scanF_len l (l.length + 1) 0 (by omega)
    have hxl : (scanL l).length = pre.length + 1 + post.length := by rw [hxs]; simp; omega
    have hxb := scanF_mem l (l.length + 1) 0 (by omega) x (by show x ∈ scanL l; rw [hxs]; simp)
    unfold scanL at hxl
    simp only [star_assoc]
    refine Cx.block ?_
    refine Cx.drawn (by kernel_rfl) ?_
    refine Dx.r (i := 0) rfl (by kernel_rfl) (ld Try.underlying116 rfl rfl rfl) rfl ?_
    refine Dx.r (i := 1) rfl (by kernel_rfl) (ldA Try.underlying119 rfl sz119 rfl (Cells.own (n := 3) PickB.eq rfl) rfl) rfl ?_
    refine Dx.p (i := 4) rfl (by kernel_rfl) (fa' fo119_0 rfl) rfl ?_
    refine Dx.r (i := 5) rfl (by kernel_rfl) (ld Try.underlying3 rfl rfl rfl) rfl ?_
    refine Dx.p (i := 6) rfl (by kernel_rfl) (fa' fo119_1 rfl) rfl ?_
    refine Dx.r (i := 7) rfl (by kernel_rfl) (ld Try.underlying9 rfl rfl rfl) rfl ?_
    refine Dx.p (i := 8) rfl (by kernel_rfl) (lenS Try.underlying9 rfl) rfl ?_
    refine Dx.p (i := 9) rfl (by kernel_rfl) (add rfl rfl (by first | exact wrap64 (by omega) (by omega) | rfl)) rfl ?_
    refine Dx.one (i := 2) (by kernel_rfl) ?_
    refine Dstep.o (i := 2) rfl (bslA Try.underlying116 ti119 rfl rfl (by decide)) rfl (fun v B' H' hΦ hB => ?_)
    obtain ⟨b12, rfl, rfl, rfl⟩ := hΦ; clear hB
    refine ⟨JOk.yes (JOk.yes (JOk.edge (JOk.yes (JOk.top) (ld Try.underlying116 rfl rfl rfl)) (by kernel_rfl)) (ld Try.underlying3 rfl rfl rfl)) (ld Try.underlying9 rfl rfl rfl), ?_⟩
    refine Dx.one (i := 3) (by kernel_rfl) ?_
    refine Dstep.o (i := 3) rfl (appR Try.underlying116 Try.underlying116 ti119 rfl rfl rfl rfl rfl (by omega) (by omega)) rfl (fun v B' H' hΦ hB => ?_)
    obtain ⟨A2, c2, rfl, hA2, hl2, hc2, rfl, rfl⟩ := hΦ
    refine ⟨JOk.yes (JOk.yes (JOk.yes (JOk.edge (JOk.top) (by kernel_rfl)) (ldA Try.underlying119 rfl sz119 rfl (Cells.own (n := 3) PickB.eq rfl) rfl)) (ld Try.underlying3 rfl rfl rfl)) (ld Try.underlying9 rfl rfl rfl), ?_⟩
    refine Dx.one (i := 10) (by kernel_rfl) ?_
    refine Dstep.o0 (i := 10) rfl (stO Try.underlying116 sz116 rfl rfl rfl (by simp) rfl) (fun v B' H' hΦ hB => ?_)
    obtain ⟨rfl, rfl⟩ := hΦ; clear hB v
    refine ⟨JOk.yes (JOk.yes (JOk.edge (JOk.edge (JOk.top) (by kernel_rfl)) (by kernel_rfl)) (ld Try.underlying3 rfl rfl rfl)) (ld Try.underlying9 rfl rfl rfl), ?_⟩
    refine Dx.one (i := 11) (by kernel_rfl) ?_
    refine Dstep.o0 (i := 11) rfl (stO Try.underlying3 sz3 rfl rfl rfl (by simp) rfl) (fun v B' H' hΦ hB => ?_)
    obtain ⟨rfl, rfl⟩ := hΦ; clear hB v
    refine ⟨JOk.edge (JOk.edge (JOk.edge (JOk.edge (JOk.top) (by kernel_rfl)) (by kernel_rfl)) (by kernel_rfl)) (by kernel_rfl), ?_⟩
    refine Dx.done (by kernel_rfl) ?_
    refine Xx.bn ?_
    refine Xx.dropB b12 (Xx.dropB bf ?_)
    exact Xx.rqn ⟨A2, c2, n + 1, x.pos + x.body.length, _, by simp [hn], by simp, (by rw [flatF_snoc, ← hxs2]), rfl⟩ hBx (show row be 3 [i64 (x.pos + x.body.length)] * (row bo 116 [.slice A2 (n + 1) c2] * (sbuf 119 3 A2 (n + 1) c2 (xs ++ [i64 x.pos, str x.body, .bool x.good]) * F)) = (sbuf 119 3 A2 (n + 1) c2 (xs ++ [i64 x.pos, str x.body, .bool x.good]) * (row bo 116 [.slice A2 (n + 1) c2] * row be 3 [i64 (x.pos + x.body.length)])) * F by ac_rfl)
  · rintro D B' H' hBx hJ
    obtain ⟨A, c, n, e, xs, hn, he, hxs2, rfl⟩ := hJ
    simp only [star_assoc]
    refine Xx.bn ?_
    refine Xx.tn (k4 _ _ _ _ ?_)
    refine Cx.seq (fun K7 k7 => ?_)
    refine Cx.drawn (by kernel_rfl) ?_
    refine Dx.r (i := 0) rfl (by kernel_rfl) (ld Try.underlying116 rfl rfl rfl) rfl ?_
    refine Dx.r (i := 1) rfl (by kernel_rfl) (ld Try.underlying3 rfl rfl rfl) rfl ?_
    refine Dx.p (i := 2) rfl (by kernel_rfl) (asg rfl) rfl ?_
    refine Dx.p (i := 3) rfl (by kernel_rfl) (asg rfl) rfl ?_
    refine Dx.done (by kernel_rfl) ?_
    refine Xx.tn (k7 _ _ _ _ ?_)
    refine Cx.ret ?_
    subst hn; subst he; subst hxs2
    refine Xx.freezeT A fun B3 hB3 hRo hnc _ => ?_
    refine Xx.dropB bo (Xx.dropB be ?_)
    exact Xx.rBM (Ds := [D]) (res2 rfl rfl rfl) ⟨A, c, rfl, hRo, hnc⟩ (Frag.le_trans (Frag.le_trans hB2 hBx) hB3) (by simp only [marks, star_assoc])
  · rintro D c pre post B' H' hxs hBx hJx
    exact hJx.elim
end Fr3
end Go.Proofs.Ytgcebieihmlaoaa
