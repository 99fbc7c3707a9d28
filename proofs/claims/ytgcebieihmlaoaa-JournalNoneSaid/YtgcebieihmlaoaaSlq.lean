/-
  For slices.Insert and its like: lists, slicing of what has an address, overlaps without a premise on blocks.
-/
import Derived.Test.YtgcebieihmlaoaaSlp
namespace Go.SL
open Go.RowKit
set_option linter.unusedVariables false
set_option linter.unusedSimpArgs false
theorem St.ne {N0 : Nat} {B : Frag} {a b : Nat} {o u : Obj} {R : HP} {w : World} (h : St N0 B (SL.blk a o * (SL.blk b u * R)) w) : a ≠ b := by
  rintro rfl
  obtain ⟨_, _, k, _, x, y, dj, _, hx, y1, y2, _, hy, h1, _⟩ := h
  have e1 : x = Frag.one a o := hx
  have e2 : y1 = Frag.one a u := h1
  subst e1 e2
  have := dj a
  rw [hy] at this
  simp [Frag.one, Frag.un] at this
section
variable {e : Env} {ds : List Deferred} {ρ : Sl} {B : Frag} {H R : HP} {t tx et et' ty tyx : TypeId} {x y : Operand} {size bytes nl nd n c b o bx : Nat} {m : Int} {k : IntKind} {P : Program} {S : World → Prop}
/-- What is cut off ahead, where the slice has an address. -/
theorem sl1A {lo : Operand} (j : Nat) (ht : P.underlying t = some (.slice et)) (hs : (P.info? et).map (·.size) = some size) (hx : ev ρ x = some (.slice (some ⟨b, o, none⟩) n c)) (hi : ev ρ lo = some (.int k m)) (hj : m = (j : Nat)) (h1 : j ≤ n) (h2 : j < c) :
    Yx P (.slice t x (some lo) none none) ty ρ S (.slice (some ⟨b, o + j * size, none⟩) (n - j) (c - j)) := by
  subst hj
  have h := sl1V (P := P) (S := S) (ty := ty) ht hs hx hi (j := j) (Int.toNat_natCast j) (by omega) (by omega)
  have e9 : subA (some ⟨b, o, none⟩) c j size = some ⟨b, o + j * size, none⟩ := by
    unfold subA; rw [if_neg (by omega)]; simp [add_mk]
  rw [e9] at h; exact h
theorem ovQ {f : FuncId} {fn : Func} {N0 : Nat} {tS tR eS : TypeId} {na ca nb cb ob : Nat} {csa csb : List Value} {ea eb : TypeId} {Ra : HP} (hf : P.funcs[f]? = some fn) (hname : (fn.name == "runtime.NumGoroutine") = false) (hb' : fn.body.isNone = true) (hn : Extern.findNext fn = none) (hfe : Extern.find fn = some (Extern.SlicesOverlaps.overlaps #[tS, tS] #[tR]))
    (ht : P.underlying tS = some (.slice eS)) (hz : (P.info? eS).map (·.size) = some size) (hH : H = row bx ea csa * (row b eb csb * Ra)) (hlb : csb ≠ []) :
    ∀ w, St N0 B H w → (callFunc f [.slice (some ⟨bx, 0, none⟩) na ca, .slice (some ⟨b, ob, none⟩) nb cb].toArray).run P w = .ok (.value (.bool false)) w := fun w s => by
  have s' : St N0 B (row bx ea csa * (row b eb csb * Ra)) w := hH ▸ s
  exact ovP hf hname hb' hn hfe ht hz s'.ne hH hlb (.inr rfl) w s
end
/-! ### What insertion does to a list -/
theorem ins_room {α : Type} {L xs news D : List α} {p s q : Nat} (hp : p ≤ xs.length) (hs : news.length = s) (hL : p + s ≤ L.length) (hx : L.take p = xs.take p) (hD : D = xs.drop p) (hq : q = p + s + D.length) :
    ((L.take (p + s) ++ D ++ L.drop q).take p ++ news ++ (L.take (p + s) ++ D ++ L.drop q).drop (p + news.length)) = xs.take p ++ news ++ xs.drop p ++ L.drop q := by
  have h1 : (L.take (p + s)).length = p + s := by simp; omega
  rw [List.append_assoc (L.take (p + s)), List.take_append_of_le_length (by omega), List.take_take, Nat.min_eq_left (by omega), hx, hs, List.drop_append, h1, Nat.sub_self, List.drop_of_length_le (by omega), hD]
  simp
theorem ins_grow1 {α : Type} {olds rest news : List α} {p s : Nat} (hp : olds.length = p) (hs : news.length = s) (hr : s ≤ rest.length) :
    (olds ++ rest).take p ++ news ++ (olds ++ rest).drop (p + news.length) = olds ++ news ++ rest.drop s := by
  rw [← hp, List.take_left, List.drop_append, hs]
  simp
theorem ins_grow2 {α : Type} {olds news rest D : List α} {p s : Nat} (hp : olds.length = p) (hs : news.length = s) :
    (olds ++ news ++ rest).take (p + s) ++ D ++ (olds ++ news ++ rest).drop (p + s + D.length) = olds ++ news ++ D ++ rest.drop D.length := by
  have h1 : (olds ++ news).length = p + s := by simp [hp, hs]
  rw [← h1, List.take_left, List.drop_append]
  simp
/-- A contract on a buffer out of one on its row. -/
theorem Ct.of_sbuf {P : Program} {f : FuncId} {args : List Value} {B : Frag} {et : TypeId} {size n c : Nat} {A : Option Addr} {xs : List Value} {q : HP} {Φ : Value → Frag → HP → Prop} (hn : 0 < n)
    (h : ∀ b sp, A = some ⟨b, 0, none⟩ → xs.length = n * size → n ≤ c → (xs ++ sp).length = c * size → Ct P f args B (q * row b et (xs ++ sp)) Φ) (he : ∀ args w, (callFunc f args).run P w = .ok (.enter f args) w) : Ct P f args B (sbuf et size A n c xs * q) Φ :=
  ⟨he, fun N0 w R s => by
    rcases (s.of_eq (star_assoc _ _ _)).cases_sbuf with ⟨_, h2, _⟩ | ⟨b, sp, h1, h2, h3, h4, s'⟩
    · omega
    · exact (h b sp h1 h2 h3 h4).2 N0 w R (s'.of_eq (by rw [← star_assoc, star_comm (row b et (xs ++ sp)) q]))⟩
theorem row_sbuf {et : TypeId} {size b n c : Nat} {xs sp : List Value} (h1 : xs.length = n * size) (h2 : n ≤ c) (h3 : (xs ++ sp).length = c * size) {N0 : Nat} {B : Frag} {R : HP} {w : World} (s : St N0 B (row b et (xs ++ sp) * R) w) : St N0 B (sbuf et size (some ⟨b, 0, none⟩) n c xs * R) w := St.of_sbuf h1 h2 h3 s
section
variable {e : Env} {ds : List Deferred} {K : Act → World → Prop} {ρ : Sl} {B : Frag} {H R : HP}
/-- A buffer opened: its row. -/
theorem Xx.openT (A : Option Addr) {et : TypeId} {size n c : Nat} {xs : List Value} [hp : PickS H A et size n c xs R] (hn : 0 < n)
    (h : ∀ b sp, A = some ⟨b, 0, none⟩ → xs.length = n * size → n ≤ c → (xs ++ sp).length = c * size → Xx e ds K ρ B (row b et (xs ++ sp) * R)) : Xx e ds K ρ B H :=
  Xx.perm (fun a w f b s => by
    rcases s.cases_sbuf with ⟨_, h2, _⟩ | ⟨bb, sp, h1, h2, h3, h4, s'⟩
    · omega
    · exact h bb sp h1 h2 h3 h4 a w f b s') hp.eq
/-- A row becomes a buffer. -/
theorem Xx.closeT (b : Nat) {et : TypeId} {cs : List Value} (xs sp : List Value) (size n c : Nat) [hp : PickB H b (.cells cs.toArray et (0, 0)) R] (hcs : cs = xs ++ sp) (h1 : xs.length = n * size) (h2 : n ≤ c) (h3 : (xs ++ sp).length = c * size)
    (h : Xx e ds K ρ B (sbuf et size (some ⟨b, 0, none⟩) n c xs * R)) : Xx e ds K ρ B H := by
  subst hcs
  exact Xx.perm (fun a w f b s => h a w f b (St.of_sbuf h1 h2 h3 s)) hp.eq
end
end Go.SL
