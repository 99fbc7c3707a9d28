/-
  The bytes of a slice as a text without a copy: the slice is let go.
-/
import Derived.Test.YtgcebieihmlaoaaSlx
import Derived.Test.YtgcebieihmlaoaaSlj
import Derived.Lib.UnsafeStr
namespace Go.SL
open Go.RowKit
set_option linter.unusedVariables false
set_option linter.unusedSimpArgs false
section
variable {P : Program} {ρ : Sl} {S : World → Prop} {ty t t2 et : TypeId} {x y : Operand} {A : Option Addr} {n c : Nat}
theorem usD (hx : ev ρ x = some (.slice A n c)) (hz : A = none ∨ c ≠ 0) : Yx P (.call { callee := .builtin .unsafeSliceData, args := #[x], argTypes := #[t] }) ty ρ S (.pointer A) := .of (fun _ h => by cases h) fun f w _ _ _ _ he _ => by
  have h : (Builtin.unsafeSliceData_ #[t] ty #[.slice A n c]).run P w = .ok (.pointer A) w := by
    cases A with
    | none => exact Lib.run_unsafeSliceData_nil _ _ _ _ _
    | some a => exact Lib.run_unsafeSliceData_row _ _ _ _ _ _ (hz.resolve_left (fun h => by cases h))
  simp [execOp, resolve, he _ _ hx, invoke, builtin, h]
/-- A block of one's own turns, and is let go. -/
theorem St.letgo {N0 : Nat} {B : Frag} {b : Nat} {o o' : Obj} {R : HP} {w w' : World} (h : St N0 B (SL.blk b o * R) w) (hb : w'.heap[b]? = some o') (hs : ∀ k, k ≠ b → w'.heap[k]? = w.heap[k]?)
    (hz' : w.heap.size ≤ w'.heap.size) : St N0 B R w' := (h.put hb hs hz').drop
variable {e : Env} {ds : List Deferred} {B : Frag} {H R : HP} {l : List UInt8}
theorem usS {pt it : TypeId} (hpt : e.P.underlying pt = some (.pointer et)) (hc : e.P.cellsOf et = 1) (hx : ev ρ x = some (.pointer A)) (hy : ev ρ y = some (i64 (n : Int))) [hp : PickS H A et 1 n c (u8s l) R] (hl : l.length = n) (hn : n ≤ 9223372036854775807) :
    Ox e ds (.call { callee := .builtin .unsafeString, args := #[x, y], argTypes := #[pt, it] }) ty ρ B H (fun v B' H' => v = str l ∧ B' = B ∧ H' = R) :=
  .of_run (fun _ h => by cases h) fun f w dst pos after guard he s => by
    subst hl
    have s0 := s.of_eq hp.eq
    by_cases h0 : l = []
    · subst h0
      refine ⟨_, w, B, R, ?_, ⟨rfl, rfl, rfl⟩, Frag.le_refl _, Below.refl _ _, s0.drop⟩
      have hr := Lib.run_unsafeString_none (P := e.P) (w := w) pt it ty A
      simp [execOp, resolve, he _ _ hx, he _ _ hy, invoke, builtin]
      rw [hr]; rfl
    · rcases s0.cases_sbuf with ⟨_, h2, _⟩ | ⟨g, sp, e1, e2, e3, e4, s'⟩
      · exact absurd (List.length_eq_zero_iff.1 h2) h0
      · subst e1
        obtain ⟨hg, hB, hN⟩ := s'.blk
        have hcs : (u8s l ++ sp).length = c := by rw [e4, Nat.mul_one]
        have hr := Lib.run_unsafeString_row (P := e.P) w pt it ty et hpt hc g c (by simp [World.shape?, hg, hcs]) l h0 (by omega) hn (fun j x hx => by
          have h1 : w.cell? ⟨g, j, none⟩ = some (.int .u8 x.toNat) := cell_of_heap hg (by
            rw [List.getElem?_append_left (by rw [u8s_len]; exact (List.getElem?_eq_some_iff.1 hx).1)]
            simp [u8s, hx])
          rw [add_mk, Nat.zero_add]; exact h1)
        refine ⟨_, w.freeze ⟨g, 0, none⟩ l.length, B, R, ?_, ⟨rfl, rfl, rfl⟩, Frag.le_refl _, Lib.below_freeze (p := ⟨g, 0, none⟩) (Below.refl _ _) hN _, ?_⟩
        · simp [execOp, resolve, he _ _ hx, he _ _ hy, invoke, builtin]
          rw [hr]; rfl
        · have hlz : ¬ l.length = 0 := fun h => h0 (List.length_eq_zero_iff.1 h)
          unfold World.freeze
          rw [if_neg hlz]
          refine s'.letgo (o' := .cells (u8s l ++ sp).toArray et (0, l.length)) ?_ (fun k hk => ?_) (by simp)
          · rw [Array.getElem?_modify, if_pos rfl, hg]; simp
          · rw [Array.getElem?_modify, if_neg (fun h => hk h.symm)]
end
theorem Xx.retC {P : Program} {B : Frag} {H R : HP} {ρ : Sl} {fn : Func} {N0 nt size : Nat} {w0 : World} {r : Option Nat} {B0 : Frag} {H' R1 : HP} {Φ : Value → Frag → HP → Prop} {t u : Tmp} {x : Value} {ty : TypeId} {d : TypeDesc} {vs : List Value} {b : Nat} {et : TypeId} {fz : Nat × Nat}
    (hr : fn.results = #[.cell t ty, .tmp u]) (ht : P.underlying ty = some d) (hd : aggB d = true) (hi : (P.info? ty).map (·.size) = some size) (hv : lk ρ t = some (.pointer (some ⟨b, 0, none⟩))) [hp : PickB H b (.cells vs.toArray et fz) R1] (hl : vs.length = size) (hx : lk ρ u = some x)
    (hΦ : Φ (.tuple #[.agg vs.toArray, x]) B H') (hB : B0.le B) (hH : R1 = H' * R) : Xx ⟨P, r, N0, w0, nt⟩ [] (bodyPost P fn (Fin N0 w0 R B0 Φ) .ret) ρ B H := fun a w f bl s => by
  have s' : St N0 B (blk b (.cells vs.toArray et fz) * R1) w := hp.eq ▸ s
  have hl := run_loadVar_row (P := P) w b et ty vs.toArray fz d s'.blk.1 ht (by cases d <;> simp_all [aggB]) (by rw [hi]; simp [hl])
  have h1 := f.get t _ hv
  have h2 := f.get u _ hx
  refine ⟨f.defers, .tuple #[.agg vs.toArray, x], ?_, _, B, H', rfl, hΦ, hB, bl, hH ▸ s'.drop⟩
  simp [results, hr, h1, h2, Sem.run_bind, asAddr, hl]
theorem Xx.rBc3 {P : Program} {B B0 : Frag} {H R : HP} {ρ : Sl} {fn : Func} {N0 nt size : Nat} {w0 : World} {r : Option Nat} {Φ : Value → Frag → Prop} {t u u2 : Tmp} {ty : TypeId} {x x2 : Value} {d : TypeDesc} {vs : List Value} {b : Nat} {et : TypeId}
    (hr : fn.results = #[.cell t ty, .tmp u, .tmp u2]) (ht : P.underlying ty = some d) (hd : aggB d = true) (hi : (P.info? ty).map (·.size) = some size) (hv : lk ρ t = some (.pointer (some ⟨b, 0, none⟩))) [hp : PickB H b (.cells vs.toArray et (0, 0)) R] (hl : vs.length = size) (hx : lk ρ u = some x) (hx2 : lk ρ u2 = some x2)
    (hΦ : Φ (.tuple #[.agg vs.toArray, x, x2]) B) (hB : B0.le B) : Xx ⟨P, r, N0, w0, nt⟩ [] (bodyPost P fn (FinB N0 w0 R B0 Φ) .ret) ρ B H := fun a w f bl s => by
  have s' : St N0 B (blk b (.cells vs.toArray et (0, 0)) * R) w := hp.eq ▸ s
  have hl := run_loadVar_row (P := P) w b et ty vs.toArray (0, 0) d s'.blk.1 ht (by cases d <;> simp_all [aggB]) (by rw [hi]; simp [hl])
  have h1 := f.get t _ hv
  have h2 := f.get u _ hx
  have h3 := f.get u2 _ hx2
  refine ⟨f.defers, .tuple #[.agg vs.toArray, x, x2], ?_, _, B, rfl, hΦ, hB, bl, s'.drop⟩
  simp [results, hr, h1, h2, h3, Sem.run_bind, asAddr, hl]
theorem Xx.rBs {P : Program} {B B0 : Frag} {H R : HP} {ρ : Sl} {fn : Func} {N0 nt : Nat} {w0 : World} {r : Option Nat} {Φ : Value → Frag → Prop} {t : Tmp} {ty : TypeId} {v : Value} {b : Nat} {et : TypeId} {d : TypeDesc} (hr : fn.results = #[.cell t ty]) (ht : P.underlying ty = some d) (hd : aggB d = false) (hv : lk ρ t = some (.pointer (some ⟨b, 0, none⟩))) [hp : PickB H b (.cells [v].toArray et (0, 0)) R]
    (hΦ : Φ v B) (hB : B0.le B) : Xx ⟨P, r, N0, w0, nt⟩ [] (bodyPost P fn (FinB N0 w0 R B0 Φ) .ret) ρ B H := fun a w f bl s =>
  ⟨f.defers, v, resC1 hr ht hd hv a w f s, v, B, rfl, hΦ, hB, bl, (hp.eq ▸ s : St N0 B (blk b _ * R) w).drop⟩
theorem Xx.dropT {e : Env} {ds : List Deferred} {K : Act → World → Prop} {ρ : Sl} {B : Frag} {H R : HP} (A : Option Addr) {et : TypeId} {size n c : Nat} {xs : List Value} [hp : PickS H A et size n c xs R] (h : Xx e ds K ρ B R) : Xx e ds K ρ B H := Xx.perm (Xx.drop h) hp.eq
theorem pickTwo {H p q R1 R2 : HP} [h1 : Pick H p R1] [h2 : Pick R1 q R2] : H = (p * q) * R2 := by rw [h1.eq, h2.eq, star_assoc]
end Go.SL
