/-
  Calls that turn what they own, told outright.
-/
import Derived.Test.YtgcebieihmlaoaaSlo
namespace Go.SL
open Go.RowKit
set_option linter.unusedVariables false
/-- Called with these, owning pre: it returns v, owning post. -/
abbrev CtC (P : Program) (f : FuncId) (args : List Value) (B : Frag) (pre : HP) (v : Value) (post : HP) : Prop := Ct P f args B pre fun v' B' H' => v' = v ∧ B' = B ∧ H' = post
section
variable {e : Env} {ds : List Deferred} {Q : Exit → Act → World → Prop} {ρ : Sl} {B : Frag} {H pre post R : HP} {ops : Array Oper} {rest : List Oper}
theorem Ox.co {x : Operand} {xs : Array Operand} {ts : Array TypeId} {ty : TypeId} {fi : FuncId} {first caps : Array Value} {args vs : List Value} {v : Value}
    (hf : ev ρ x = some (.func (.func fi) first caps)) (hx : evl ρ xs.toList = some vs) (ha : first.toList ++ vs ++ caps.toList = args) (hc : CtC e.P fi args B pre v post) (hH : H = pre * R) :
    Ox e ds (.call { callee := .value x, args := xs, argTypes := ts }) ty ρ B H (fun v' B' H' => v' = v ∧ B' = B ∧ H' = post * R) :=
  ⟨fun _ h => (by cases h), fun a w dst pos after guard K Q f b s k => (Ox.call (ds := ds) hf hx ha hc hH).2 a w dst pos after guard K Q f b s
    fun v' B' H' w' ⟨H1, h1, h2, h3, h4⟩ hB hb hs => k v' B' H' w' ⟨h2, h3, by rw [h1, h4]⟩ hB hb hs⟩
theorem Lx.co {x : Operand} {xs : Array Operand} {ts : Array TypeId} {ty : TypeId} {pos : String} {af : Array Edge} {d : Nat} {fi : FuncId} {first caps : Array Value} {args vs : List Value} {v : Value}
    (hf : ev ρ x = some (.func (.func fi) first caps)) (hx : evl ρ xs.toList = some vs) (ha : first.toList ++ vs ++ caps.toList = args) (hc : CtC e.P fi args B pre v post) (hH : H = pre * R) (hd : Nat.blt d e.nt = true)
    (k : Lx e ds ops Q rest ((d, v) :: ρ) B (post * R)) : Lx e ds ops Q (⟨some d, .call { callee := .value x, args := xs, argTypes := ts }, ty, pos, af, none⟩ :: rest) ρ B H :=
  Lx.o (Ox.co hf hx ha hc hH) hd fun v' B' H' ⟨e1, e2, e3⟩ hB => by subst e1; subst e2; subst e3; exact k
/-- A contract on whatever the state of one block is. -/
theorem CtC.of {P : Program} {f : FuncId} {args : List Value} {v v' : Value} {post' : HP} (h : CtC P f args B pre v post) (hv : v = v') (hp : post = post') : CtC P f args B pre v' post' := by subst hv; subst hp; exact h
/-- At a function's end: a result of many cells, in cells of its own; something else is owned behind it. -/
theorem Xx.retA {P : Program} {fn : Func} {N0 nt size : Nat} {w0 : World} {r : Option Nat} {B0 : Frag} {H' R1 : HP} {Φ : Value → Frag → HP → Prop} {t : Tmp} {ty : TypeId} {d : TypeDesc} {vs : List Value} {b : Nat} {et : TypeId} {fz : Nat × Nat}
    (hr : fn.results = #[.cell t ty]) (ht : P.underlying ty = some d) (hd : aggB d = true) (hi : (P.info? ty).map (·.size) = some size) (hv : lk ρ t = some (.pointer (some ⟨b, 0, none⟩))) [hp : PickB H b (.cells vs.toArray et fz) R1] (hl : vs.length = size)
    (hΦ : Φ (.agg vs.toArray) B H') (hB : B0.le B) (hH : R1 = H' * R) : Xx ⟨P, r, N0, w0, nt⟩ [] (bodyPost P fn (Fin N0 w0 R B0 Φ) .ret) ρ B H := fun a w f bl s => by
  have s' : St N0 B (blk b (.cells vs.toArray et fz) * R1) w := hp.eq ▸ s
  have hl := run_loadVar_row (P := P) w b et ty vs.toArray fz d s'.blk.1 ht (by cases d <;> simp_all [aggB]) (by rw [hi]; simp [hl])
  have h1 := f.get t _ hv
  refine ⟨f.defers, .agg vs.toArray, ?_, _, B, H', rfl, hΦ, hB, bl, hH ▸ s'.drop⟩
  simp [results, hr, h1, Sem.run_bind, asAddr, hl]
/-- append of what a row of one's own holds, told in one's own words. -/
theorem appN {R1 : HP} {t tx et ty : TypeId} {x y : Operand} {size bytes nl c nx cx b : Nat} {zs xs cs : List Value} {A : Option Addr} {tyx et' : TypeId} {fz : Nat × Nat} (n' : Nat) (news xs' : List Value)
    (ht : e.P.underlying t = some (.slice et)) (htx : e.P.underlying tx = some (.slice tyx)) (hz : TI e.P et zs size bytes)
    (hx : ev ρ x = some (.slice A nl c)) (hy : ev ρ y = some (.slice (some ⟨b, 0, none⟩) nx cx)) [h1 : PickS H A et size nl c xs R1] [h2 : PickB R1 b (.cells cs.toArray et' fz) R] (hl : news.length = nx * size) (hn : (cs.drop 0).take (nx * size) = news) (h1 : news.all (·.oneCell') = true)
    (hb : nl + nx ≤ 9223372036854775807) (hbb : (nl + nx) * bytes ≤ 140737488355328) (hn' : nl + nx = n') (hx' : xs ++ news = xs') :
    Ox e ds (.call { callee := .builtin .append, args := #[x, y], argTypes := #[t, tx] }) ty ρ B H
      (fun v B' H' => ∃ A' c', v = .slice A' n' c' ∧ (0 < n' → ∃ b, A' = some ⟨b, 0, none⟩) ∧ xs.length = nl * size ∧ n' ≤ c' ∧ B' = B ∧ H' = sbuf et size A' n' c' xs' * (blk b (.cells cs.toArray et' fz) * R)) := by
  subst hn' hx'
  exact appR ht htx hz hx hy hl hn h1 hb hbb
/-- At a function's end: two results of many cells, each in cells of its own. -/
theorem Xx.rBcc {P : Program} {fn : Func} {N0 nt size size2 : Nat} {w0 : World} {r : Option Nat} {B0 : Frag} {R1 : HP} {Φ : Value → Frag → Prop} {t u : Tmp} {ty uy : TypeId} {d d2 : TypeDesc} {vs us : List Value} {b b2 : Nat} {et et2 : TypeId} {fz fz2 : Nat × Nat}
    (hr : fn.results = #[.cell t ty, .cell u uy]) (ht : P.underlying ty = some d) (hd : aggB d = true) (hi : (P.info? ty).map (·.size) = some size) (hv : lk ρ t = some (.pointer (some ⟨b, 0, none⟩)))
    (ht2 : P.underlying uy = some d2) (hd2 : aggB d2 = true) (hi2 : (P.info? uy).map (·.size) = some size2) (hv2 : lk ρ u = some (.pointer (some ⟨b2, 0, none⟩)))
    [hp : PickB H b (.cells vs.toArray et fz) R1] [hp2 : PickB R1 b2 (.cells us.toArray et2 fz2) R] (hl : vs.length = size) (hl2 : us.length = size2)
    (hΦ : Φ (.tuple #[.agg vs.toArray, .agg us.toArray]) B) (hB : B0.le B) : Xx ⟨P, r, N0, w0, nt⟩ [] (bodyPost P fn (FinB N0 w0 R B0 Φ) .ret) ρ B H := fun a w f bl s => by
  have s' : St N0 B (blk b (.cells vs.toArray et fz) * R1) w := hp.eq ▸ s
  have s2 : St N0 B (blk b2 (.cells us.toArray et2 fz2) * R) w := hp2.eq ▸ s'.drop
  have hl := run_loadVar_row (P := P) w b et ty vs.toArray fz d s'.blk.1 ht (by cases d <;> simp_all [aggB]) (by rw [hi]; simp [hl])
  have hl2 := run_loadVar_row (P := P) w b2 et2 uy us.toArray fz2 d2 s2.blk.1 ht2 (by cases d2 <;> simp_all [aggB]) (by rw [hi2]; simp [hl2])
  have h1 := f.get t _ hv
  have h2 := f.get u _ hv2
  refine ⟨f.defers, .tuple #[.agg vs.toArray, .agg us.toArray], ?_, _, B, rfl, hΦ, hB, bl, s2.drop⟩
  simp [results, hr, h1, h2, Sem.run_bind, asAddr, hl, hl2]
end
end Go.SL
