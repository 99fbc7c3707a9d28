/-
  Texts of this seat, one behind the other: Slo, Slp, Slq, Slr, Sls, Slt, RgA, BtB, BtC, BtD, BtE, BtG, BtX, BtH, BtI, BtF, BtJ, BtK.
-/
import Derived.Laws.CopyRow
import Derived.Lib.AppendZeros
import Derived.Lib.Overlaps
import Derived.Lib.Bytealg
import Derived.LoopNIn
import Derived.Test.YtdidpocakipinaaGreatDoorProg
import Derived.Test.YtdidpocakipinaaGreatDoorMl2

/-
  More rules: copy, append of a count of zeros, the library's entries (cmpstring, overlaps), min of two numbers, loops that are unrolled.
-/
namespace Go.SL
open Go.RowKit
set_option linter.unusedVariables false
set_option linter.unusedSimpArgs false

/-! ### A loop, unrolled -/
section
variable {e : Env} {ds : List Deferred} {Q : Exit → Act → World → Prop} {ρ : Sl} {B : Frag} {H : HP}
def Rn (e : Env) (c : Code) (Q : Exit → Act → World → Prop) (m : Nat) (a : Act) (w : World) : Prop := Code.roundsIn (FW e.r) 0 e.P c Q m a w
theorem Cx.unroll {c : Code} (m : Nat) (h : Xx e ds (Rn e c Q m) ρ B H) : Cx e ds (.loop c) Q ρ B H := fun a w f b s => wpIn_loop_rounds m (h a w f b s)
theorem Xx.rn {c : Code} {m : Nat} (h : Cx e ds c (Exit.then (Rn e c Q m) Q) ρ B H) : Xx e ds (Rn e c Q (m + 1)) ρ B H := fun a w f b s => h a w f b s
end
section
variable {P : Program} {ρ : Sl} {S : World → Prop} {ty t t2 : TypeId} {x y : Operand} {v : Value}
/-- A call of an entry of the library's, that only reckons. -/
theorem extc {xs : Array Operand} {ts : Array TypeId} {fi : FuncId} {vs : List Value} (hf : ev ρ x = some (.func (.func fi) #[] #[])) (hx : evl ρ xs.toList = some vs) (h : ∀ w, S w → (callFunc fi vs.toArray).run P w = .ok (.value v) w) :
    Yx P (.call { callee := .value x, args := xs, argTypes := ts }) ty ρ S v := .of (fun _ h => by cases h) fun f w _ _ _ _ he s => by
  have hfv := he _ _ hf
  have hxv : xs.map f = vs.toArray := by
    have := he.map hx
    apply Array.toList_inj.1
    simp [this]
  have h1 := h w s
  simp only [execOp, resolve, hfv, Deferred.ofValue, hxv, Sem.run_bind, Sem.run_pure, Result.andThen, invoke]
  simpa using h1
theorem minI {k : IntKind} {m n : Int} (hx : ev ρ x = some (.int k m)) (hy : ev ρ y = some (.int k n)) : Yx P (.call { callee := .builtin .min, args := #[x, y], argTypes := #[t, t2] }) ty ρ S (.int k (if n < m then n else m)) := .of (fun _ h => by cases h) fun f w _ _ _ _ he _ => by
  simp [execOp, resolve, invoke, builtin, Builtin.min_, Builtin.min2, he _ _ hx, he _ _ hy]
end
section
variable {e : Env} {ds : List Deferred} {ρ : Sl} {B : Frag} {H R : HP} {t tx et et' ty tyx : TypeId} {x y : Operand} {size bytes nl nd c nx cx b o ox bx : Nat} {zs xs news cs cs' ncs olds : List Value} {A Ax : Option Addr} {fz : Nat × Nat}

/-- The cells of a source: in whatever state. -/
def SrcH (N0 : Nat) (B : Frag) (H : HP) (Ax : Option Addr) (news : List Value) : Prop :=
  news = [] ∨ ∃ b o, Ax = some ⟨b, o, none⟩ ∧ ∀ w, St N0 B H w → ∀ j v, news[j]? = some v → w.cell? ⟨b, o + j, none⟩ = some v
theorem SrcH.own {N0 : Nat} [hp : PickB H b (.cells cs.toArray et fz) R] (n : Nat) (hx : (cs.drop o).take n = news) : SrcH N0 B H (some ⟨b, o, none⟩) news :=
  .inr ⟨b, o, rfl, fun w s j v hj => by
    have s' : St N0 B (blk b (.cells cs.toArray et fz) * R) w := hp.eq ▸ s
    refine cell_of_heap s'.blk.1 ?_
    rw [← hx] at hj
    simp only [List.getElem?_take, List.getElem?_drop] at hj
    split at hj
    · exact hj
    · cases hj⟩
theorem St.src {N0 : Nat} {P : Program} {w : World} (h : SrcH N0 B H Ax news) (hn : news.length = nx * size) (s : St N0 B H w) (len cap : Nat) : (Builtin.firstCells size nx (.slice Ax len cap)).run P w = .ok news.toArray w := by
  rcases h with rfl | ⟨b, o, rfl, h⟩
  · have h0 : nx * size = 0 := by simpa using hn.symm
    cases Ax with
    | none => simp [Builtin.firstCells]
    | some a => exact run_firstCells_some w size nx a len cap [] (by simpa using hn) (fun j v hj => by simp at hj)
  · exact run_firstCells_some w size nx _ len cap news hn fun j v hj => by rw [add_mk]; exact h w s j v hj

/-- copy into a row of one's own. -/
theorem cpO (k : Nat) (ht : e.P.underlying t = some (.slice et')) (hs : (e.P.info? et').map (·.size) = some size) (hx : ev ρ x = some (.slice (some ⟨b, o, none⟩) nd c)) (hy : ev ρ y = some (.slice Ax nx cx))
    [hp : PickB H b (.cells cs.toArray et (0, 0)) R] (hk : Nat.min nx nd = k) (hS : SrcH e.N0 B H Ax news) (hn : news.length = k * size) (h1 : news.all (·.oneCell') = true) (hfit : o + news.length ≤ cs.length) (hr : cs.take o ++ news ++ cs.drop (o + news.length) = cs') :
    Ox e ds (.call { callee := .builtin .copy, args := #[x, y], argTypes := #[t, tx] }) ty ρ B H (fun v B' H' => v = i64 k ∧ B' = B ∧ H' = row b et cs' * R) :=
  .of_run (fun _ h => by cases h) fun f w dst pos after guard he s => by
    subst hr hk
    have s' : St e.N0 B (blk b (.cells cs.toArray et (0, 0)) * R) w := hp.eq ▸ s
    have hfc := St.src (P := e.P) (nx := Nat.min nx nd) hS hn s nx cx
    have hst := run_storeCells_at (P := e.P) b o et news 0 cs.toArray w s'.blk.1 (by simpa using hfit) (by simpa using h1)
    simp only [List.toList_toArray, Nat.add_zero] at hst
    cases hq : e.P.info? et' with
    | none => simp [hq] at hs
    | some i =>
      have hi : i.size = size := by simpa [hq] using hs
      have hcp : (Builtin.copy_ #[t, tx] ty #[.slice (some ⟨b, o, none⟩) nd c, .slice Ax nx cx]).run e.P w = .ok (i64 (Nat.min nx nd : Nat)) (w.setRow b (cs.take o ++ news ++ cs.drop (o + news.length)).toArray) := by
        rw [← hi] at hfc
        simp only [Builtin.copy_, Sem.run_bind, run_underlying ht, Result.andThen, Builtin.lenOf, Sem.run_pure, sizeOf, typeInfo, run_program, hq, hfc, hst, List.getElem?_toArray, List.getElem?_cons_zero, List.getElem?_cons_succ]
        simp [hfc, hst, goInt]
      refine ⟨_, _, B, _, ?_, ⟨rfl, rfl, rfl⟩, Frag.le_refl _, (s'.setRow _).2, (s'.setRow _).1⟩
      simp [execOp, resolve, he _ _ hx, he _ _ hy, invoke, builtin, hcp]

/-- append of so many zeros, where there is no room. -/
theorem amO {k : IntKind} {m : Nat} (ht : e.P.underlying t = some (.slice et)) (htx : e.P.underlying tx = some (.int k)) (hz : TI e.P et zs size bytes) (hx : ev ρ x = some (.slice Ax nl c)) (hy : ev ρ y = some (i64 m))
    (hS : SrcH e.N0 B H Ax olds) (hl : olds.length = nl * size) (hg : c < nl + m) (hb : nl + m ≤ 9223372036854775807) (hbb : (nl + m) * bytes ≤ 140737488355328) :
    Ox e ds (.call { callee := .builtin .append, args := #[x, y], argTypes := #[t, tx] }) ty ρ B H
      (fun v B' H' => ∃ b' c' rest, v = .slice (some ⟨b', 0, none⟩) (nl + m) c' ∧ nl + m ≤ c' ∧ rest.length + nl * size = c' * size ∧ B' = B ∧ H' = row b' et (olds ++ rest) * H) :=
  .of_run (fun _ h => by cases h) fun f w dst pos after guard he s => by
    obtain ⟨i, zv, z1, z2, z3, z4, z5, z6, z7⟩ := hz
    have hfc := St.src (P := e.P) (nx := nl) hS hl s.drew nl c
    rw [← z4] at hfc
    have hcap := nextslicecap_le (need := nl + m) (old := c) hg
    have hge : nl + m ≤ grownCap w (nl + m) c et := by unfold grownCap Question.cut; simp
    have hw : IntKind.i64.wrap (m : Int) = m := by rw [IntKind.wrap_i64]; omega
    have hfit : Builtin.nextslicecap (nl + m) c * i.bytes ≤ 281474976710656 := by
      rw [z5]
      calc Builtin.nextslicecap (nl + m) c * bytes ≤ (2 * (nl + m)) * bytes := Nat.mul_le_mul_right _ hcap
        _ = 2 * ((nl + m) * bytes) := by rw [Nat.mul_assoc]
        _ ≤ 281474976710656 := by omega
    have h63' : ¬ (9223372036854775807 < ((nl : Int) + (m : Int))) := by omega
    have h48' : ¬ (281474976710656 < Builtin.nextslicecap (nl + m) c * i.bytes) := by omega
    have h48i : ¬ (281474976710656 < (m : Int) * (i.bytes : Int)) := by
      rw [← Int.natCast_mul, z5]
      have : m * bytes ≤ (nl + m) * bytes := Nat.mul_le_mul_right _ (by omega)
      omega
    have hneg : ¬ ((m : Int) < 0) := by omega
    have hn : ¬ (nl + m ≤ c) := by omega
    obtain ⟨zm, hzm, hzl⟩ : ∃ zm : List Value, (if m * i.size = 0 then #[] else Builtin.zeroCells zv.cells m) = zm.toArray ∧ zm.length = m * size := by
      by_cases h0 : m * i.size = 0
      · exact ⟨[], by rw [if_pos h0], by rw [z4] at h0; simpa using h0.symm⟩
      · exact ⟨(Builtin.zeroCells zv.cells m).toList, by rw [if_neg h0], by simp [Builtin.zeroCells, z3, z6]⟩
    obtain ⟨sp, hsp, hspl⟩ : ∃ sp : List Value, Builtin.zeroCells zv.cells (grownCap w (nl + m) c et - (nl + m)) = sp.toArray ∧ sp.length = (grownCap w (nl + m) c et - (nl + m)) * size :=
      ⟨(Builtin.zeroCells zv.cells (grownCap w (nl + m) c et - (nl + m))).toList, by simp, by simp [Builtin.zeroCells, z3, z6]⟩
    have hr : (Builtin.append_ #[t, tx] ty #[.slice Ax nl c, i64 m]).run e.P w = .ok (.slice (some ⟨w.heap.size, 0, none⟩) (nl + m) (grownCap w (nl + m) c et)) (w.drew.alloc (.cells (olds ++ (zm ++ sp)).toArray et (0, 0))) := by
      by_cases h0 : m * i.size = 0
      · rw [if_pos h0] at hzm
        have hzm' : zm = [] := by simpa using hzm.symm
        subst hzm'
        simp [Builtin.append_, run_underlying ht, run_underlying htx, sizeOf, typeInfo, zeroValue, z1, z2, asInt, asIntOf, hw, hneg, hn, h0, h63', h48', h48i, Question.forced, hfc, newRow, grownCap]
        have h9 := hsp
        simp [grownCap] at h9
        simp [h9]
      · rw [if_neg h0] at hzm
        simp [Builtin.append_, run_underlying ht, run_underlying htx, sizeOf, typeInfo, zeroValue, z1, z2, asInt, asIntOf, hw, hneg, hn, h0, h63', h48', h48i, Question.forced, hfc, newRow, grownCap]
        have h9 := hsp
        simp [grownCap] at h9
        simp [h9, hzm]
    refine ⟨_, _, B, _, ?_, ⟨_, _, zm ++ sp, rfl, hge, ?_, rfl, rfl⟩, Frag.le_refl _, ((Below.refl _ _).drew).alloc s.sz _, s.drew.alloc _⟩
    · simp [execOp, resolve, he _ _ hx, he _ _ hy, invoke, builtin, hr]
    · have h2 : (grownCap w (nl + m) c et) * size = (grownCap w (nl + m) c et - (nl + m)) * size + (nl + m) * size := by rw [← Nat.add_mul]; congr 1; omega
      simp [hzl, hspl, h2, Nat.add_mul]; omega

/-- slices.overlaps, of a row of one's own and another one. -/
theorem ovP {f : FuncId} {fn : Func} {P : Program} {N0 : Nat} {tS tR eS : TypeId} {na ca nb cb oa ob : Nat} {csa csb : List Value} {ea eb : TypeId} {Ra : HP} (hf : P.funcs[f]? = some fn) (hname : (fn.name == "runtime.NumGoroutine") = false) (hb' : fn.body.isNone = true) (hn : Extern.findNext fn = none) (hfe : Extern.find fn = some (Extern.SlicesOverlaps.overlaps #[tS, tS] #[tR]))
    (ht : P.underlying tS = some (.slice eS)) (hz : (P.info? eS).map (·.size) = some size) (hne : bx ≠ b) (hH : H = row bx ea csa * (row b eb csb * Ra)) (hlb : csb ≠ []) (hoa : oa < csa.length ∨ oa = 0) :
    ∀ w, St N0 B H w → (callFunc f [.slice (some ⟨bx, oa, none⟩) na ca, .slice (some ⟨b, ob, none⟩) nb cb].toArray).run P w = .ok (.value (.bool false)) w := fun w s => by
  have s' : St N0 B (row bx ea csa * (row b eb csb * Ra)) w := hH ▸ s
  have ha := s'.blk.1
  have hbk := s'.drop.blk.1
  rw [run_callFunc_extern hf hname hb' hn hfe]
  have hsz : ∀ w, (Go.sizeOf eS).run P w = .ok size w := fun w => by
    cases hq : P.info? eS with
    | none => simp [hq] at hz
    | some i => have hi : i.size = size := by simpa [hq] using hz
                simp [sizeOf, typeInfo, hq, hi]
  have := Lib.run_overlaps_apart (P := P) w tS tR eS ht size hsz ⟨bx, oa, none⟩ ⟨b, ob, none⟩ na ca nb cb hne ea eb csa.length csb.length (by simp [World.shape?, ha]) (by simp [World.shape?, hbk]) (by simpa using hlb)
    (by simp [World.frozen?, ha]) (by simp [World.frozen?, ha])
  have e9 : (Extern.SlicesOverlaps.overlaps #[tS, tS] #[tR] [.slice (some ⟨bx, oa, none⟩) na ca, .slice (some ⟨b, ob, none⟩) nb cb].toArray).run P w = .ok (.bool false) w := this
  rw [e9]; rfl
end
end Go.SL

/-
  Calls that turn what they own, told outright.
-/
namespace Go.SL
open Go.RowKit
set_option linter.unusedVariables false
/-- Called with these, owning pre: it returns v, owning post. -/
abbrev CtC (P : Program) (f : FuncId) (args : List Value) (B : Frag) (pre : HP) (v : Value) (post : HP) : Prop := Ct P f args B pre fun v' B' H' => v' = v ∧ B' = B ∧ H' = post
section
variable {e : Env} {ds : List Deferred} {Q : Exit → Act → World → Prop} {ρ : Sl} {B : Frag} {H pre post R : HP} {ops : Array Oper} {rest : List Oper}
theorem Ox.co {x : Operand} {xs : Array Operand} {ts : Array TypeId} {ty : TypeId} {fi : FuncId} {first caps : Array Value} {args vs : List Value} {v : Value}
    (hf : ev ρ x = some (.func (.func fi) first caps)) (hx : evl ρ xs.toList = some vs) (ha : first.toList ++ vs ++ caps.toList = args) (hc : CtC e.P fi args B pre v post) (hH : H = pre * R) :
    Ox e ds (.call { callee := .value x, args := xs, argTypes := ts }) ty ρ B H (fun v' B' H' => v' = v ∧ B' = B ∧ H' = post * R) :=
  ⟨fun _ h => (by cases h), fun a w dst pos after guard K Q f b s k => (Ox.call (ds := ds) hf hx ha hc hH).2 a w dst pos after guard K Q f b s
    fun v' B' H' w' ⟨H1, h1, h2, h3, h4⟩ hB hb hs => k v' B' H' w' ⟨h2, h3, by rw [h1, h4]⟩ hB hb hs⟩
theorem Lx.co {x : Operand} {xs : Array Operand} {ts : Array TypeId} {ty : TypeId} {pos : String} {af : Array Edge} {d : Nat} {fi : FuncId} {first caps : Array Value} {args vs : List Value} {v : Value}
    (hf : ev ρ x = some (.func (.func fi) first caps)) (hx : evl ρ xs.toList = some vs) (ha : first.toList ++ vs ++ caps.toList = args) (hc : CtC e.P fi args B pre v post) (hH : H = pre * R) (hd : Nat.blt d e.nt = true)
    (k : Lx e ds ops Q rest ((d, v) :: ρ) B (post * R)) : Lx e ds ops Q (⟨some d, .call { callee := .value x, args := xs, argTypes := ts }, ty, pos, af, none⟩ :: rest) ρ B H :=
  Lx.o (Ox.co hf hx ha hc hH) hd fun v' B' H' ⟨e1, e2, e3⟩ hB => by subst e1; subst e2; subst e3; exact k
/-- At a function's end: a result of many cells, in cells of its own; something else is owned behind it. -/
theorem Xx.retA {P : Program} {fn : Func} {N0 nt size : Nat} {w0 : World} {r : Option Nat} {B0 : Frag} {H' R1 : HP} {Φ : Value → Frag → HP → Prop} {t : Tmp} {ty : TypeId} {d : TypeDesc} {vs : List Value} {b : Nat} {et : TypeId} {fz : Nat × Nat}
    (hr : fn.results = #[.cell t ty]) (ht : P.underlying ty = some d) (hd : aggB d = true) (hi : (P.info? ty).map (·.size) = some size) (hv : lk ρ t = some (.pointer (some ⟨b, 0, none⟩))) [hp : PickB H b (.cells vs.toArray et fz) R1] (hl : vs.length = size)
    (hΦ : Φ (.agg vs.toArray) B H') (hB : B0.le B) (hH : R1 = H' * R) : Xx ⟨P, r, N0, w0, nt⟩ [] (bodyPost P fn (Fin N0 w0 R B0 Φ) .ret) ρ B H := fun a w f bl s => by
  have s' : St N0 B (blk b (.cells vs.toArray et fz) * R1) w := hp.eq ▸ s
  have hl := run_loadVar_row (P := P) w b et ty vs.toArray fz d s'.blk.1 ht (by cases d <;> simp_all [aggB]) (by rw [hi]; simp [hl])
  have h1 := f.get t _ hv
  refine ⟨f.defers, .agg vs.toArray, ?_, _, B, H', rfl, hΦ, hB, bl, hH ▸ s'.drop⟩
  simp [results, hr, h1, asAddr, hl]
/-- append of what a row of one's own holds, told in one's own words. -/
theorem appN {R1 : HP} {t tx et ty : TypeId} {x y : Operand} {size bytes nl c nx cx b : Nat} {zs xs cs : List Value} {A : Option Addr} {tyx et' : TypeId} {fz : Nat × Nat} (n' : Nat) (news xs' : List Value)
    (ht : e.P.underlying t = some (.slice et)) (htx : e.P.underlying tx = some (.slice tyx)) (hz : TI e.P et zs size bytes)
    (hx : ev ρ x = some (.slice A nl c)) (hy : ev ρ y = some (.slice (some ⟨b, 0, none⟩) nx cx)) [h1 : PickS H A et size nl c xs R1] [h2 : PickB R1 b (.cells cs.toArray et' fz) R] (hl : news.length = nx * size) (hn : (cs.drop 0).take (nx * size) = news) (h1 : news.all (·.oneCell') = true)
    (hb : nl + nx ≤ 9223372036854775807) (hbb : (nl + nx) * bytes ≤ 140737488355328) (hn' : nl + nx = n') (hx' : xs ++ news = xs') :
    Ox e ds (.call { callee := .builtin .append, args := #[x, y], argTypes := #[t, tx] }) ty ρ B H
      (fun v B' H' => ∃ A' c', v = .slice A' n' c' ∧ (0 < n' → ∃ b, A' = some ⟨b, 0, none⟩) ∧ xs.length = nl * size ∧ n' ≤ c' ∧ B' = B ∧ H' = sbuf et size A' n' c' xs' * (blk b (.cells cs.toArray et' fz) * R)) := by
  subst hn' hx'
  exact appR ht htx hz hx hy hl hn h1 hb hbb
end
end Go.SL

/-
  For slices.Insert and its like: lists, slicing of what has an address, overlaps without a premise on blocks.
-/
namespace Go.SL
open Go.RowKit
set_option linter.unusedVariables false
set_option linter.unusedSimpArgs false
theorem St.ne {N0 : Nat} {B : Frag} {a b : Nat} {o u : Obj} {R : HP} {w : World} (h : St N0 B (SL.blk a o * (SL.blk b u * R)) w) : a ≠ b := by
  rintro rfl
  obtain ⟨_, _, k, _, x, y, dj, _, hx, y1, y2, _, hy, h1, _⟩ := h
  have e1 : x = Frag.one a o := hx
  have e2 : y1 = Frag.one a u := h1
  subst e1 e2
  have := dj a
  rw [hy] at this
  simp [Frag.one, Frag.un] at this
section
variable {e : Env} {ds : List Deferred} {ρ : Sl} {B : Frag} {H R : HP} {t tx et et' ty tyx : TypeId} {x y : Operand} {size bytes nl nd n c b o bx : Nat} {m : Int} {k : IntKind} {P : Program} {S : World → Prop}
/-- What is cut off ahead, where the slice has an address. -/
theorem sl1A {lo : Operand} (j : Nat) (ht : P.underlying t = some (.slice et)) (hs : (P.info? et).map (·.size) = some size) (hx : ev ρ x = some (.slice (some ⟨b, o, none⟩) n c)) (hi : ev ρ lo = some (.int k m)) (hj : m = (j : Nat)) (h1 : j ≤ n) (h2 : j < c) :
    Yx P (.slice t x (some lo) none none) ty ρ S (.slice (some ⟨b, o + j * size, none⟩) (n - j) (c - j)) := by
  subst hj
  have h := sl1V (P := P) (S := S) (ty := ty) ht hs hx hi (j := j) (Int.toNat_natCast j) (by omega) (by omega)
  have e9 : subA (some ⟨b, o, none⟩) c j size = some ⟨b, o + j * size, none⟩ := by
    unfold subA; rw [if_neg (by omega)]; simp [add_mk]
  rw [e9] at h; exact h
theorem ovQ {f : FuncId} {fn : Func} {N0 : Nat} {tS tR eS : TypeId} {na ca nb cb ob : Nat} {csa csb : List Value} {ea eb : TypeId} {Ra : HP} (hf : P.funcs[f]? = some fn) (hname : (fn.name == "runtime.NumGoroutine") = false) (hb' : fn.body.isNone = true) (hn : Extern.findNext fn = none) (hfe : Extern.find fn = some (Extern.SlicesOverlaps.overlaps #[tS, tS] #[tR]))
    (ht : P.underlying tS = some (.slice eS)) (hz : (P.info? eS).map (·.size) = some size) (hH : H = row bx ea csa * (row b eb csb * Ra)) (hlb : csb ≠ []) :
    ∀ w, St N0 B H w → (callFunc f [.slice (some ⟨bx, 0, none⟩) na ca, .slice (some ⟨b, ob, none⟩) nb cb].toArray).run P w = .ok (.value (.bool false)) w := fun w s => by
  have s' : St N0 B (row bx ea csa * (row b eb csb * Ra)) w := hH ▸ s
  exact ovP hf hname hb' hn hfe ht hz s'.ne hH hlb (.inr rfl) w s
end
/-! ### What insertion does to a list -/
theorem ins_room {α : Type} {L xs news D : List α} {p s q : Nat} (hp : p ≤ xs.length) (hs : news.length = s) (hL : p + s ≤ L.length) (hx : L.take p = xs.take p) (hD : D = xs.drop p) (hq : q = p + s + D.length) :
    ((L.take (p + s) ++ D ++ L.drop q).take p ++ news ++ (L.take (p + s) ++ D ++ L.drop q).drop (p + news.length)) = xs.take p ++ news ++ xs.drop p ++ L.drop q := by
  have h1 : (L.take (p + s)).length = p + s := by simp; omega
  rw [List.append_assoc (L.take (p + s)), List.take_append_of_le_length (by omega), List.take_take, Nat.min_eq_left (by omega), hx, hs, List.drop_append, h1, Nat.sub_self, List.drop_of_length_le (by omega), hD]
  simp
theorem ins_grow1 {α : Type} {olds rest news : List α} {p s : Nat} (hp : olds.length = p) (hs : news.length = s) (hr : s ≤ rest.length) :
    (olds ++ rest).take p ++ news ++ (olds ++ rest).drop (p + news.length) = olds ++ news ++ rest.drop s := by
  rw [← hp, List.take_left, List.drop_append, hs]
  simp
theorem ins_grow2 {α : Type} {olds news rest D : List α} {p s : Nat} (hp : olds.length = p) (hs : news.length = s) :
    (olds ++ news ++ rest).take (p + s) ++ D ++ (olds ++ news ++ rest).drop (p + s + D.length) = olds ++ news ++ D ++ rest.drop D.length := by
  have h1 : (olds ++ news).length = p + s := by simp [hp, hs]
  rw [← h1, List.take_left, List.drop_append]
  simp
/-- A contract on a buffer out of one on its row. -/
theorem Ct.of_sbuf {P : Program} {f : FuncId} {args : List Value} {B : Frag} {et : TypeId} {size n c : Nat} {A : Option Addr} {xs : List Value} {q : HP} {Φ : Value → Frag → HP → Prop} (hn : 0 < n)
    (h : ∀ b sp, A = some ⟨b, 0, none⟩ → xs.length = n * size → n ≤ c → (xs ++ sp).length = c * size → Ct P f args B (q * row b et (xs ++ sp)) Φ) (he : ∀ args w, (callFunc f args).run P w = .ok (.enter f args) w) : Ct P f args B (sbuf et size A n c xs * q) Φ :=
  ⟨he, fun N0 w R s => by
    rcases (s.of_eq (star_assoc _ _ _)).cases_sbuf with ⟨_, h2, _⟩ | ⟨b, sp, h1, h2, h3, h4, s'⟩
    · omega
    · exact (h b sp h1 h2 h3 h4).2 N0 w R (s'.of_eq (by rw [← star_assoc, star_comm (row b et (xs ++ sp)) q]))⟩
theorem row_sbuf {et : TypeId} {size b n c : Nat} {xs sp : List Value} (h1 : xs.length = n * size) (h2 : n ≤ c) (h3 : (xs ++ sp).length = c * size) {N0 : Nat} {B : Frag} {R : HP} {w : World} (s : St N0 B (row b et (xs ++ sp) * R) w) : St N0 B (sbuf et size (some ⟨b, 0, none⟩) n c xs * R) w := St.of_sbuf h1 h2 h3 s
section
variable {e : Env} {ds : List Deferred} {K : Act → World → Prop} {ρ : Sl} {B : Frag} {H R : HP}
/-- A buffer opened: its row. -/
theorem Xx.openT (A : Option Addr) {et : TypeId} {size n c : Nat} {xs : List Value} [hp : PickS H A et size n c xs R] (hn : 0 < n)
    (h : ∀ b sp, A = some ⟨b, 0, none⟩ → xs.length = n * size → n ≤ c → (xs ++ sp).length = c * size → Xx e ds K ρ B (row b et (xs ++ sp) * R)) : Xx e ds K ρ B H :=
  Xx.perm (fun a w f b s => by
    rcases s.cases_sbuf with ⟨_, h2, _⟩ | ⟨bb, sp, h1, h2, h3, h4, s'⟩
    · omega
    · exact h bb sp h1 h2 h3 h4 a w f b s') hp.eq
/-- A row becomes a buffer. -/
theorem Xx.closeT (b : Nat) {et : TypeId} {cs : List Value} (xs sp : List Value) (size n c : Nat) [hp : PickB H b (.cells cs.toArray et (0, 0)) R] (hcs : cs = xs ++ sp) (h1 : xs.length = n * size) (h2 : n ≤ c) (h3 : (xs ++ sp).length = c * size)
    (h : Xx e ds K ρ B (sbuf et size (some ⟨b, 0, none⟩) n c xs * R)) : Xx e ds K ρ B H := by
  subst hcs
  exact Xx.perm (fun a w f b s => h a w f b (St.of_sbuf h1 h2 h3 s)) hp.eq
end
end Go.SL

/-
  For a region that draws: four that are ready.
-/
namespace Go.SL
open Go.RowKit
set_option linter.unusedVariables false
section
variable {e : Env} {ds : List Deferred} {Q : Exit → Act → World → Prop} {ρ : Sl} {B : Frag} {H : HP} {ops : Array Oper} {J : Nat → World → Prop} {fuel : Nat} {listed : Array Bool}
end
end Go.SL

/-
  What is owned is lent to one who only reads.
-/
namespace Go.SL
open Go.RowKit
set_option linter.unusedVariables false
/-- Apart from each other. -/
def Frag.apart (k B : Frag) : Prop := ∀ b o, k b = some o → B b = Option.none
theorem Frag.un_right {B k : Frag} (h : k.apart B) {b : Nat} {o : Obj} (hb : k b = some o) : Frag.un B k b = some o := by
  simp [Frag.un, h b o hb, hb]
theorem Frag.le_un (B k : Frag) : B.le (Frag.un B k) := fun b o h => by simp [Frag.un, h]
theorem St.lend {N0 : Nat} {B : Frag} {p R : HP} {w : World} (h : St N0 B (p * R) w) :
    ∃ k : Frag, p k ∧ k.apart B ∧ St N0 (Frag.un B k) R w ∧ ∀ R' w', St N0 (Frag.un B k) R' w' → St N0 B (p * R') w' := by
  obtain ⟨hr, hz, f, hf, k, c, d, e, x, y⟩ := h
  have hk : ∀ b o, k b = some o → w.heap[b]? = some o ∧ B b = Option.none ∧ N0 ≤ b := fun b o hb => hf b o (by rw [e]; simp [Frag.un, hb])
  have hc : ∀ b o, c b = some o → k b = Option.none := fun b o hb => by
    rcases d b with z | z
    · exact z
    · rw [z] at hb; cases hb
  have hap : k.apart B := fun b o hb => (hk b o hb).2.1
  refine ⟨k, x, hap, ⟨fun b o hb => ?_, hz, c, fun b o hb => ?_, y⟩, fun R' w' s => ?_⟩
  · simp only [Frag.un] at hb
    cases hB : B b with
    | some u => rw [hB] at hb; simp at hb; subst hb; exact hr b u hB
    | none => rw [hB] at hb; simp at hb; exact (hk b o hb).1
  · have h1 := hf b o (by rw [e]; simp [Frag.un, hc b o hb, hb])
    exact ⟨h1.1, by simp [Frag.un, h1.2.1, hc b o hb], h1.2.2⟩
  · obtain ⟨hr', hz', f', hf', y'⟩ := s
    have hd : ∀ b o, f' b = some o → k b = Option.none := fun b o hb => by
      have := (hf' b o hb).2.1
      simp only [Frag.un, Option.or_eq_none_iff] at this
      exact this.2
    refine ⟨fun b o hb => hr' b o (Frag.le_un B k b o hb), hz', Frag.un k f', fun b o hb => ?_, k, f', fun b => ?_, rfl, x, y'⟩
    · simp only [Frag.un] at hb
      cases hkb : k b with
      | some u =>
        rw [hkb] at hb; simp at hb; subst hb
        exact ⟨hr' b u (Frag.un_right hap hkb), (hk b u hkb).2⟩
      | none =>
        rw [hkb] at hb; simp at hb
        obtain ⟨g1, g2, g3⟩ := hf' b o hb
        simp only [Frag.un, Option.or_eq_none_iff] at g2
        exact ⟨g1, g2.1, g3⟩
    · cases hfb : f' b with
      | none => exact .inr rfl
      | some u => exact .inl (hd b u hfb)
/-- A reader's contract, for what is owned. -/
theorem CtC.lend {P : Program} {f : FuncId} {args : List Value} {B : Frag} {p : HP} {v : Value} (he : ∀ args w, (callFunc f args).run P w = .ok (.enter f args) w)
    (h : ∀ k : Frag, p k → k.apart B → CtP P f args (Frag.un B k) v) : CtC P f args B p v p :=
  ⟨he, fun N0 w R s => by
    obtain ⟨k, hk, hap, s', back⟩ := s.lend
    refine ((h k hk hap).2 N0 w R s').mono ?_
    rintro x w' ⟨v', B', hx, ⟨rfl, rfl⟩, _, hb, s2⟩
    exact ⟨v', B, p, hx, ⟨rfl, rfl, rfl⟩, Frag.le_refl _, hb, back R w' s2⟩⟩
theorem Ct.lend {P : Program} {f : FuncId} {args : List Value} {B : Frag} {p q : HP} {Φ : Value → HP → Prop} (he : ∀ args w, (callFunc f args).run P w = .ok (.enter f args) w)
    (h : ∀ k : Frag, p k → k.apart B → Ct P f args (Frag.un B k) q (fun v B' H' => B' = Frag.un B k ∧ Φ v H')) : Ct P f args B (p * q) (fun v B' H' => B' = B ∧ ∃ H0, Φ v H0 ∧ H' = p * H0) :=
  ⟨he, fun N0 w R s => by
    obtain ⟨k, hk, hap, s', back⟩ := (s.of_eq (star_assoc _ _ _)).lend
    refine ((h k hk hap).2 N0 w R s').mono ?_
    rintro x w' ⟨v', B', H', hx, ⟨rfl, hΦ⟩, _, hb, s2⟩
    exact ⟨v', B, _, hx, ⟨rfl, H', hΦ, rfl⟩, Frag.le_refl _, hb, (back _ w' s2).of_eq (star_assoc _ _ _).symm⟩⟩
/-- A buffer, as what is only read. -/
theorem sbuf_ro {B k : Frag} {et : TypeId} {size n c : Nat} {A : Option Addr} {xs : List Value} (h : sbuf et size A n c xs k) (ha : k.apart B) : RoS (Frag.un B k) size A n xs ∧ n ≤ c := by
  rcases h with ⟨e1, e2, e3, e4, e5⟩ | ⟨b, sp, e1, e2, e3, e4, e5⟩
  · subst e1 e2 e3 e4; exact ⟨RoS.nil _ _, Nat.le_refl _⟩
  · subst e5
    refine ⟨⟨e2, .inr ⟨b, 0, xs ++ sp, et, (0, 0), e1, ?_, ?_⟩⟩, e3⟩
    · exact Frag.un_right ha (by simp [Frag.one])
    · rw [List.drop_zero, ← e2, List.take_left]
theorem RoS.cut {B : Frag} {size n b c j : Nat} {xs : List Value} (h : RoS B size (some ⟨b, 0, none⟩) n xs) (hj : j ≤ n) : RoS B size (some ⟨b, 0 + j * size, none⟩) (n - j) (xs.drop (j * size)) := by
  obtain ⟨h1, ⟨h2, _⟩ | ⟨b2, o, cs, et, fz, h3, h4, h5⟩⟩ := h
  · cases h2
  · injection h3 with h3
    injection h3 with g1 g2
    subst g1 g2
    have e : (n - j) * size = n * size - j * size := Nat.sub_mul _ _ _
    refine ⟨by rw [List.length_drop, h1, e], .inr ⟨b, 0 + j * size, cs, et, fz, rfl, h4, ?_⟩⟩
    rw [← h5, e, ← List.drop_drop, List.drop_take]
section
variable {e : Env} {ds : List Deferred} {K : Act → World → Prop} {ρ : Sl} {B : Frag} {H R : HP}
/-- Where a buffer that is not empty lies. -/
theorem Xx.addrT (A : Option Addr) {et : TypeId} {size n c : Nat} {xs : List Value} [hp : PickS H A et size n c xs R] (hn : 0 < n)
    (h : ∀ b, A = some ⟨b, 0, none⟩ → xs.length = n * size → n ≤ c → Xx e ds K ρ B H) : Xx e ds K ρ B H := fun a w f b s => by
  have s' := s.of_eq hp.eq
  rcases s'.cases_sbuf with ⟨_, h2, _⟩ | ⟨bb, sp, h1, h2, h3, _, _⟩
  · omega
  · exact h bb h1 h2 h3 a w f b s
theorem Cells.buf {N0 b n c size m o : Nat} {xs vs : List Value} {et : TypeId} [hp : PickS H (some ⟨b, 0, none⟩) et size n c xs R] (hv : (xs.drop o).take m = vs) (hm : o + m ≤ xs.length) : Cells N0 B H b o vs := by
  intro w s j v hj
  have s' := s.of_eq hp.eq
  rcases s'.cases_sbuf with ⟨h1, _⟩ | ⟨bb, sp, h1, h2, h3, h4, s2⟩
  · cases h1
  · injection h1 with h1
    injection h1 with h1
    subst h1
    have hv2 : ((xs ++ sp).drop o).take m = vs := by rw [List.drop_append_of_le_length (by omega), List.take_append_of_le_length (by rw [List.length_drop]; omega)]; exact hv
    exact Cells.own (H := blk b (.cells (xs ++ sp).toArray et (0, 0)) * R) rfl hv2 w s2 j v hj
theorem pickSB (A : Option Addr) (b : Nat) {et : TypeId} {size n c : Nat} {xs : List Value} {R1 : HP} {o : Obj} [h1 : PickS H A et size n c xs R1] [h2 : PickB R1 b o R] : H = (sbuf et size A n c xs * blk b o) * R := by
  rw [PickS.eq (H := H) (A := A), h2.eq, star_assoc]
theorem pickS (A : Option Addr) {et : TypeId} {size n c : Nat} {xs : List Value} [h1 : PickS H A et size n c xs R] : H = sbuf et size A n c xs * R := h1.eq
/-- Fewer of a buffer. -/
theorem Xx.lessT (b m : Nat) {et : TypeId} {size n c : Nat} {xs : List Value} [hp : PickS H (some ⟨b, 0, none⟩) et size n c xs R] (hm : m ≤ n)
    (h : Xx e ds K ρ B (sbuf et size (some ⟨b, 0, none⟩) m c (xs.take (m * size)) * R)) : Xx e ds K ρ B H :=
  Xx.perm (fun a w f b' s => by
    rcases s.cases_sbuf with ⟨h1, _⟩ | ⟨bb, sp, h1, h2, h3, h4, s2⟩
    · cases h1
    · injection h1 with h1
      injection h1 with h1
      subst h1
      have hle : m * size ≤ n * size := Nat.mul_le_mul_right _ hm
      refine h a w f b' (St.of_sbuf (sp := xs.drop (m * size) ++ sp) (by rw [List.length_take]; omega) (by omega) (by rw [← List.append_assoc, List.take_append_drop]; exact h4) ?_)
      rw [← List.append_assoc, List.take_append_drop]; exact s2) hp.eq
end
end Go.SL

/-
  Loops whose marks grow (a range over a function in a loop); append within a row; clear of a row's part.
-/
namespace Go.SL
open Go.RowKit
set_option linter.unusedVariables false
set_option linter.unusedSimpArgs false
/-- A round has gone by; the marks may be others. -/
def LKd (e : Env) (I : Nat → List Deferred → Sl → Frag → HP → Prop) (m : Nat) (a : Act) (w : World) : Prop :=
  ∃ m' ds ρ B H, m' < m ∧ I m' ds ρ B H ∧ Fr ρ e.nt ds a ∧ Below e.N0 e.w0 w ∧ St e.N0 B H w
section
variable {e : Env} {ds : List Deferred} {Q : Exit → Act → World → Prop} {ρ ρ' : Sl} {B : Frag} {H : HP}
theorem Xx.againD {I : Nat → List Deferred → Sl → Frag → HP → Prop} {m m' : Nat} (hi : I m' ds ρ' B H) (hm : m' < m) (hs : Sub ρ ρ') : Xx e ds (LKd e I m) ρ B H := fun _ _ f b s => ⟨m', ds, ρ', B, H, hm, hi, f.sub hs, b, s⟩
open Classical in
theorem Cx.loopD {c : Code} (I : Nat → List Deferred → Sl → Frag → HP → Prop) {m : Nat} (h0 : I m ds ρ' B H) (hs : Sub ρ ρ')
    (round : ∀ m ds ρ B H, I m ds ρ B H → Cx e ds c (Exit.then (LKd e I m) Q) ρ B H) : Cx e ds (.loop c) Q ρ B H := by
  intro a w f b s
  let J : Nat → Act → World → Prop := fun m a w => ∃ ds ρ B H, I m ds ρ B H ∧ Fr ρ e.nt ds a ∧ Below e.N0 e.w0 w ∧ St e.N0 B H w
  let μ : Act → World → Nat := fun a w => if h : ∃ m, J m a w then Classical.choose (least h) else 0
  have hμ : ∀ m a w, J m a w → μ a w ≤ m ∧ J (μ a w) a w := by
    intro m a w h
    have hex : ∃ m, J m a w := ⟨m, h⟩
    simp only [μ, dif_pos hex]
    have := Classical.choose_spec (least hex)
    exact ⟨this.2 m h, this.1⟩
  refine wpIn_loop (fun a w => ∃ m, J m a w) μ ⟨m, ds, ρ', B, H, h0, f.sub hs, b, s⟩ ?_
  rintro a w ⟨m, hm⟩
  obtain ⟨_, ds1, ρ1, B1, H1, hi, f1, b1, s1⟩ := hμ m a w hm
  refine wpIn_mono (round _ ds1 ρ1 B1 H1 hi a w f1 b1 s1) fun ex a' w' q => ?_
  cases ex with
  | normal =>
    obtain ⟨m', ds2, ρ2, B2, H2, hlt, hi2, f2, b2, s2⟩ := q
    have hj : J m' a' w' := ⟨ds2, ρ2, B2, H2, hi2, f2, b2, s2⟩
    exact ⟨⟨m', hj⟩, Nat.lt_of_le_of_lt (hμ m' a' w' hj).1 hlt⟩
  | exit id => exact q
  | goto l => exact q
  | ret => exact q
  | panic c => exact q
  | outgrown => exact q
/-- A loop in which functions are ranged over: Ds the marks; σ: the slots that it leaves alone. -/
abbrev KD (σ : Sl) (I : Nat → List Nat → Sl → Frag → HP → Prop) : Nat → List Deferred → Sl → Frag → HP → Prop :=
  fun m ds ρ B H => ∃ Ds ρ', ds = List.map mark Ds ∧ ρ = ρ' ++ σ ∧ I m Ds ρ' B H
theorem Cx.loopKD {c : Code} {σ : Sl} (hσ : Sub ρ σ) (I : Nat → List Nat → Sl → Frag → HP → Prop) {m : Nat} (Ds : List Nat) (hds : ds = List.map mark Ds) (h0 : I m Ds ρ' B H) (hs : Sub ρ (ρ' ++ σ))
    (round : ∀ m Ds ρ' B H, I m Ds ρ' B H → Cx e (List.map mark Ds) c (Exit.then (LKd e (KD σ I) m) Q) (ρ' ++ σ) B H) : Cx e ds (.loop c) Q ρ B H :=
  Cx.loopD (KD σ I) ⟨Ds, ρ', hds, rfl, h0⟩ hs fun m ds ρ B H ⟨Ds, ρ', h1, h2, h3⟩ => by subst h1; subst h2; exact round m Ds ρ' B H h3
theorem Xx.againKD {σ : Sl} {I : Nat → List Nat → Sl → Frag → HP → Prop} {m m' : Nat} (Ds : List Nat) (hds : ds = List.map mark Ds) (hi : I m' Ds ρ' B H) (hm : m' < m) (hs : Sub ρ (ρ' ++ σ)) : Xx e ds (LKd e (KD σ I) m) ρ B H :=
  Xx.againD ⟨Ds, ρ', hds, rfl, hi⟩ hm hs
/-- At a function's end, without a return. -/
theorem Xx.eM {P : Program} {r : Option Nat} {N0 nt : Nat} {w0 : World} {B0 : Frag} {H' R : HP} {fn : Func} {Φ : Value → Frag → HP → Prop} {v : Value} (Ds : List Nat) (hds : ds = List.map mark Ds) (hr : ∀ a w, Fr ρ nt ds a → St N0 B (H' * R) w → (results fn a.tmps).run P w = .ok v w)
    (hΦ : Φ v B H') (hB : B0.le B) (hH : H = marks Ds * (H' * R)) : Xx ⟨P, r, N0, w0, nt⟩ ds (bodyPostM (FW none) 0 P fn (Fin N0 w0 R B0 Φ) .normal) ρ B H := by
  subst hds
  exact Xx.rM hr hΦ hB hH
/-- The marks' blocks. -/
theorem marks_cons (D : Nat) (l : List Nat) : marks (D :: l) = blk D dfr * marks l := rfl
theorem marks_nil : marks [] = 1 := rfl
end
section
variable {e : Env} {ds : List Deferred} {ρ : Sl} {B : Frag} {H R : HP} {t tx et et' ty tyx : TypeId} {x y : Operand} {size bytes nl nx c cx b o : Nat} {zs news cs cs' : List Value} {Ax : Option Addr}
/-- append in the row itself, where there is room, out of whatever source. -/
theorem apR (ht : e.P.underlying t = some (.slice et)) (htx : e.P.underlying tx = some (.slice tyx)) (hz : TI e.P et zs size bytes)
    (hx : ev ρ x = some (.slice (some ⟨b, o, none⟩) nl c)) (hy : ev ρ y = some (.slice Ax nx cx)) [hp : PickB H b (.cells cs.toArray et (0, 0)) R]
    (hS : SrcH e.N0 B H Ax news) (hl : news.length = nx * size) (h1 : news.all (·.oneCell') = true) (hroom : nl + nx ≤ c) (hfit : o + nl * size + news.length ≤ cs.length) (hr : cs.take (o + nl * size) ++ news ++ cs.drop (o + nl * size + news.length) = cs') :
    Ox e ds (.call { callee := .builtin .append, args := #[x, y], argTypes := #[t, tx] }) ty ρ B H (fun v B' H' => v = .slice (some ⟨b, o, none⟩) (nl + nx) c ∧ B' = B ∧ H' = row b et cs' * R) :=
  .of_run (fun _ h => by cases h) fun f w dst pos after guard he s => by
    subst hr
    obtain ⟨i, zv, z1, z2, z3, z4, z5, z6, z7⟩ := hz
    have s' : St e.N0 B (blk b (.cells cs.toArray et (0, 0)) * R) w := hp.eq ▸ s
    have hfc := St.src (P := e.P) (nx := nx) hS hl s nx cx
    have hst := run_storeCells_at (P := e.P) b (o + nl * size) et news 0 cs.toArray w s'.blk.1 (by simpa using hfit) (by simpa using h1)
    simp only [List.toList_toArray, Nat.add_zero] at hst
    have hap : (Builtin.append_ #[t, tx] ty #[.slice (some ⟨b, o, none⟩) nl c, .slice Ax nx cx]).run e.P w = .ok (.slice (some ⟨b, o, none⟩) (nl + nx) c) (w.setRow b (cs.take (o + nl * size) ++ news ++ cs.drop (o + nl * size + news.length)).toArray) := by
      simp only [Builtin.append_, Sem.run_bind, Sem.run_pure, Result.andThen, run_underlying ht, run_underlying htx, sizeOf, typeInfo, run_program, z1, z4, Builtin.lenOf, hroom, if_true, hfc, add_mk, hst, List.getElem?_toArray, List.getElem?_cons_zero, List.getElem?_cons_succ]
      simp [hroom, hfc, hst]
    refine ⟨_, _, B, _, ?_, ⟨rfl, rfl, rfl⟩, Frag.le_refl _, (s'.setRow _).2, (s'.setRow _).1⟩
    simp [execOp, resolve, he _ _ hx, he _ _ hy, invoke, builtin, hap]
/-- A slice cut at both ends and in its room. -/
theorem sl4V {P : Program} {S : World → Prop} {A : Option Addr} {n : Nat} {lo hi mx : Operand} {k1 k2 k3 : IntKind} {m z q : Int} (ht : P.underlying t = some (.slice et)) (hs : (P.info? et).map (·.size) = some size) (hx : ev ρ x = some (.slice A n c))
    (hl : ev ρ lo = some (.int k1 m)) (hh : ev ρ hi = some (.int k2 z)) (hm : ev ρ mx = some (.int k3 q)) (h0 : 0 ≤ m) (h1 : m ≤ z) (h2 : z ≤ q) (h3 : q ≤ c) :
    Yx P (.slice t x (some lo) (some hi) (some mx)) ty ρ S (.slice (subA A q.toNat m.toNat size) (z.toNat - m.toNat) (q.toNat - m.toNat)) := .of (fun _ h => by cases h) fun f w _ _ _ _ he _ => by
  have g1 : m ≤ (z.toNat : Int) := by omega
  have g2 : z ≤ (q.toNat : Int) := by omega
  have g3 : 0 ≤ z := by omega
  have g4 : 0 ≤ q := by omega
  have hb : (Instr.sliceBounds true n c (some (.int k1 m)) (some (.int k2 z)) (some (.int k3 q))).run P w = .ok (m.toNat, z.toNat, q.toNat) w := by
    simp [Instr.sliceBounds, Instr.sliceBound, asIntOf, h0, h1, h2, h3, g1, g2, g3, g4]
    rw [show max q 0 = q by omega, show max z 0 = z by omega, if_pos h2, if_pos h1]
  cases hq : P.info? et with
  | none => simp [hq] at hs
  | some i =>
    have hi' : i.size = size := by simpa [hq] using hs
    have : (Instr.sliceAt t (.slice A n c) (some (.int k1 m)) (some (.int k2 z)) (some (.int k3 q))).run P w = .ok (.slice (subA A q.toNat m.toNat size) (z.toNat - m.toNat) (q.toNat - m.toNat)) w := by
      simp only [Instr.sliceAt, Sem.run_bind, run_underlying ht, Result.andThen, Instr.slice, hb, sizeOf, typeInfo, run_program, hq, hi', Sem.run_pure, subA]
    simp only [execOp, Option.map_some, he _ _ hx, he _ _ hl, he _ _ hh, he _ _ hm, Sem.run_bind, this, Result.andThen, Sem.run_pure]
/-- The part of a row behind a place, as a source. -/
theorem SrcH.sub {N0 j n : Nat} {xs sp : List Value} {fz : Nat × Nat} [hp : PickB H b (.cells (xs ++ sp).toArray et fz) R] (hx : xs.length = n * size) (hj : j ≤ n) (hn : n ≤ c) : SrcH N0 B H (subA (some ⟨b, 0, none⟩) c j size) (xs.drop (j * size)) := by
  by_cases e : c = j
  · exact .inl (List.drop_of_length_le (by rw [hx]; exact Nat.mul_le_mul_right _ (by omega)))
  · have e9 : subA (some ⟨b, 0, none⟩) c j size = some ⟨b, 0 + j * size, none⟩ := by
      unfold subA; rw [if_neg e]; simp [add_mk]
    rw [e9]
    have hle : j * size ≤ n * size := Nat.mul_le_mul_right _ hj
    refine SrcH.own (n * size - j * size) ?_
    rw [Nat.zero_add, List.drop_append_of_le_length (by omega), List.take_append_of_le_length (by rw [List.length_drop]; omega), List.take_of_length_le (by rw [List.length_drop]; omega)]
/-- What is cut off ahead and behind, where the slice has an address. -/
theorem sl3A {P : Program} {S : World → Prop} {n : Nat} {lo hi : Operand} {k1 k2 : IntKind} {m z : Int} (i j : Nat) (ht : P.underlying t = some (.slice et)) (hs : (P.info? et).map (·.size) = some size) (hx : ev ρ x = some (.slice (some ⟨b, o, none⟩) n c)) (hl : ev ρ lo = some (.int k1 m)) (hh : ev ρ hi = some (.int k2 z)) (hi' : m = (i : Nat)) (hj : z = (j : Nat)) (h1 : i ≤ j) (h2 : j ≤ c) (h3 : i < c) :
    Yx P (.slice t x (some lo) (some hi) none) ty ρ S (.slice (some ⟨b, o + i * size, none⟩) (j - i) (c - i)) := by
  subst hi' hj
  have h := sl3V (P := P) (S := S) (ty := ty) ht hs hx hl hh (i := i) (j := j) (Int.toNat_natCast i) (Int.toNat_natCast j) (by omega) (by omega) (by omega)
  have e9 : subA (some ⟨b, o, none⟩) c i size = some ⟨b, o + i * size, none⟩ := by
    unfold subA; rw [if_neg (by omega)]; simp [add_mk]
  rw [e9] at h; exact h
/-- clear of a slice in a row of one's own. -/
theorem clO {k : Nat} (ht : e.P.underlying t = some (.slice et)) (hz : TI e.P et zs size bytes) (hx : ev ρ x = some (.slice (some ⟨b, o, none⟩) k c)) [hp : PickB H b (.cells cs.toArray et (0, 0)) R]
    (hk : 0 < k) (h1 : zs.all (·.oneCell') = true) (hfit : o + k * size ≤ cs.length) :
    Ox e ds (.call { callee := .builtin .clear, args := #[x], argTypes := #[t] }) ty ρ B H (fun v B' H' => v = .tuple #[] ∧ B' = B ∧ ∃ zz : List Value, zz.length = k * size ∧ H' = row b et (cs.take o ++ zz ++ cs.drop (o + k * size)) * R) :=
  .of_run (fun _ h => by cases h) fun f w dst pos after guard he s => by
    obtain ⟨i, zv, z1, z2, z3, z4, z5, z6, z7⟩ := hz
    have s' : St e.N0 B (blk b (.cells cs.toArray et (0, 0)) * R) w := hp.eq ▸ s
    obtain ⟨zz, hzz, hzl, hz1⟩ : ∃ zz : List Value, (Builtin.zeroCells zv.cells k).toList = zz ∧ zz.length = k * size ∧ zz.all (·.oneCell') = true := by
      refine ⟨_, rfl, by simp [Builtin.zeroCells, z3, z6], ?_⟩
      rw [List.all_eq_true] at h1 ⊢
      intro v hv
      simp only [Builtin.zeroCells, z3] at hv
      simp at hv
      obtain ⟨q, _, rfl⟩ := hv
      have hq : q % zs.length < zs.length := Nat.mod_lt _ (by omega)
      rw [List.getElem?_eq_getElem hq]
      exact h1 _ (List.getElem_mem hq)
    have hst := run_storeCells_at (P := e.P) b o et zz 0 cs.toArray w s'.blk.1 (by rw [hzl]; simpa using hfit) (by simpa using hz1)
    simp only [List.toList_toArray, Nat.add_zero, hzl] at hst
    obtain ⟨k, rfl⟩ : ∃ k', k = k' + 1 := ⟨k - 1, by omega⟩
    have hcl : (Builtin.clear_ #[t] ty #[.slice (some ⟨b, o, none⟩) (k + 1) c]).run e.P w = .ok (.tuple #[]) (w.setRow b (cs.take o ++ zz ++ cs.drop (o + (k + 1) * size)).toArray) := by
      simp [Builtin.clear_, run_underlying ht, zeroValue, typeInfo, z1, z2, hzz, hst]
    refine ⟨_, _, B, _, ?_, ⟨rfl, rfl, zz, hzl, rfl⟩, Frag.le_refl _, (s'.setRow _).2, (s'.setRow _).1⟩
    simp [execOp, resolve, he _ _ hx, invoke, builtin, hcl]
/-- A literal slice of nothing, as a buffer. -/
theorem bslZ (ht : e.P.underlying t = some (.slice et)) (hz : TI e.P et zs size bytes) :
    Ox e ds (.buildSlice t 0 #[]) ty ρ B H (fun v B' H' => ∃ b, v = .slice (some ⟨b, 0, none⟩) 0 0 ∧ B' = B ∧ H' = sbuf et size (some ⟨b, 0, none⟩) 0 0 [] * H) :=
  have h := bslO (e := e) (ds := ds) (ρ := ρ) (B := B) (H := H) (ty := ty) (parts := #[]) (vs := []) (len := 0) ht hz rfl rfl (fun v hv => by cases hv) (by omega)
  ⟨h.1, fun a w dst pos after guard K Q f b s k => h.2 a w dst pos after guard K Q f b s fun v B' H' w' ⟨b1, e1, e2, e3⟩ hB hb hs => k v B' _ w' ⟨b1, e1, e2, rfl⟩ hB hb (by
    subst e3
    exact St.of_sbuf (xs := []) (sp := []) (by simp) (Nat.le_refl _) (by simp) hs)⟩
/-- append to a buffer out of what is only read. -/
theorem appB {A : Option Addr} {xs : List Value} (n' : Nat) (xs' : List Value) (ht : e.P.underlying t = some (.slice et)) (htx : e.P.underlying tx = some (.slice tyx)) (hz : TI e.P et zs size bytes)
    (hx : ev ρ x = some (.slice A nl c)) (hy : ev ρ y = some (.slice Ax nx cx)) [hp : PickS H A et size nl c xs R] (hs : RoS B size Ax nx news) (h1 : news.all (·.oneCell') = true)
    (hb : nl + nx ≤ 9223372036854775807) (hbb : (nl + nx) * bytes ≤ 140737488355328) (hn : nl + nx = n') (hxs : xs ++ news = xs') :
    Ox e ds (.call { callee := .builtin .append, args := #[x, y], argTypes := #[t, tx] }) ty ρ B H
      (fun v B' H' => ∃ A' c', v = .slice A' n' c' ∧ (0 < n' → ∃ b, A' = some ⟨b, 0, none⟩) ∧ n' ≤ c' ∧ B' = B ∧ H' = sbuf et size A' n' c' xs' * R) := by
  subst hn hxs
  have h := appO (e := e) (ds := ds) (ρ := ρ) (B := B) (H := H) (ty := ty) (R := R) (p := 1) ht htx hz hx hy (hs.src 1) h1 (by rw [one_star]; exact hp.eq) hb hbb
  exact ⟨h.1, fun a w dst pos after guard K Q f b s k => h.2 a w dst pos after guard K Q f b s fun v B' H' w' ⟨A', c', e1, e2, e3, e4, e5, e6⟩ hB hb hs => k v B' _ w' ⟨A', c', e1, e2, e4, e5, rfl⟩ hB hb (by rw [e6, one_star] at hs; exact hs)⟩
end
end Go.SL

/-
  Parts of a struct, by name: the program, the reference.
-/
namespace Go.Proofs.YtdidpocakipinaaGreatDoor
open Go.SL Go.RowKit
set_option linter.unusedVariables false
set_option linter.unusedSimpArgs false
set_option maxRecDepth 100000
open Ke1 Ke3 Ke4 Ke5 Ke6 Ke7 Ke8 Ke9 KeA KeB KeC KeD KeE KeF KeG KeI
namespace RgA
theorem sz9 : (Tryz.prog.info? 9).map (·.size) = some 1 := by kernel_rfl
theorem sz25 : (Tryz.prog.info? 25).map (·.size) = some 6 := by kernel_rfl
theorem ti25 : TI Tryz.prog 25 [.int .i64 0, .bool false, .int .i64 0, str [], .slice none 0 0, .slice none 0 0] 6 88 := TI.of (by kernel_rfl) rfl rfl
theorem fo25_0 : FO Tryz.prog 25 0 0 1 false := FO.of Tryz.underlying25 rfl rfl (by kernel_rfl) Tryz.underlying3 rfl rfl
theorem fo25_4 : FO Tryz.prog 25 4 4 1 false := FO.of Tryz.underlying25 rfl rfl (by kernel_rfl) Tryz.underlying22 rfl rfl
theorem fo25_5 : FO Tryz.prog 25 5 5 1 false := FO.of Tryz.underlying25 rfl rfl (by kernel_rfl) Tryz.underlying23 rfl rfl
theorem pl25 : PL Tryz.prog 25 [(0, 1), (1, 1), (2, 1), (3, 1), (4, 1), (5, 1)] := PL.of Tryz.underlying25 (by kernel_rfl)
/-- strictly in order -/
def Srt (ks : List (List UInt8)) : Prop := ks.Pairwise (fun a b => bless a b = true)
theorem Srt.lt {ks : List (List UInt8)} (h : Srt ks) {i j : Nat} (hj : j < ks.length) (hij : i < j) : bless (ks[i]'(by omega)) ks[j] = true := List.pairwise_iff_getElem.1 h i j (by omega) hj hij
/-- how many are below -/
def lb : List (List UInt8) → List UInt8 → Nat
  | [], _ => 0
  | k :: ks, t => if bless k t = true then lb ks t + 1 else 0
theorem lb_eq : ∀ (ks : List (List UInt8)) (t : List UInt8) (i : Nat), i ≤ ks.length → (∀ j (hj : j < ks.length), j < i → bless ks[j] t = true) → (∀ h : i < ks.length, bless ks[i] t = false) → lb ks t = i := by
  intro ks t
  induction ks with
  | nil => intro i h _ _; simp at h; subst h; rfl
  | cons k ks ih =>
    intro i h h1 h2
    unfold lb
    cases i with
    | zero => rw [if_neg]; have := h2 (by simp); simp at this; simp [this]
    | succ i =>
      rw [if_pos (by have := h1 0 (by simp) (by omega); simpa using this)]
      rw [ih i (by simpa using h) (fun j hj hji => by have := h1 (j + 1) (by simp; omega) (by omega); simpa using this) (fun h => by have := h2 (by simp; omega); simpa using this)]
theorem mem_at {ks : List (List UInt8)} {t : List UInt8} {i : Nat} (hs : Srt ks) (h1 : ∀ j (hj : j < ks.length), j < i → bless ks[j] t = true) (h2 : ∀ j (hj : j < ks.length), i ≤ j → bless ks[j] t = false) : t ∈ ks ↔ ∃ h : i < ks.length, ks[i] = t := by
  constructor
  · intro hm
    obtain ⟨j, hj, rfl⟩ := List.getElem_of_mem hm
    rcases Nat.lt_trichotomy j i with h | h | h
    · have := h1 j hj h; rw [bless_irrefl] at this; cases this
    · subst h; exact ⟨hj, rfl⟩
    · have e1 := hs.lt hj h
      have e2 := h2 i (by omega) (Nat.le_refl _)
      rw [e1] at e2; cases e2
  · rintro ⟨h, rfl⟩; exact List.getElem_mem h
theorem mid_val {i j : Nat} (h : i + j < 9223372036854775808) : IntKind.i64.wrap ((((BitVec.ofInt 64 ((i + j : Nat) : Int)) >>> 1).toNat : Nat) : Int) = (((i + j) / 2 : Nat) : Int) := by
  have e : (BitVec.ofInt 64 ((i + j : Nat) : Int)).toNat = i + j := by rw [BitVec.toNat_ofInt]; simp only [Nat.reducePow]; omega
  rw [BitVec.toNat_ushiftRight, Nat.shiftRight_eq_div_pow, e, wrap64 (by omega) (by omega)]
theorem roe_str {B : Frag} {A : Option Addr} {n : Nat} {ks : List (List UInt8)} (h : RoE B A n (ks.map str)) {k : Nat} (hk : k < ks.length) (hn : ks.length = n) : ∃ b o cs et fz, A = some ⟨b, o, none⟩ ∧ B b = some (.cells (List.toArray cs) et fz) ∧ cs[o + k * 1]? = some (str ks[k]) := by
  obtain ⟨b, o, cs, et, fz, h1, h2, h3⟩ := h.at1 (k := k) (by omega)
  exact ⟨b, o, cs, et, fz, h1, h2, by rw [h3]; simp [hk]⟩

set_option maxHeartbeats 1000000 in
theorem NaN_ct (s : List UInt8) (B : Frag) : CtP Tryz.prog 83 [str s] B (.bool false) := by
  refine CtB.of_body Tryz.func83 rfl (nt := 6) rfl (by kernel_rfl) rfl ?_
  intro N0 w0 R
  refine Cx.seq (fun K1 k1 => ?_)
  refine Cx.region ?_
  refine Lx.y (asg rfl) rfl ?_
  refine Lx.nil ?_
  refine Xx.tn (k1 _ _ _ _ ?_)
  refine Cx.seq (fun K2 k2 => ?_)
  refine Cx.region ?_
  refine Lx.y (mv rfl) rfl ?_
  refine Lx.y (mv rfl) rfl ?_
  refine Lx.y (Yx.ff (neS rfl rfl) (by simp)) rfl ?_
  refine Lx.y (asg rfl) rfl ?_
  refine Lx.nil ?_
  refine Xx.tn (k2 _ _ _ _ ?_)
  refine Cx.ret ?_
  exact Xx.rB1 rfl rfl ⟨rfl, rfl⟩ (Frag.le_refl _) rfl

set_option maxHeartbeats 1000000 in
theorem nanS_ct (s : List UInt8) (B : Frag) : CtP Tryz.prog 101 [str s] B (.bool false) := by
  refine CtB.of_body Tryz.func101 rfl (nt := 6) rfl (by kernel_rfl) rfl ?_
  intro N0 w0 R
  refine Cx.seq (fun K1 k1 => ?_)
  refine Cx.region ?_
  refine Lx.y (asg rfl) rfl ?_
  refine Lx.nil ?_
  refine Xx.tn (k1 _ _ _ _ ?_)
  refine Cx.seq (fun K2 k2 => ?_)
  refine Cx.region ?_
  refine Lx.y (mv rfl) rfl ?_
  refine Lx.y (mv rfl) rfl ?_
  refine Lx.y (Yx.ff (neS rfl rfl) (by simp)) rfl ?_
  refine Lx.y (asg rfl) rfl ?_
  refine Lx.nil ?_
  refine Xx.tn (k2 _ _ _ _ ?_)
  refine Cx.ret ?_
  exact Xx.rB1 rfl rfl ⟨rfl, rfl⟩ (Frag.le_refl _) rfl

set_option maxHeartbeats 1000000 in
theorem Less_ct (s t : List UInt8) (r : Bool) (B : Frag) (h : bless s t = r) : CtP Tryz.prog 82 [str s, str t] B (.bool r) := by
  refine CtB.of_body Tryz.func82 rfl (nt := 17) rfl (by kernel_rfl) rfl ?_
  intro N0 w0 R
  refine Cx.seq (fun K1 k1 => ?_)
  refine Cx.region ?_
  refine Lx.y (asg rfl) rfl ?_
  refine Lx.nil ?_
  refine Xx.tn (k1 _ _ _ _ ?_)
  refine Cx.seq (fun K2 k2 => ?_)
  refine Cx.region ?_
  refine Lx.y (mv rfl) rfl ?_
  refine Lx.cp rfl rfl rfl (nanS_ct _ _) rfl ?_
  refine Lx.y (mv rfl) rfl ?_
  refine Lx.gF rfl rfl rfl rfl ?_
  refine Lx.gF rfl rfl rfl rfl ?_
  refine Lx.gF rfl rfl rfl rfl ?_
  refine Lx.y (pickF rfl rfl) rfl ?_
  refine Lx.y (mv rfl) rfl ?_
  refine Lx.gT rfl rfl rfl ?_
  refine Lx.y (mv rfl) rfl ?_
  refine Lx.gT rfl rfl rfl ?_
  refine Lx.y (mv rfl) rfl ?_
  refine Lx.gT rfl rfl rfl ?_
  refine Lx.y (lssS rfl rfl) rfl ?_
  refine Lx.y (pickF rfl rfl) rfl ?_
  refine Lx.y (asg rfl) rfl ?_
  refine Lx.nil ?_
  refine Xx.tn (k2 _ _ _ _ ?_)
  refine Cx.ret ?_
  exact Xx.rB1 rfl rfl ⟨congrArg Value.bool h, rfl⟩ (Frag.le_refl _) rfl

set_option maxHeartbeats 1000000 in
theorem BS_ct (ks : List (List UInt8)) (t : List UInt8) (A : Option Addr) (c : Nat) (B : Frag) (hR : RoE B A ks.length (ks.map str)) (hs : Srt ks) (hn : ks.length ≤ 4611686018427387904) : CtP Tryz.prog 65 [.slice A ks.length c, str t] B (.tuple #[i64 (lb ks t : Nat), .bool (decide (t ∈ ks))]) := by
  refine CtB.of_body Tryz.func65 rfl (nt := 54) rfl (by kernel_rfl) rfl ?_
  intro N0 w0 R
  refine Cx.seq (fun K1 k1 => ?_)
  refine Cx.region ?_
  refine Lx.y (asg rfl) rfl ?_
  refine Lx.y (asg rfl) rfl ?_
  refine Lx.nil ?_
  refine Xx.tn (k1 _ _ _ _ ?_)
  refine Cx.seq (fun K2 k2 => ?_)
  refine Cx.region ?_
  refine Lx.y (mv rfl) rfl ?_
  refine Lx.y (lenV (ty' := 0) Tryz.underlying23 rfl) rfl ?_
  refine Lx.y (asg rfl) rfl ?_
  refine Lx.nil ?_
  refine Xx.tn (k2 _ _ _ _ ?_)
  refine Cx.seq (fun K3 k3 => ?_)
  refine Cx.region ?_
  refine Lx.y (mv rfl) rfl ?_
  refine Lx.y (asg rfl) rfl ?_
  refine Lx.y (asg rfl) rfl ?_
  refine Lx.nil ?_
  refine Xx.tn (k3 _ _ _ _ ?_)
  refine Cx.seq (fun K4 k4 => ?_)
  refine Cx.block ?_
  refine Cx.loopK (Sub.cons (s := 0) rfl (Sub.cons (s := 1) rfl (Sub.cons (s := 4) rfl (Sub.cons (s := 5) rfl (Sub.cons (s := 6) rfl (Sub.cons (s := 10) rfl (Sub.cons (s := 11) rfl (Sub.cons (s := 12) rfl (Sub.nil _))))))))) (fun m ρ' B' H' => ∃ (i j : Nat), (i ≤ j ∧ j ≤ ks.length ∧ (∀ k (hk : k < ks.length), k < i → bless ks[k] t = true) ∧ (∀ k (hk : k < ks.length), j ≤ k → bless ks[k] t = false)) ∧ m = j - i ∧ ρ' = [(7, i64 i), (8, i64 j)] ∧ B = B' ∧ R = H') ⟨0, ks.length, ⟨Nat.zero_le _, Nat.le_refl _, fun k _ h => absurd h (by omega), fun k hk h => absurd h (by omega)⟩, rfl, rfl, rfl, rfl⟩ (Sub.cons (s := 7) rfl (Sub.cons (s := 8) rfl (Sub.cons (s := 0) rfl (Sub.cons (s := 1) rfl (Sub.cons (s := 4) rfl (Sub.cons (s := 5) rfl (Sub.cons (s := 6) rfl (Sub.cons (s := 10) rfl (Sub.cons (s := 11) rfl (Sub.cons (s := 12) rfl (Sub.nil _))))))))))) ?_
  rintro m ρ' B' H' ⟨i, j, ⟨hij, hjn, hlo, hhi⟩, rfl, rfl, rfl, rfl⟩
  refine Cx.seq (fun K5 k5 => ?_)
  refine Cx.seq (fun K6 k6 => ?_)
  refine Cx.region ?_
  refine Lx.y (mv rfl) rfl ?_
  refine Lx.y (mv rfl) rfl ?_
  refine Lx.y (lss rfl rfl) rfl ?_
  refine Lx.nil ?_
  refine Xx.tn (k6 _ _ _ _ ?_)
  refine Cx.condD rfl (fun h7 => ?_) (fun h7 => ?_)
  · skip
    have hlt := h7
    have hm : (i + j) / 2 < ks.length := by omega
    obtain ⟨b, o, cs0, et0, fz0, rfl, hB0, hv0⟩ := roe_str hR hm rfl
    refine Cx.skip ?_
    refine Xx.tn (k5 _ _ _ _ ?_)
    refine Cx.block ?_
    refine Cx.seq (fun K8 k8 => ?_)
    refine Cx.region ?_
    refine Lx.y (mv rfl) rfl ?_
    refine Lx.y (mv rfl) rfl ?_
    refine Lx.y (Yx.val (add rfl rfl (by first | exact wrap64 (by omega) (by omega) | rfl)) (show _ = i64 (i + j : Nat) from rfl)) rfl ?_
    refine Lx.y (cvW64 rfl Tryz.underlying3 Tryz.underlying102) rfl ?_
    refine Lx.y (shrW64 (c := 1) rfl rfl rfl) rfl ?_
    refine Lx.y (Yx.val (cvI rfl Tryz.underlying102 Tryz.underlying3 (mid_val (by omega))) (show _ = i64 ((i + j) / 2 : Nat) from rfl)) rfl ?_
    refine Lx.y (asg rfl) rfl ?_
    refine Lx.nil ?_
    refine Xx.tn (k8 _ _ _ _ ?_)
    refine Cx.seq (fun K9 k9 => ?_)
    refine Cx.region ?_
    refine Lx.y (mv rfl) rfl ?_
    refine Lx.y (mv rfl) rfl ?_
    refine Lx.y (ia Tryz.underlying23 sz9 rfl rfl (by first | exact Int.toNat_natCast _ | rfl) (by omega) (by omega)) rfl ?_
    refine Lx.y (ldB Tryz.underlying9 rfl rfl hB0 hv0) rfl ?_
    refine Lx.y (mv rfl) rfl ?_
    refine Lx.cp rfl rfl rfl (Less_ct ks[(i + j) / 2] t _ _ rfl) rfl ?_
    refine Lx.nil ?_
    refine Xx.tn (k9 _ _ _ _ ?_)
    refine Cx.condB rfl (fun h10 => ?_) (fun h10 => ?_)
    · skip
      have hb := h10
      refine Cx.region ?_
      refine Lx.y (mv rfl) rfl ?_
      refine Lx.y (Yx.val (add rfl rfl (by first | exact wrap64 (by omega) (by omega) | rfl)) (show _ = i64 ((i + j) / 2 + 1 : Nat) from rfl)) rfl ?_
      refine Lx.y (asg rfl) rfl ?_
      refine Lx.nil ?_
      refine Xx.bn ?_
      exact Xx.againK ⟨(i + j) / 2 + 1, j, ⟨by omega, hjn, fun k hk hki => by
  by_cases e : k = (i + j) / 2
  · subst e; exact hb
  · exact bless_trans (hs.lt hm (by omega)) hb, hhi⟩, rfl, rfl, rfl, rfl⟩ (by omega) (Sub.cons (s := 7) rfl (Sub.consE (s := 8) rfl (rfl) (Sub.cons (s := 0) rfl (Sub.cons (s := 1) rfl (Sub.cons (s := 4) rfl (Sub.cons (s := 5) rfl (Sub.cons (s := 6) rfl (Sub.cons (s := 10) rfl (Sub.cons (s := 11) rfl (Sub.cons (s := 12) rfl (Sub.nil _)))))))))))
    · skip
      have hb := h10
      refine Cx.region ?_
      refine Lx.y (mv rfl) rfl ?_
      refine Lx.y (asg rfl) rfl ?_
      refine Lx.nil ?_
      refine Xx.bn ?_
      exact Xx.againK ⟨i, (i + j) / 2, ⟨by omega, by omega, hlo, fun k hk hki => by
  by_cases e : k = (i + j) / 2
  · subst e; exact hb
  · cases h2 : bless ks[k] t with
    | false => rfl
    | true => rw [bless_trans (hs.lt hk (show (i + j) / 2 < k by omega)) h2] at hb; cases hb⟩, rfl, rfl, rfl, rfl⟩ (by omega) (Sub.consE (s := 7) rfl (rfl) (Sub.cons (s := 8) rfl (Sub.cons (s := 0) rfl (Sub.cons (s := 1) rfl (Sub.cons (s := 4) rfl (Sub.cons (s := 5) rfl (Sub.cons (s := 6) rfl (Sub.cons (s := 10) rfl (Sub.cons (s := 11) rfl (Sub.cons (s := 12) rfl (Sub.nil _)))))))))))
  · skip
    obtain rfl : i = j := by have := h7; omega
    have hlb := lb_eq ks t i hjn hlo (fun h => hhi i h (Nat.le_refl _))
    have hmem := mem_at hs hlo hhi
    refine Cx.exit ?_
    refine Xx.te ?_
    refine Xx.te ?_
    refine Xx.bh ?_
    refine Xx.tn (k4 _ _ _ _ ?_)
    refine Cx.seq (fun K11 k11 => ?_)
    refine Cx.region ?_
    refine Lx.y (mv rfl) rfl ?_
    refine Lx.y (mv rfl) rfl ?_
    refine Lx.y (mv rfl) rfl ?_
    refine Lx.y (lss rfl rfl) rfl ?_
    refine Lx.y (mv rfl) rfl ?_
    refine Xx.ifD (t := 35) rfl (fun h12 => ?_) (fun h12 => ?_)
    · skip
      have hin := h12
      have hin : i < ks.length := by omega
      obtain ⟨b, o, cs0, et0, fz0, rfl, hB0, hv0⟩ := roe_str hR hin rfl
      refine Lx.gT rfl rfl rfl ?_
      refine Lx.y (mv rfl) rfl ?_
      refine Lx.gT rfl rfl rfl ?_
      refine Lx.y (mv rfl) rfl ?_
      refine Lx.gT rfl rfl rfl ?_
      refine Lx.y (ia Tryz.underlying23 sz9 rfl rfl (by first | exact Int.toNat_natCast _ | rfl) (by omega) (by omega)) rfl ?_
      refine Lx.gT rfl rfl rfl ?_
      refine Lx.y (ldB Tryz.underlying9 rfl rfl hB0 hv0) rfl ?_
      refine Lx.gT rfl rfl rfl ?_
      refine Lx.y (mv rfl) rfl ?_
      refine Lx.gT rfl rfl rfl ?_
      refine Lx.y (eqS rfl rfl) rfl ?_
      refine Lx.gT rfl rfl rfl ?_
      refine Lx.y (mv rfl) rfl ?_
      refine Xx.ifD (t := 42) rfl (fun h13 => ?_) (fun h13 => ?_)
      · skip
        have he := h13
        refine Lx.gF rfl rfl rfl rfl ?_
        refine Lx.gF rfl rfl rfl rfl ?_
        refine Lx.gF rfl rfl rfl rfl ?_
        refine Lx.gF rfl rfl rfl rfl ?_
        refine Lx.gF rfl rfl rfl rfl ?_
        refine Lx.gF rfl rfl rfl rfl ?_
        refine Lx.gU rfl rfl rfl rfl ?_
        refine Lx.gU rfl rfl rfl rfl ?_
        refine Lx.gF rfl rfl rfl rfl ?_
        refine Lx.gT rfl rfl rfl ?_
        refine Lx.y (pickT rfl rfl) rfl ?_
        refine Lx.y (pickT rfl rfl) rfl ?_
        refine Lx.y (asg rfl) rfl ?_
        refine Lx.y (asg rfl) rfl ?_
        refine Lx.nil ?_
        refine Xx.tn (k11 _ _ _ _ ?_)
        refine Cx.ret ?_
        exact Xx.rB2 rfl rfl rfl ⟨by rw [hlb, decide_eq_true (hmem.2 ⟨hin, he⟩)], rfl⟩ (Frag.le_refl _) rfl
      · skip
        have he := h13
        refine Lx.gT rfl rfl rfl ?_
        refine Lx.y (mv rfl) rfl ?_
        refine Lx.gT rfl rfl rfl ?_
        refine Lx.y (mv rfl) rfl ?_
        refine Lx.gT rfl rfl rfl ?_
        refine Lx.y (ia Tryz.underlying23 sz9 rfl rfl (by first | exact Int.toNat_natCast _ | rfl) (by omega) (by omega)) rfl ?_
        refine Lx.gT rfl rfl rfl ?_
        refine Lx.y (ldB Tryz.underlying9 rfl rfl hB0 hv0) rfl ?_
        refine Lx.gT rfl rfl rfl ?_
        refine Lx.cp rfl rfl rfl ((show CtP _ _ _ _ (.bool false) from NaN_ct _ _)) rfl ?_
        refine Lx.gT rfl rfl rfl ?_
        refine Lx.y (mv rfl) rfl ?_
        refine Lx.gF rfl rfl rfl rfl ?_
        refine Lx.gF rfl rfl rfl rfl ?_
        refine Lx.gT rfl rfl rfl ?_
        refine Lx.y (pickF rfl rfl) rfl ?_
        refine Lx.gT rfl rfl rfl ?_
        refine Lx.y (pickF rfl rfl) rfl ?_
        refine Lx.y (pickT rfl rfl) rfl ?_
        refine Lx.y (asg rfl) rfl ?_
        refine Lx.y (asg rfl) rfl ?_
        refine Lx.nil ?_
        refine Xx.tn (k11 _ _ _ _ ?_)
        refine Cx.ret ?_
        exact Xx.rB2 rfl rfl rfl ⟨by rw [hlb, decide_eq_false (fun z => he (hmem.1 z).2)], rfl⟩ (Frag.le_refl _) rfl
    · skip
      have hin := h12
      refine Lx.gF rfl rfl rfl rfl ?_
      refine Lx.gF rfl rfl rfl rfl ?_
      refine Lx.gF rfl rfl rfl rfl ?_
      refine Lx.gF rfl rfl rfl rfl ?_
      refine Lx.gF rfl rfl rfl rfl ?_
      refine Lx.gF rfl rfl rfl rfl ?_
      refine Lx.gF rfl rfl rfl rfl ?_
      refine Lx.gU rfl rfl rfl rfl ?_
      refine Lx.gU rfl rfl rfl rfl ?_
      refine Lx.gU rfl rfl rfl rfl ?_
      refine Lx.gU rfl rfl rfl rfl ?_
      refine Lx.gU rfl rfl rfl rfl ?_
      refine Lx.gU rfl rfl rfl rfl ?_
      refine Lx.gU rfl rfl rfl rfl ?_
      refine Lx.gU rfl rfl rfl rfl ?_
      refine Lx.gU rfl rfl rfl rfl ?_
      refine Lx.gF rfl rfl rfl rfl ?_
      refine Lx.y (pickF rfl rfl) rfl ?_
      refine Lx.y (asg rfl) rfl ?_
      refine Lx.y (asg rfl) rfl ?_
      refine Lx.nil ?_
      refine Xx.tn (k11 _ _ _ _ ?_)
      refine Cx.ret ?_
      exact Xx.rB2 rfl rfl rfl ⟨by rw [hlb, decide_eq_false (fun z => hin (by have := (hmem.1 z).1; omega))], rfl⟩ (Frag.le_refl _) rfl

abbrev Str8 := List UInt8
theorem lb_spec {ks : List Str8} {t : Str8} (hs : Srt ks) : (∀ j (hj : j < ks.length), j < lb ks t → bless ks[j] t = true) ∧ (∀ h : lb ks t < ks.length, bless ks[lb ks t] t = false) := by
  induction ks with
  | nil => exact ⟨fun j hj => absurd hj (by simp), fun h => absurd h (by simp)⟩
  | cons k ks ih =>
    have hs2 : Srt ks := (List.pairwise_cons.1 hs).2
    obtain ⟨g1, g2⟩ := ih hs2
    by_cases hk : bless k t = true
    · have e : lb (k :: ks) t = lb ks t + 1 := by
        conv => lhs; unfold lb
        rw [if_pos hk]
      refine ⟨fun j hj hjl => ?_, fun h => ?_⟩
      · cases j with
        | zero => exact hk
        | succ j => exact g1 j (by simpa using hj) (by omega)
      · have h' : lb ks t < ks.length := by rw [e] at h; simpa using h
        have e2 : (k :: ks)[lb (k :: ks) t] = ks[lb ks t] := by simp [e]
        rw [e2]; exact g2 h'
    · have e : lb (k :: ks) t = 0 := by unfold lb; rw [if_neg hk]
      refine ⟨fun j hj hjl => absurd hjl (by omega), fun h => ?_⟩
      have e2 : (k :: ks)[lb (k :: ks) t] = k := by simp [e]
      rw [e2]; simpa using hk
theorem lb_le : ∀ (ks : List Str8) (t : Str8), lb ks t ≤ ks.length := by
  intro ks t
  induction ks with
  | nil => exact Nat.le_refl _
  | cons x ks ih => unfold lb; split; simpa using ih; exact Nat.zero_le _
theorem lb_mem {ks : List Str8} {t : Str8} (hs : Srt ks) (hm : t ∈ ks) : ∃ h : lb ks t < ks.length, ks[lb ks t] = t := by
  obtain ⟨j, hj, rfl⟩ := List.getElem_of_mem hm
  have e : lb ks ks[j] = j := lb_eq ks ks[j] j (by omega) (fun i hi hij => hs.lt hj hij) (fun _ => bless_irrefl _)
  exact ⟨by omega, by simp [e]⟩
theorem RoS.roe {B : Frag} {A : Option Addr} {n : Nat} {xs : List Value} (h : RoS B 1 A n xs) : RoE B A n xs := by
  refine ⟨by simpa using h.1, fun k hk => ?_⟩
  obtain ⟨b, o, l, et, fz, h1, h2, h3⟩ := RoS.part h hk
  refine ⟨b, o, l, et, fz, h1, h2, ?_⟩
  have h4 := congrArg (fun z : List Value => z[0]?) h3
  simpa [List.getElem?_take, List.getElem?_drop] using h4
def V0 : V := .mk 0 false 0 [] [] []
theorem ValR.leaf {B : Frag} {d : Nat} {k : Int} {b : Bool} {n : Int} {s : List UInt8} (h : s.length ≤ 4611686018427387904 ∧ -9223372036854775808 ≤ n ∧ n ≤ 9223372036854775807) : ValR B (d + 1) (.mk k b n s [] []) (vcs (.mk k b n s [] []) none 0 none 0) :=
  ⟨none, 0, none, 0, rfl, ⟨h.1, h.2.1, h.2.2, Nat.le_refl _, Nat.le_refl _⟩, by show 0 ≤ _; omega, by show 0 ≤ _; omega, ⟨rfl, fun k hk => absurd hk (by show ¬ k < 0; omega)⟩, (fun x hx => (by cases hx)), fun i hi => absurd hi (by show ¬ i < 0; omega)⟩
theorem V0_R {B : Frag} {d : Nat} : ValR B (d + 1) V0 (vcs V0 none 0 none 0) := ValR.leaf ⟨by decide, by decide, by decide⟩

theorem ValR.le {B : Frag} {d e : Nat} {v : V} {cs : List Value} (h : ValR B d v cs) (hde : d ≤ e) : ValR B e v cs := by
  obtain ⟨k, rfl⟩ : ∃ k, e = d + k := ⟨e - d, by omega⟩
  clear hde
  induction k with
  | zero => exact h
  | succ k ih => exact ValR.up ih
/-- the part of a name -/
noncomputable def getV (v : V) (f : List UInt8) : V := if f ∈ v.names then v.parts.getD (lb v.names f) V0 else V0
theorem names_srt {v : V} (h : namesB v = true) : Srt v.names := by
  have hn := (namesP h).1
  have hstep : ∀ i (hi : i + 1 < v.names.length), bless v.names[i] v.names[i + 1] = true := fun i hi => by
    have := (hn (i + 1) hi).2 (by omega)
    simpa [List.getD, show i + 1 - 1 = i by omega, hi, show i < v.names.length by omega] using this
  refine List.pairwise_iff_getElem.2 fun i j hi hj hij => ?_
  obtain ⟨k, rfl⟩ : ∃ k, j = i + 1 + k := ⟨j - (i + 1), by omega⟩
  clear hij
  induction k with
  | zero => exact hstep i hj
  | succ k ih => exact bless_trans (ih (by omega)) (hstep (i + 1 + k) hj)
/-- a value that may be, looked into -/
theorem getV_in {d : Nat} {v : V} {deep : Int} {f : List UInt8} (hok : checkF (d + 1) v deep = 0) (hf : f ∈ v.names) : v.kind = 6 ∧ ∃ h : lb v.names f < v.parts.length, ∃ h2 : lb v.names f < v.names.length, v.names[lb v.names f] = f ∧ getV v f = v.parts[lb v.names f] := by
  obtain ⟨h6, h0⟩ := names_many hok
  obtain ⟨_, _, _, _, _, hnb, _⟩ := chk_ok hok
  have hk : v.kind = 6 := by
    by_cases hk : v.kind = 6
    · exact hk
    · have := h0 hk; rw [List.length_eq_zero_iff.1 this] at hf; cases hf
  obtain ⟨h2, hat⟩ := lb_mem (names_srt hnb) hf
  have h1 : lb v.names f < v.parts.length := by have := h6 hk; omega
  refine ⟨hk, h1, h2, hat, ?_⟩
  unfold getV; rw [if_pos hf]; simp [List.getD, h1]
theorem getV_out {v : V} {f : List UInt8} (hf : f ∉ v.names) : getV v f = V0 := by unfold getV; rw [if_neg hf]
theorem V0_check {d : Nat} {deep : Int} (h : deep ≤ 8) : checkF (d + 1) V0 deep = 0 := chk6 (by omega) (by decide) (by decide) (namesB_yes ⟨fun i hi => absurd hi (by show ¬ i < 0; omega), fun z => absurd z (by decide)⟩) fun k hk => absurd hk (by show ¬ k < 0; omega)
theorem getV_bytes {d : Nat} {v : V} {deep : Int} (f : List UInt8) (hok : checkF (d + 2) v deep = 0) : (bytesF (d + 1) (getV v f)).length ≤ (bytesF (d + 2) v).length + 1 := by
  by_cases hf : f ∈ v.names
  · obtain ⟨hk, h1, _, _, e⟩ := getV_in hok hf
    rw [e]
    have hb : bytesF (d + 2) v = preB (bytesF (d + 1)) v v.parts.length := by
      show bytesF (d + 1 + 1) v = _
      unfold bytesF; rw [if_neg (by omega), if_neg (by omega), if_neg (by omega), if_pos (by omega)]
    have hm := preB_mono (bytesF (d + 1)) v (show lb v.names f + 1 ≤ v.parts.length by omega)
    rw [preB_succ, List.length_append] at hm
    have hp : (bytesF (d + 1) v.parts[lb v.names f]).length ≤ (partB (bytesF (d + 1)) v (lb v.names f)).length := by unfold partB; rw [List.length_append, getDp h1]; omega
    rw [hb]; omega
  · rw [getV_out hf]
    have : bytesF (d + 1) V0 = [toB 0] := by unfold bytesF; rw [if_neg (by decide), if_neg (by decide), if_neg (by decide), if_neg (by decide)]; rfl
    rw [this]; show 1 ≤ _; omega

set_option maxHeartbeats 1000000 in
theorem None_ct (B : Frag) : CtP Tryz.prog 66 [] B (.agg (vcs V0 none 0 none 0).toArray) := by
  refine CtB.of_body Tryz.func66 rfl (nt := 2) rfl (by kernel_rfl) rfl ?_
  intro N0 w0 R
  refine Cx.seq (fun K1 k1 => ?_)
  refine Cx.region ?_
  refine Lx.new (allocO ti25) rfl (fun b => ?_)
  refine Lx.nil ?_
  refine Xx.tn (k1 _ _ _ _ ?_)
  refine Cx.seq (fun K2 k2 => ?_)
  refine Cx.region ?_
  refine Lx.y (bld ti25 pl25 rfl rfl) rfl ?_
  refine Lx.st (stA (d := .bool) sz25 rfl rfl rfl rfl (by show 0 + 6 ≤ 6; omega) rfl) ?_
  refine Lx.nil ?_
  refine Xx.tn (k2 _ _ _ _ ?_)
  refine Cx.ret ?_
  exact Xx.rBa rfl Tryz.underlying25 rfl sz25 rfl rfl ⟨rfl, rfl⟩ (Frag.le_refl _)

set_option maxHeartbeats 1000000 in
theorem Get_ct (d : Nat) (v : V) (f : List UInt8) (deep : Int) (cs : List Value) (B : Frag) (h : ValR B (d + 2) v cs) (hok : checkF (d + 2) v deep = 0) : CtB Tryz.prog 39 [.agg cs.toArray, str f] B (fun r B' => B' = B ∧ ∃ cs', r = .agg cs'.toArray ∧ ValR B' (d + 1) (getV v f) cs') := by
  obtain ⟨Ap, cp, An, cn, rfl, _, hpl, hnl, hns, _, hps⟩ := h
  obtain ⟨_, _, _, _, _, hnb, _⟩ := chk_ok hok
  have hs := names_srt hnb
  obtain ⟨hn6, hn0⟩ := names_many hok
  refine CtB.of_body Tryz.func39 rfl (nt := 34) rfl (by kernel_rfl) rfl ?_
  intro N0 w0 R
  refine Cx.seq (fun K1 k1 => ?_)
  refine Cx.region ?_
  refine Lx.new (boxA rfl) rfl (fun b2 => ?_)
  refine Lx.new (allocO ti25) rfl (fun b4 => ?_)
  refine Lx.nil ?_
  refine Xx.tn (k1 _ _ _ _ ?_)
  refine Cx.seq (fun K2 k2 => ?_)
  refine Cx.region ?_
  refine Lx.y (fa' fo25_5 rfl) rfl ?_
  refine Lx.y (ld Tryz.underlying23 rfl rfl rfl) rfl ?_
  refine Lx.y (mv rfl) rfl ?_
  refine Lx.cp rfl rfl rfl (BS_ct v.names f An cn _ hns hs (by omega)) rfl ?_
  refine Lx.y (mv rfl) rfl ?_
  refine Lx.y (ext rfl rfl) rfl ?_
  refine Lx.y (ext rfl rfl) rfl ?_
  refine Lx.y (asg rfl) rfl ?_
  refine Lx.y (asg rfl) rfl ?_
  refine Lx.nil ?_
  refine Xx.tn (k2 _ _ _ _ ?_)
  refine Cx.seq (fun K3 k3 => ?_)
  refine Cx.seq (fun K4 k4 => ?_)
  refine Cx.region ?_
  refine Lx.y (fa' fo25_0 rfl) rfl ?_
  refine Lx.y (ld Tryz.underlying3 rfl rfl rfl) rfl ?_
  refine Lx.y (neI rfl rfl) rfl ?_
  refine Lx.y (mv rfl) rfl ?_
  refine Xx.ifN (t := 17) rfl (fun h5 => ?_) (fun h5 => ?_)
  · skip
    have hk := h5
    have hf : f ∉ v.names := fun z => by rw [List.length_eq_zero_iff.1 (hn0 hk)] at z; cases z
    refine Lx.gF rfl rfl rfl rfl ?_
    refine Lx.gF rfl rfl rfl rfl ?_
    refine Lx.y (pickT rfl rfl) rfl ?_
    refine Lx.y (mv rfl) rfl ?_
    refine Lx.gF rfl rfl rfl rfl ?_
    refine Lx.gF rfl rfl rfl rfl ?_
    refine Lx.gF rfl rfl rfl rfl ?_
    refine Lx.gF rfl rfl rfl rfl ?_
    refine Lx.gF rfl rfl rfl rfl ?_
    refine Lx.y (pickT rfl rfl) rfl ?_
    refine Lx.nil ?_
    refine Xx.tn (k4 _ _ _ _ ?_)
    refine Cx.condT rfl ?_
    refine Cx.seq (fun K6 k6 => ?_)
    refine Cx.region ?_
    refine Lx.cp rfl rfl rfl (None_ct _) rfl ?_
    refine Lx.st (stA (d := .bool) sz25 rfl rfl rfl rfl (by show 0 + 6 ≤ 6; omega) rfl) ?_
    refine Lx.nil ?_
    refine Xx.tn (k6 _ _ _ _ ?_)
    refine Cx.ret ?_
    refine Xx.tr ?_
    refine Xx.dropB b2 ?_
    first | exact Xx.rBa rfl Tryz.underlying25 rfl sz25 rfl rfl ⟨rfl, _, rfl, by rw [hgv]; exact hv2⟩ (Frag.le_refl _) | exact Xx.rBa rfl Tryz.underlying25 rfl sz25 rfl rfl ⟨rfl, _, rfl, by rw [getV_out hf]; exact V0_R⟩ (Frag.le_refl _)
  · skip
    have hk := h5
    refine Lx.gT rfl rfl rfl ?_
    refine Lx.y (mv rfl) rfl ?_
    refine Lx.gT rfl rfl rfl ?_
    refine Lx.y (not' rfl) rfl ?_
    refine Lx.y (pickF rfl rfl) rfl ?_
    refine Lx.y (mv rfl) rfl ?_
    refine Xx.ifN (t := 21) rfl (fun h7 => ?_) (fun h7 => ?_)
    · skip
      have hf : f ∉ v.names := by simpa using h7
      refine Lx.gF rfl rfl rfl rfl ?_
      refine Lx.gF rfl rfl rfl rfl ?_
      refine Lx.gF rfl rfl rfl rfl ?_
      refine Lx.gF rfl rfl rfl rfl ?_
      refine Lx.gF rfl rfl rfl rfl ?_
      refine Lx.y (pickT rfl rfl) rfl ?_
      refine Lx.nil ?_
      refine Xx.tn (k4 _ _ _ _ ?_)
      refine Cx.condT rfl ?_
      refine Cx.seq (fun K8 k8 => ?_)
      refine Cx.region ?_
      refine Lx.cp rfl rfl rfl (None_ct _) rfl ?_
      refine Lx.st (stA (d := .bool) sz25 rfl rfl rfl rfl (by show 0 + 6 ≤ 6; omega) rfl) ?_
      refine Lx.nil ?_
      refine Xx.tn (k8 _ _ _ _ ?_)
      refine Cx.ret ?_
      refine Xx.tr ?_
      refine Xx.dropB b2 ?_
      first | exact Xx.rBa rfl Tryz.underlying25 rfl sz25 rfl rfl ⟨rfl, _, rfl, by rw [hgv]; exact hv2⟩ (Frag.le_refl _) | exact Xx.rBa rfl Tryz.underlying25 rfl sz25 rfl rfl ⟨rfl, _, rfl, by rw [getV_out hf]; exact V0_R⟩ (Frag.le_refl _)
    · skip
      have hf : f ∈ v.names := by simpa using h7
      obtain ⟨_, hlp, hln, hat, hgv⟩ := getV_in hok hf
      obtain ⟨bq, oq, lq, eq, fq, xs, rfl, hBq, hxs, hv2⟩ := hps _ hlp
      obtain ⟨Ap2, cp2, An2, cn2, rfl⟩ := ValR.shape hv2
      refine Lx.gT rfl rfl rfl ?_
      refine Lx.y (mv rfl) rfl ?_
      refine Lx.gT rfl rfl rfl ?_
      refine Lx.y (fa' fo25_4 rfl) rfl ?_
      refine Lx.gT rfl rfl rfl ?_
      refine Lx.y (ld Tryz.underlying22 rfl rfl rfl) rfl ?_
      refine Lx.gT rfl rfl rfl ?_
      refine Lx.y (lenV (ty' := 0) Tryz.underlying22 rfl) rfl ?_
      refine Lx.gT rfl rfl rfl ?_
      refine Lx.y (Yx.ff (geq rfl rfl) (decide_eq_false (by omega))) rfl ?_
      refine Lx.y (pickF rfl rfl) rfl ?_
      refine Lx.nil ?_
      refine Xx.tn (k4 _ _ _ _ ?_)
      refine Cx.condF rfl ?_
      refine Cx.skip ?_
      refine Xx.tn (k3 _ _ _ _ ?_)
      refine Cx.seq (fun K9 k9 => ?_)
      refine Cx.region ?_
      refine Lx.y (fa' fo25_4 rfl) rfl ?_
      refine Lx.y (ld Tryz.underlying22 rfl rfl rfl) rfl ?_
      refine Lx.y (mv rfl) rfl ?_
      refine Lx.y (ia Tryz.underlying22 sz25 rfl rfl (Int.toNat_natCast _) (by omega) (by omega)) rfl ?_
      refine Lx.y (ldA Tryz.underlying25 rfl sz25 rfl (Cells.base (n := 6) hBq hxs) rfl) rfl ?_
      refine Lx.st (stA (d := .bool) sz25 rfl rfl rfl rfl (by show 0 + 6 ≤ 6; omega) rfl) ?_
      refine Lx.nil ?_
      refine Xx.tn (k9 _ _ _ _ ?_)
      refine Cx.ret ?_
      refine Xx.dropB b2 ?_
      first | exact Xx.rBa rfl Tryz.underlying25 rfl sz25 rfl rfl ⟨rfl, _, rfl, by rw [hgv]; exact hv2⟩ (Frag.le_refl _) | exact Xx.rBa rfl Tryz.underlying25 rfl sz25 rfl rfl ⟨rfl, _, rfl, by rw [getV_out hf]; exact V0_R⟩ (Frag.le_refl _)

end RgA
end Go.Proofs.YtdidpocakipinaaGreatDoor

/-
  slices.Insert of one string, of one node; slices.Clone.
-/
namespace Go.Proofs.YtdidpocakipinaaGreatDoor
open Go.SL Go.RowKit
set_option linter.unusedVariables false
set_option linter.unusedSimpArgs false
set_option maxRecDepth 100000
open Ke1 Ke3 Ke4 Ke5 Ke6 Ke7 Ke8 Ke9 KeA KeB KeC KeD KeE KeF KeG KeI RgA
namespace BtB
theorem sz9 : (Tryz.prog.info? 9).map (·.size) = some 1 := by kernel_rfl
theorem sz110 : (Tryz.prog.info? 110).map (·.size) = some 1 := by kernel_rfl
theorem ti9 : TI Tryz.prog 9 [str []] 1 16 := TI.of (by kernel_rfl) rfl rfl
theorem ti110 : TI Tryz.prog 110 [.pointer none] 1 8 := TI.of (by kernel_rfl) rfl rfl

set_option maxHeartbeats 1000000 in
theorem InsS_end (A : Option Addr) (n c : Nat) (xs : List Value) (vb : Nat) (etv : TypeId) (news : List Value) (B : Frag) (hns : news.length = 1) (hn1 : news.all (·.oneCell') = true) (hbd : (n + 1) * 16 ≤ 140737488355328) : Ct Tryz.prog 79 [.slice A n c, i64 (n : Nat), .slice (some ⟨vb, 0, none⟩) 1 1] B (sbuf 9 1 A n c xs * row vb etv news) (fun v B' H' => ∃ A' c', v = .slice A' (n + 1) c' ∧ B' = B ∧ H' = sbuf 9 1 A' (n + 1) c' (xs ++ news) ∧ (∃ b, A' = some ⟨b, 0, none⟩) ∧ n + 1 ≤ c') := by
  refine Ct.of_body Tryz.func79 rfl (nt := 95) rfl (by kernel_rfl) rfl ?_
  intro N0 w0 R
  rw [star_assoc]
  refine Cx.seq (fun K1 k1 => ?_)
  refine Cx.region ?_
  refine Lx.y (asg rfl) rfl ?_
  refine Lx.nil ?_
  refine Xx.tn (k1 _ _ _ _ ?_)
  refine Cx.seq (fun K2 k2 => ?_)
  refine Cx.region ?_
  refine Lx.y (mv rfl) rfl ?_
  refine Lx.y (mv rfl) rfl ?_
  refine Lx.y (sl1V Tryz.underlying23 sz9 rfl rfl (Int.toNat_natCast _) (by omega) (by omega)) rfl ?_
  refine Lx.nil ?_
  refine Xx.tn (k2 _ _ _ _ ?_)
  refine Cx.seq (fun K3 k3 => ?_)
  refine Cx.region ?_
  refine Lx.y (mv rfl) rfl ?_
  refine Lx.y (lenV (ty' := 0) Tryz.underlying23 rfl) rfl ?_
  refine Lx.y (asg rfl) rfl ?_
  refine Lx.nil ?_
  refine Xx.tn (k3 _ _ _ _ ?_)
  refine Cx.seq (fun K4 k4 => ?_)
  refine Cx.seq (fun K5 k5 => ?_)
  refine Cx.region ?_
  refine Lx.y (mv rfl) rfl ?_
  refine Lx.y (eqI rfl rfl) rfl ?_
  refine Lx.nil ?_
  refine Xx.tn (k5 _ _ _ _ ?_)
  refine Cx.condD rfl (fun h6 => ?_) (fun h6 => ?_)
  · skip
    exact absurd h6 (by decide)
  · skip
    refine Cx.skip ?_
    refine Xx.tn (k4 _ _ _ _ ?_)
    refine Cx.seq (fun K7 k7 => ?_)
    refine Cx.region ?_
    refine Lx.y (mv rfl) rfl ?_
    refine Lx.y (lenV (ty' := 0) Tryz.underlying23 rfl) rfl ?_
    refine Lx.y (asg rfl) rfl ?_
    refine Lx.nil ?_
    refine Xx.tn (k7 _ _ _ _ ?_)
    refine Cx.seq (fun K8 k8 => ?_)
    refine Cx.seq (fun K9 k9 => ?_)
    refine Cx.region ?_
    refine Lx.y (mv rfl) rfl ?_
    refine Lx.y (mv rfl) rfl ?_
    refine Lx.y (eqI rfl rfl) rfl ?_
    refine Lx.nil ?_
    refine Xx.tn (k9 _ _ _ _ ?_)
    refine Cx.condD rfl (fun h10 => ?_) (fun h10 => ?_)
    · skip
      refine Cx.seq (fun K11 k11 => ?_)
      refine Cx.region ?_
      refine Lx.y (mv rfl) rfl ?_
      refine Lx.y (mv rfl) rfl ?_
      refine Lx.o (appN (et := 9) (n + 1) news (xs ++ news) Tryz.underlying23 Tryz.underlying23 ti9 rfl rfl (by rw [hns]) (by rw [List.drop_zero, List.take_of_length_le (by omega)]) hn1 (by omega) (by omega) rfl rfl) rfl (fun v B' H' hΦ hB => ?_)
      obtain ⟨A3, c3, rfl, hA3, hl3, hc3, hBB, rfl⟩ := hΦ
      obtain rfl := hBB.symm
      clear hB
      refine Lx.y (asg rfl) rfl ?_
      refine Lx.nil ?_
      refine Xx.tn (k11 _ _ _ _ ?_)
      refine Cx.ret ?_
      refine Xx.tr ?_
      exact Xx.dropB vb (Xx.ret1 rfl rfl ⟨A3, c3, rfl, rfl, rfl, hA3 (by omega), hc3⟩ (Frag.le_refl _) rfl)
    · skip
      exact absurd rfl h10

set_option maxHeartbeats 1000000 in
theorem InsS_mid (b : Nat) (sp : List Value) (i n c : Nat) (xs : List Value) (vb : Nat) (etv : TypeId) (news : List Value) (B : Frag) (hi : i < n) (hxl : xs.length = n * 1) (hnc : n ≤ c) (hcl : (xs ++ sp).length = c * 1) (hx1 : xs.all (·.oneCell') = true) (hns : news.length = 1) (hn1 : news.all (·.oneCell') = true) (hbd : (n + 1) * 16 ≤ 140737488355328) : Ct Tryz.prog 79 [.slice (some ⟨b, 0, none⟩) n c, i64 (i : Nat), .slice (some ⟨vb, 0, none⟩) 1 1] B (row vb etv news * row b 9 (xs ++ sp)) (fun v B' H' => ∃ b' c' sp', v = .slice (some ⟨b', 0, none⟩) (n + 1) c' ∧ B' = B ∧ H' = row b' 9 (xs.take (i * 1) ++ news ++ xs.drop (i * 1) ++ sp') ∧ (xs.take (i * 1) ++ news ++ xs.drop (i * 1) ++ sp').length = c' * 1 ∧ n + 1 ≤ c') := by
  have hxl2 := hcl
  rw [List.length_append] at hxl2
  have hDl : (xs.drop (i * 1)).length = (n - i) * 1 := by rw [List.length_drop]; omega
  have hD1 : (xs.drop (i * 1)).all (·.oneCell') = true := by rw [List.all_eq_true] at hx1 ⊢; exact fun v hv => hx1 v (List.mem_of_mem_drop hv)
  have hTl : (xs.take (i * 1)).length = i * 1 := by rw [List.length_take]; omega
  refine Ct.of_body Tryz.func79 rfl (nt := 95) rfl (by kernel_rfl) rfl ?_
  intro N0 w0 R
  rw [star_assoc]
  refine Cx.seq (fun K1 k1 => ?_)
  refine Cx.region ?_
  refine Lx.y (asg rfl) rfl ?_
  refine Lx.nil ?_
  refine Xx.tn (k1 _ _ _ _ ?_)
  refine Cx.seq (fun K2 k2 => ?_)
  refine Cx.region ?_
  refine Lx.y (mv rfl) rfl ?_
  refine Lx.y (mv rfl) rfl ?_
  refine Lx.y (sl1V Tryz.underlying23 sz9 rfl rfl (Int.toNat_natCast _) (by omega) (by omega)) rfl ?_
  refine Lx.nil ?_
  refine Xx.tn (k2 _ _ _ _ ?_)
  refine Cx.seq (fun K3 k3 => ?_)
  refine Cx.region ?_
  refine Lx.y (mv rfl) rfl ?_
  refine Lx.y (lenV (ty' := 0) Tryz.underlying23 rfl) rfl ?_
  refine Lx.y (asg rfl) rfl ?_
  refine Lx.nil ?_
  refine Xx.tn (k3 _ _ _ _ ?_)
  refine Cx.seq (fun K4 k4 => ?_)
  refine Cx.seq (fun K5 k5 => ?_)
  refine Cx.region ?_
  refine Lx.y (mv rfl) rfl ?_
  refine Lx.y (eqI rfl rfl) rfl ?_
  refine Lx.nil ?_
  refine Xx.tn (k5 _ _ _ _ ?_)
  refine Cx.condD rfl (fun h6 => ?_) (fun h6 => ?_)
  · skip
    exact absurd h6 (by decide)
  · skip
    refine Cx.skip ?_
    refine Xx.tn (k4 _ _ _ _ ?_)
    refine Cx.seq (fun K7 k7 => ?_)
    refine Cx.region ?_
    refine Lx.y (mv rfl) rfl ?_
    refine Lx.y (lenV (ty' := 0) Tryz.underlying23 rfl) rfl ?_
    refine Lx.y (asg rfl) rfl ?_
    refine Lx.nil ?_
    refine Xx.tn (k7 _ _ _ _ ?_)
    refine Cx.seq (fun K8 k8 => ?_)
    refine Cx.seq (fun K9 k9 => ?_)
    refine Cx.region ?_
    refine Lx.y (mv rfl) rfl ?_
    refine Lx.y (mv rfl) rfl ?_
    refine Lx.y (eqI rfl rfl) rfl ?_
    refine Lx.nil ?_
    refine Xx.tn (k9 _ _ _ _ ?_)
    refine Cx.condD rfl (fun h10 => ?_) (fun h10 => ?_)
    · skip
      exact absurd h10 (by omega)
    · skip
      refine Cx.skip ?_
      refine Xx.tn (k8 _ _ _ _ ?_)
      refine Cx.seq (fun K11 k11 => ?_)
      refine Cx.seq (fun K12 k12 => ?_)
      refine Cx.region ?_
      refine Lx.y (mv rfl) rfl ?_
      refine Lx.y (mv rfl) rfl ?_
      refine Lx.y (add rfl rfl (by first | exact wrap64 (by omega) (by omega) | rfl)) rfl ?_
      refine Lx.y (mv rfl) rfl ?_
      refine Lx.y (capV Tryz.underlying23 rfl) rfl ?_
      refine Lx.y (gtr rfl rfl) rfl ?_
      refine Lx.nil ?_
      refine Xx.tn (k12 _ _ _ _ ?_)
      refine Cx.condD rfl (fun h13 => ?_) (fun h13 => ?_)
      · skip
        have hno := h13
        refine Cx.seq (fun K14 k14 => ?_)
        refine Cx.region ?_
        refine Lx.y (mv rfl) rfl ?_
        refine Lx.y (mv rfl) rfl ?_
        refine Lx.y (sl2V Tryz.underlying23 sz9 rfl rfl (Int.toNat_natCast _) (by omega) (by omega)) rfl ?_
        refine Lx.y (mv rfl) rfl ?_
        refine Lx.y (mv rfl) rfl ?_
        refine Lx.y (add rfl rfl (by first | exact wrap64 (by omega) (by omega) | rfl)) rfl ?_
        refine Lx.y (mv rfl) rfl ?_
        refine Lx.y (sub rfl rfl (show IntKind.i64.wrap _ = ((n + 1 - i : Nat) : Int) by rw [wrap64 (by omega) (by omega)]; omega)) rfl ?_
        refine Lx.o (amO (olds := xs.take (i * 1)) (m := n + 1 - i) Tryz.underlying23 Tryz.underlying3 ti9 rfl rfl (SrcH.own (b := b) (o := 0) (i * 1) (by rw [List.drop_zero]; exact List.take_append_of_le_length (by omega))) hTl (by omega) (by omega) (by rw [show i + (n + 1 - i) = n + 1 by omega]; exact hbd)) rfl (fun v B' H' hΦ hB => ?_)
        obtain ⟨b9, c9, rest, rfl, hc9, hrl, hBB, rfl⟩ := hΦ
        obtain rfl := hBB.symm
        clear hB
        rw [show i + (n + 1 - i) = n + 1 by omega] at hc9 ⊢
        refine Lx.y (asg rfl) rfl ?_
        refine Lx.nil ?_
        refine Xx.tn (k14 _ _ _ _ ?_)
        refine Cx.seq (fun K15 k15 => ?_)
        refine Cx.region ?_
        refine Lx.y (mv rfl) rfl ?_
        refine Lx.y (mv rfl) rfl ?_
        refine Lx.y (sl1A i Tryz.underlying23 sz9 rfl rfl rfl (by omega) (by omega)) rfl ?_
        refine Lx.y (mv rfl) rfl ?_
        refine Lx.o (cpO (cs' := (xs.take (i * 1) ++ news ++ rest.drop 1)) 1 Tryz.underlying23 sz9 rfl rfl (show Nat.min _ _ = _ by first | rfl | (simp only [Nat.min_def]; split <;> omega)) (SrcH.own (b := vb) (o := 0) (news := news) 1 (by rw [List.drop_zero, List.take_of_length_le (by omega)])) (by rw [hns]) hn1 (by rw [Nat.zero_add, List.length_append, hTl]; omega) (by rw [Nat.zero_add]; exact ins_grow1 hTl hns (by omega))) rfl (fun v B' H' hΦ hB => ?_)
        obtain ⟨rfl, hBB, rfl⟩ := hΦ
        obtain rfl := hBB.symm
        clear hB
        refine Lx.nil ?_
        refine Xx.tn (k15 _ _ _ _ ?_)
        refine Cx.seq (fun K16 k16 => ?_)
        refine Cx.drawn (by kernel_rfl) ?_
        refine Dx.p (i := 0) rfl (by kernel_rfl) (mv rfl) rfl ?_
        refine Dx.p (i := 1) rfl (by kernel_rfl) (mv rfl) rfl ?_
        refine Dx.p (i := 2) rfl (by kernel_rfl) (mv rfl) rfl ?_
        refine Dx.p (i := 3) rfl (by kernel_rfl) (add rfl rfl (show IntKind.i64.wrap _ = ((i + 1 : Nat) : Int) by rw [wrap64 (by omega) (by omega)]; rfl)) rfl ?_
        refine Dx.p (i := 4) rfl (by kernel_rfl) (sl1A (i + 1) Tryz.underlying23 sz9 rfl rfl rfl (by omega) (by omega)) rfl ?_
        refine Dx.p (i := 5) rfl (by kernel_rfl) (mv rfl) rfl ?_
        refine Dx.p (i := 6) rfl (by kernel_rfl) (mv rfl) rfl ?_
        refine Dx.p (i := 7) rfl (by kernel_rfl) (sl1A i Tryz.underlying23 sz9 rfl rfl rfl (by omega) (by omega)) rfl ?_
        refine Dx.one (i := 8) (by kernel_rfl) ?_
        refine Dstep.o (i := 8) rfl (cpO (cs' := (xs.take (i * 1) ++ news ++ xs.drop (i * 1) ++ (rest.drop 1).drop (xs.drop (i * 1)).length)) (n - i) Tryz.underlying23 sz9 rfl rfl (show Nat.min _ _ = _ by first | rfl | (simp only [Nat.min_def]; split <;> omega)) (SrcH.own (b := b) (o := 0 + i * 1) (news := xs.drop (i * 1)) ((n - i) * 1) (by rw [Nat.zero_add, List.drop_append_of_le_length (by omega), List.take_append_of_le_length (by omega), List.take_of_length_le (by omega)])) hDl hD1 (by simp only [List.length_append, List.length_drop, hTl, hns, hDl]; omega) (by rw [Nat.zero_add, show (i + 1) * 1 = i * 1 + 1 by omega]; exact ins_grow2 hTl hns)) rfl (fun v B' H' hΦ hB => ?_)
        obtain ⟨rfl, rfl, rfl⟩ := hΦ
        clear hB
        refine ⟨JOk.top, ?_⟩
        refine Dx.done (by kernel_rfl) ?_
        refine Xx.tn (k16 _ _ _ _ ?_)
        refine Cx.seq (fun K17 k17 => ?_)
        refine Cx.region ?_
        refine Lx.y (mv rfl) rfl ?_
        refine Lx.y (asg rfl) rfl ?_
        refine Lx.nil ?_
        refine Xx.tn (k17 _ _ _ _ ?_)
        refine Cx.ret ?_
        refine Xx.tr ?_
        exact Xx.dropB vb (Xx.dropB b (Xx.ret1 rfl rfl ⟨b9, c9, _, rfl, rfl, rfl, by simp only [List.length_append, List.length_drop, hTl, hns, hDl]; omega, hc9⟩ (Frag.le_refl _) rfl))
      · skip
        have hno := h13
        refine Cx.skip ?_
        refine Xx.tn (k11 _ _ _ _ ?_)
        refine Cx.seq (fun K18 k18 => ?_)
        refine Cx.region ?_
        refine Lx.y (mv rfl) rfl ?_
        refine Lx.y (mv rfl) rfl ?_
        refine Lx.y (mv rfl) rfl ?_
        refine Lx.y (add rfl rfl (show IntKind.i64.wrap _ = ((n + 1 : Nat) : Int) by rw [wrap64 (by omega) (by omega)]; rfl)) rfl ?_
        refine Lx.y (sl2V Tryz.underlying23 sz9 rfl rfl (Int.toNat_natCast _) (by omega) (by omega)) rfl ?_
        refine Lx.y (asg rfl) rfl ?_
        refine Lx.nil ?_
        refine Xx.tn (k18 _ _ _ _ ?_)
        refine Cx.seq (fun K19 k19 => ?_)
        refine Cx.seq (fun K20 k20 => ?_)
        refine Cx.region ?_
        refine Lx.y (mv rfl) rfl ?_
        refine Lx.y (mv rfl) rfl ?_
        refine Lx.y (mv rfl) rfl ?_
        refine Lx.y (mv rfl) rfl ?_
        refine Lx.y (add rfl rfl (show IntKind.i64.wrap _ = ((i + 1 : Nat) : Int) by rw [wrap64 (by omega) (by omega)]; rfl)) rfl ?_
        refine Lx.y (sl1V Tryz.underlying23 sz9 rfl rfl (Int.toNat_natCast _) (by omega) (by omega)) rfl ?_
        rw [show subA (some ⟨b, 0, none⟩) c (i + 1) 1 = (if c = i + 1 then some ⟨b, 0, none⟩ else some ⟨b, 0 + (i + 1) * 1, none⟩) by unfold subA; split <;> simp [add_mk]]
        have hcne : ¬ c = i + 1 := by omega
        rw [if_neg hcne]
        refine Lx.y (extc rfl rfl (ovQ (tS := 23) (tR := 4) Tryz.func96 (by kernel_rfl) (by kernel_rfl) (by kernel_rfl) (by kernel_rfl) Tryz.underlying23 sz9 rfl (by intro z; have h9 := congrArg List.length z; rw [List.length_append, List.length_nil] at h9; omega))) rfl ?_
        refine Lx.y (not' rfl) rfl ?_
        refine Lx.nil ?_
        refine Xx.tn (k20 _ _ _ _ ?_)
        refine Cx.condT rfl ?_
        refine Cx.seq (fun K21 k21 => ?_)
        refine Cx.drawn (by kernel_rfl) ?_
        refine Dx.p (i := 0) rfl (by kernel_rfl) (mv rfl) rfl ?_
        refine Dx.p (i := 1) rfl (by kernel_rfl) (mv rfl) rfl ?_
        refine Dx.p (i := 2) rfl (by kernel_rfl) (mv rfl) rfl ?_
        refine Dx.p (i := 3) rfl (by kernel_rfl) (add rfl rfl (show IntKind.i64.wrap _ = ((i + 1 : Nat) : Int) by rw [wrap64 (by omega) (by omega)]; rfl)) rfl ?_
        refine Dx.p (i := 4) rfl (by kernel_rfl) (sl1A (i + 1) Tryz.underlying23 sz9 rfl rfl rfl (by omega) (by omega)) rfl ?_
        refine Dx.p (i := 5) rfl (by kernel_rfl) (mv rfl) rfl ?_
        refine Dx.p (i := 6) rfl (by kernel_rfl) (mv rfl) rfl ?_
        refine Dx.p (i := 7) rfl (by kernel_rfl) (sl1A i Tryz.underlying23 sz9 rfl rfl rfl (by omega) (by omega)) rfl ?_
        refine Dx.one (i := 8) (by kernel_rfl) ?_
        refine Dstep.o (i := 8) rfl (cpO (cs' := ((xs ++ sp).take (i * 1 + 1) ++ xs.drop (i * 1) ++ (xs ++ sp).drop ((n + 1) * 1))) (n - i) Tryz.underlying23 sz9 rfl rfl (show Nat.min _ _ = _ by first | rfl | (simp only [Nat.min_def]; split <;> omega)) (SrcH.own (b := b) (o := 0 + i * 1) (news := xs.drop (i * 1)) ((n - i) * 1) (by rw [Nat.zero_add, List.drop_append_of_le_length (by omega), List.take_append_of_le_length (by omega), List.take_of_length_le (by omega)])) hDl hD1 (by rw [List.length_append]; omega) (by rw [Nat.zero_add, hDl, show (i + 1) * 1 = i * 1 + 1 by omega, show i * 1 + 1 + (n - i) * 1 = (n + 1) * 1 by omega])) rfl (fun v B' H' hΦ hB => ?_)
        obtain ⟨rfl, rfl, rfl⟩ := hΦ
        clear hB
        refine ⟨JOk.top, ?_⟩
        refine Dx.done (by kernel_rfl) ?_
        refine Xx.tn (k21 _ _ _ _ ?_)
        refine Cx.seq (fun K22 k22 => ?_)
        refine Cx.region ?_
        refine Lx.y (mv rfl) rfl ?_
        refine Lx.y (mv rfl) rfl ?_
        refine Lx.y (sl1A i Tryz.underlying23 sz9 rfl rfl rfl (by omega) (by omega)) rfl ?_
        refine Lx.y (mv rfl) rfl ?_
        refine Lx.o (cpO (cs' := (xs.take (i * 1) ++ news ++ xs.drop (i * 1) ++ (xs ++ sp).drop ((n + 1) * 1))) 1 Tryz.underlying23 sz9 rfl rfl (show Nat.min _ _ = _ by first | rfl | (simp only [Nat.min_def]; split <;> omega)) (SrcH.own (b := vb) (o := 0) (news := news) 1 (by rw [List.drop_zero, List.take_of_length_le (by omega)])) (by rw [hns]) hn1 (by simp only [List.length_append, List.length_take, List.length_drop, hDl]; omega) (by rw [Nat.zero_add]; exact ins_room (by omega) hns (by rw [List.length_append]; omega) (List.take_append_of_le_length (by omega)) rfl (by omega))) rfl (fun v B' H' hΦ hB => ?_)
        obtain ⟨rfl, hBB, rfl⟩ := hΦ
        obtain rfl := hBB.symm
        clear hB
        refine Lx.nil ?_
        refine Xx.tn (k22 _ _ _ _ ?_)
        refine Cx.seq (fun K23 k23 => ?_)
        refine Cx.region ?_
        refine Lx.y (mv rfl) rfl ?_
        refine Lx.y (asg rfl) rfl ?_
        refine Lx.nil ?_
        refine Xx.tn (k23 _ _ _ _ ?_)
        refine Cx.ret ?_
        refine Xx.tr ?_
        exact Xx.dropB vb (Xx.ret1 rfl rfl ⟨b, c, _, rfl, rfl, rfl, by simp only [List.length_append, List.length_drop, hTl, hns, hDl]; omega, by omega⟩ (Frag.le_refl _) rfl)

theorem InsS_ct (A : Option Addr) (i n c : Nat) (xs : List Value) (vb : Nat) (etv : TypeId) (news : List Value) (B : Frag) (hi : i ≤ n) (hxl : xs.length = n * 1) (hx1 : xs.all (·.oneCell') = true) (hns : news.length = 1) (hn1 : news.all (·.oneCell') = true) (hbd : (n + 1) * 16 ≤ 140737488355328) :
    Ct Tryz.prog 79 [.slice A n c, i64 (i : Nat), .slice (some ⟨vb, 0, none⟩) 1 1] B (sbuf 9 1 A n c xs * row vb etv news) (fun v B' H' => ∃ A' c', v = .slice A' (n + 1) c' ∧ B' = B ∧ H' = sbuf 9 1 A' (n + 1) c' (xs.take (i * 1) ++ news ++ xs.drop (i * 1)) ∧ (∃ b, A' = some ⟨b, 0, none⟩) ∧ n + 1 ≤ c') := by
  by_cases h : i = n
  · subst h
    have h1 : xs.take (i * 1) = xs := List.take_of_length_le (by omega)
    have h2 : xs.drop (i * 1) = [] := List.drop_of_length_le (by omega)
    rw [h1, h2, List.append_nil]
    exact InsS_end A i c xs vb etv news B hns hn1 hbd
  · refine Ct.of_sbuf (by omega) (fun b sp hA hx hnc hcl => ?_) (Go.SL.enters_of Tryz.func79 rfl (by kernel_rfl))
    subst hA
    have hm := InsS_mid b sp i n c xs vb etv news B (by omega) hxl hnc hcl hx1 hns hn1 hbd
    refine ⟨hm.1, fun N0 w R s => (hm.2 N0 w R s).mono ?_⟩
    rintro x w' ⟨v, B', _, hx', ⟨b', c', sp', hv, hB, rfl, hl, hc'⟩, hBB, hb, s'⟩
    refine ⟨v, B', _, hx', ⟨some ⟨b', 0, none⟩, c', hv, hB, rfl, ⟨b', rfl⟩, hc'⟩, hBB, hb, row_sbuf ?_ hc' hl s'⟩
    simp only [List.length_append, List.length_take, List.length_drop, hns, hxl]; omega

set_option maxHeartbeats 1000000 in
theorem InsN_end (A : Option Addr) (n c : Nat) (xs : List Value) (vb : Nat) (etv : TypeId) (news : List Value) (B : Frag) (hns : news.length = 1) (hn1 : news.all (·.oneCell') = true) (hbd : (n + 1) * 8 ≤ 140737488355328) : Ct Tryz.prog 80 [.slice A n c, i64 (n : Nat), .slice (some ⟨vb, 0, none⟩) 1 1] B (sbuf 110 1 A n c xs * row vb etv news) (fun v B' H' => ∃ A' c', v = .slice A' (n + 1) c' ∧ B' = B ∧ H' = sbuf 110 1 A' (n + 1) c' (xs ++ news) ∧ (∃ b, A' = some ⟨b, 0, none⟩) ∧ n + 1 ≤ c') := by
  refine Ct.of_body Tryz.func80 rfl (nt := 95) rfl (by kernel_rfl) rfl ?_
  intro N0 w0 R
  rw [star_assoc]
  refine Cx.seq (fun K1 k1 => ?_)
  refine Cx.region ?_
  refine Lx.y (asg rfl) rfl ?_
  refine Lx.nil ?_
  refine Xx.tn (k1 _ _ _ _ ?_)
  refine Cx.seq (fun K2 k2 => ?_)
  refine Cx.region ?_
  refine Lx.y (mv rfl) rfl ?_
  refine Lx.y (mv rfl) rfl ?_
  refine Lx.y (sl1V Tryz.underlying111 sz110 rfl rfl (Int.toNat_natCast _) (by omega) (by omega)) rfl ?_
  refine Lx.nil ?_
  refine Xx.tn (k2 _ _ _ _ ?_)
  refine Cx.seq (fun K3 k3 => ?_)
  refine Cx.region ?_
  refine Lx.y (mv rfl) rfl ?_
  refine Lx.y (lenV (ty' := 0) Tryz.underlying111 rfl) rfl ?_
  refine Lx.y (asg rfl) rfl ?_
  refine Lx.nil ?_
  refine Xx.tn (k3 _ _ _ _ ?_)
  refine Cx.seq (fun K4 k4 => ?_)
  refine Cx.seq (fun K5 k5 => ?_)
  refine Cx.region ?_
  refine Lx.y (mv rfl) rfl ?_
  refine Lx.y (eqI rfl rfl) rfl ?_
  refine Lx.nil ?_
  refine Xx.tn (k5 _ _ _ _ ?_)
  refine Cx.condD rfl (fun h6 => ?_) (fun h6 => ?_)
  · skip
    exact absurd h6 (by decide)
  · skip
    refine Cx.skip ?_
    refine Xx.tn (k4 _ _ _ _ ?_)
    refine Cx.seq (fun K7 k7 => ?_)
    refine Cx.region ?_
    refine Lx.y (mv rfl) rfl ?_
    refine Lx.y (lenV (ty' := 0) Tryz.underlying111 rfl) rfl ?_
    refine Lx.y (asg rfl) rfl ?_
    refine Lx.nil ?_
    refine Xx.tn (k7 _ _ _ _ ?_)
    refine Cx.seq (fun K8 k8 => ?_)
    refine Cx.seq (fun K9 k9 => ?_)
    refine Cx.region ?_
    refine Lx.y (mv rfl) rfl ?_
    refine Lx.y (mv rfl) rfl ?_
    refine Lx.y (eqI rfl rfl) rfl ?_
    refine Lx.nil ?_
    refine Xx.tn (k9 _ _ _ _ ?_)
    refine Cx.condD rfl (fun h10 => ?_) (fun h10 => ?_)
    · skip
      refine Cx.seq (fun K11 k11 => ?_)
      refine Cx.region ?_
      refine Lx.y (mv rfl) rfl ?_
      refine Lx.y (mv rfl) rfl ?_
      refine Lx.o (appN (et := 110) (n + 1) news (xs ++ news) Tryz.underlying111 Tryz.underlying111 ti110 rfl rfl (by rw [hns]) (by rw [List.drop_zero, List.take_of_length_le (by omega)]) hn1 (by omega) (by omega) rfl rfl) rfl (fun v B' H' hΦ hB => ?_)
      obtain ⟨A3, c3, rfl, hA3, hl3, hc3, hBB, rfl⟩ := hΦ
      obtain rfl := hBB.symm
      clear hB
      refine Lx.y (asg rfl) rfl ?_
      refine Lx.nil ?_
      refine Xx.tn (k11 _ _ _ _ ?_)
      refine Cx.ret ?_
      refine Xx.tr ?_
      exact Xx.dropB vb (Xx.ret1 rfl rfl ⟨A3, c3, rfl, rfl, rfl, hA3 (by omega), hc3⟩ (Frag.le_refl _) rfl)
    · skip
      exact absurd rfl h10

set_option maxHeartbeats 1000000 in
theorem InsN_mid (b : Nat) (sp : List Value) (i n c : Nat) (xs : List Value) (vb : Nat) (etv : TypeId) (news : List Value) (B : Frag) (hi : i < n) (hxl : xs.length = n * 1) (hnc : n ≤ c) (hcl : (xs ++ sp).length = c * 1) (hx1 : xs.all (·.oneCell') = true) (hns : news.length = 1) (hn1 : news.all (·.oneCell') = true) (hbd : (n + 1) * 8 ≤ 140737488355328) : Ct Tryz.prog 80 [.slice (some ⟨b, 0, none⟩) n c, i64 (i : Nat), .slice (some ⟨vb, 0, none⟩) 1 1] B (row vb etv news * row b 110 (xs ++ sp)) (fun v B' H' => ∃ b' c' sp', v = .slice (some ⟨b', 0, none⟩) (n + 1) c' ∧ B' = B ∧ H' = row b' 110 (xs.take (i * 1) ++ news ++ xs.drop (i * 1) ++ sp') ∧ (xs.take (i * 1) ++ news ++ xs.drop (i * 1) ++ sp').length = c' * 1 ∧ n + 1 ≤ c') := by
  have hxl2 := hcl
  rw [List.length_append] at hxl2
  have hDl : (xs.drop (i * 1)).length = (n - i) * 1 := by rw [List.length_drop]; omega
  have hD1 : (xs.drop (i * 1)).all (·.oneCell') = true := by rw [List.all_eq_true] at hx1 ⊢; exact fun v hv => hx1 v (List.mem_of_mem_drop hv)
  have hTl : (xs.take (i * 1)).length = i * 1 := by rw [List.length_take]; omega
  refine Ct.of_body Tryz.func80 rfl (nt := 95) rfl (by kernel_rfl) rfl ?_
  intro N0 w0 R
  rw [star_assoc]
  refine Cx.seq (fun K1 k1 => ?_)
  refine Cx.region ?_
  refine Lx.y (asg rfl) rfl ?_
  refine Lx.nil ?_
  refine Xx.tn (k1 _ _ _ _ ?_)
  refine Cx.seq (fun K2 k2 => ?_)
  refine Cx.region ?_
  refine Lx.y (mv rfl) rfl ?_
  refine Lx.y (mv rfl) rfl ?_
  refine Lx.y (sl1V Tryz.underlying111 sz110 rfl rfl (Int.toNat_natCast _) (by omega) (by omega)) rfl ?_
  refine Lx.nil ?_
  refine Xx.tn (k2 _ _ _ _ ?_)
  refine Cx.seq (fun K3 k3 => ?_)
  refine Cx.region ?_
  refine Lx.y (mv rfl) rfl ?_
  refine Lx.y (lenV (ty' := 0) Tryz.underlying111 rfl) rfl ?_
  refine Lx.y (asg rfl) rfl ?_
  refine Lx.nil ?_
  refine Xx.tn (k3 _ _ _ _ ?_)
  refine Cx.seq (fun K4 k4 => ?_)
  refine Cx.seq (fun K5 k5 => ?_)
  refine Cx.region ?_
  refine Lx.y (mv rfl) rfl ?_
  refine Lx.y (eqI rfl rfl) rfl ?_
  refine Lx.nil ?_
  refine Xx.tn (k5 _ _ _ _ ?_)
  refine Cx.condD rfl (fun h6 => ?_) (fun h6 => ?_)
  · skip
    exact absurd h6 (by decide)
  · skip
    refine Cx.skip ?_
    refine Xx.tn (k4 _ _ _ _ ?_)
    refine Cx.seq (fun K7 k7 => ?_)
    refine Cx.region ?_
    refine Lx.y (mv rfl) rfl ?_
    refine Lx.y (lenV (ty' := 0) Tryz.underlying111 rfl) rfl ?_
    refine Lx.y (asg rfl) rfl ?_
    refine Lx.nil ?_
    refine Xx.tn (k7 _ _ _ _ ?_)
    refine Cx.seq (fun K8 k8 => ?_)
    refine Cx.seq (fun K9 k9 => ?_)
    refine Cx.region ?_
    refine Lx.y (mv rfl) rfl ?_
    refine Lx.y (mv rfl) rfl ?_
    refine Lx.y (eqI rfl rfl) rfl ?_
    refine Lx.nil ?_
    refine Xx.tn (k9 _ _ _ _ ?_)
    refine Cx.condD rfl (fun h10 => ?_) (fun h10 => ?_)
    · skip
      exact absurd h10 (by omega)
    · skip
      refine Cx.skip ?_
      refine Xx.tn (k8 _ _ _ _ ?_)
      refine Cx.seq (fun K11 k11 => ?_)
      refine Cx.seq (fun K12 k12 => ?_)
      refine Cx.region ?_
      refine Lx.y (mv rfl) rfl ?_
      refine Lx.y (mv rfl) rfl ?_
      refine Lx.y (add rfl rfl (by first | exact wrap64 (by omega) (by omega) | rfl)) rfl ?_
      refine Lx.y (mv rfl) rfl ?_
      refine Lx.y (capV Tryz.underlying111 rfl) rfl ?_
      refine Lx.y (gtr rfl rfl) rfl ?_
      refine Lx.nil ?_
      refine Xx.tn (k12 _ _ _ _ ?_)
      refine Cx.condD rfl (fun h13 => ?_) (fun h13 => ?_)
      · skip
        have hno := h13
        refine Cx.seq (fun K14 k14 => ?_)
        refine Cx.region ?_
        refine Lx.y (mv rfl) rfl ?_
        refine Lx.y (mv rfl) rfl ?_
        refine Lx.y (sl2V Tryz.underlying111 sz110 rfl rfl (Int.toNat_natCast _) (by omega) (by omega)) rfl ?_
        refine Lx.y (mv rfl) rfl ?_
        refine Lx.y (mv rfl) rfl ?_
        refine Lx.y (add rfl rfl (by first | exact wrap64 (by omega) (by omega) | rfl)) rfl ?_
        refine Lx.y (mv rfl) rfl ?_
        refine Lx.y (sub rfl rfl (show IntKind.i64.wrap _ = ((n + 1 - i : Nat) : Int) by rw [wrap64 (by omega) (by omega)]; omega)) rfl ?_
        refine Lx.o (amO (olds := xs.take (i * 1)) (m := n + 1 - i) Tryz.underlying111 Tryz.underlying3 ti110 rfl rfl (SrcH.own (b := b) (o := 0) (i * 1) (by rw [List.drop_zero]; exact List.take_append_of_le_length (by omega))) hTl (by omega) (by omega) (by rw [show i + (n + 1 - i) = n + 1 by omega]; exact hbd)) rfl (fun v B' H' hΦ hB => ?_)
        obtain ⟨b9, c9, rest, rfl, hc9, hrl, hBB, rfl⟩ := hΦ
        obtain rfl := hBB.symm
        clear hB
        rw [show i + (n + 1 - i) = n + 1 by omega] at hc9 ⊢
        refine Lx.y (asg rfl) rfl ?_
        refine Lx.nil ?_
        refine Xx.tn (k14 _ _ _ _ ?_)
        refine Cx.seq (fun K15 k15 => ?_)
        refine Cx.region ?_
        refine Lx.y (mv rfl) rfl ?_
        refine Lx.y (mv rfl) rfl ?_
        refine Lx.y (sl1A i Tryz.underlying111 sz110 rfl rfl rfl (by omega) (by omega)) rfl ?_
        refine Lx.y (mv rfl) rfl ?_
        refine Lx.o (cpO (cs' := (xs.take (i * 1) ++ news ++ rest.drop 1)) 1 Tryz.underlying111 sz110 rfl rfl (show Nat.min _ _ = _ by first | rfl | (simp only [Nat.min_def]; split <;> omega)) (SrcH.own (b := vb) (o := 0) (news := news) 1 (by rw [List.drop_zero, List.take_of_length_le (by omega)])) (by rw [hns]) hn1 (by rw [Nat.zero_add, List.length_append, hTl]; omega) (by rw [Nat.zero_add]; exact ins_grow1 hTl hns (by omega))) rfl (fun v B' H' hΦ hB => ?_)
        obtain ⟨rfl, hBB, rfl⟩ := hΦ
        obtain rfl := hBB.symm
        clear hB
        refine Lx.nil ?_
        refine Xx.tn (k15 _ _ _ _ ?_)
        refine Cx.seq (fun K16 k16 => ?_)
        refine Cx.drawn (by kernel_rfl) ?_
        refine Dx.p (i := 0) rfl (by kernel_rfl) (mv rfl) rfl ?_
        refine Dx.p (i := 1) rfl (by kernel_rfl) (mv rfl) rfl ?_
        refine Dx.p (i := 2) rfl (by kernel_rfl) (mv rfl) rfl ?_
        refine Dx.p (i := 3) rfl (by kernel_rfl) (add rfl rfl (show IntKind.i64.wrap _ = ((i + 1 : Nat) : Int) by rw [wrap64 (by omega) (by omega)]; rfl)) rfl ?_
        refine Dx.p (i := 4) rfl (by kernel_rfl) (sl1A (i + 1) Tryz.underlying111 sz110 rfl rfl rfl (by omega) (by omega)) rfl ?_
        refine Dx.p (i := 5) rfl (by kernel_rfl) (mv rfl) rfl ?_
        refine Dx.p (i := 6) rfl (by kernel_rfl) (mv rfl) rfl ?_
        refine Dx.p (i := 7) rfl (by kernel_rfl) (sl1A i Tryz.underlying111 sz110 rfl rfl rfl (by omega) (by omega)) rfl ?_
        refine Dx.one (i := 8) (by kernel_rfl) ?_
        refine Dstep.o (i := 8) rfl (cpO (cs' := (xs.take (i * 1) ++ news ++ xs.drop (i * 1) ++ (rest.drop 1).drop (xs.drop (i * 1)).length)) (n - i) Tryz.underlying111 sz110 rfl rfl (show Nat.min _ _ = _ by first | rfl | (simp only [Nat.min_def]; split <;> omega)) (SrcH.own (b := b) (o := 0 + i * 1) (news := xs.drop (i * 1)) ((n - i) * 1) (by rw [Nat.zero_add, List.drop_append_of_le_length (by omega), List.take_append_of_le_length (by omega), List.take_of_length_le (by omega)])) hDl hD1 (by simp only [List.length_append, List.length_drop, hTl, hns, hDl]; omega) (by rw [Nat.zero_add, show (i + 1) * 1 = i * 1 + 1 by omega]; exact ins_grow2 hTl hns)) rfl (fun v B' H' hΦ hB => ?_)
        obtain ⟨rfl, rfl, rfl⟩ := hΦ
        clear hB
        refine ⟨JOk.top, ?_⟩
        refine Dx.done (by kernel_rfl) ?_
        refine Xx.tn (k16 _ _ _ _ ?_)
        refine Cx.seq (fun K17 k17 => ?_)
        refine Cx.region ?_
        refine Lx.y (mv rfl) rfl ?_
        refine Lx.y (asg rfl) rfl ?_
        refine Lx.nil ?_
        refine Xx.tn (k17 _ _ _ _ ?_)
        refine Cx.ret ?_
        refine Xx.tr ?_
        exact Xx.dropB vb (Xx.dropB b (Xx.ret1 rfl rfl ⟨b9, c9, _, rfl, rfl, rfl, by simp only [List.length_append, List.length_drop, hTl, hns, hDl]; omega, hc9⟩ (Frag.le_refl _) rfl))
      · skip
        have hno := h13
        refine Cx.skip ?_
        refine Xx.tn (k11 _ _ _ _ ?_)
        refine Cx.seq (fun K18 k18 => ?_)
        refine Cx.region ?_
        refine Lx.y (mv rfl) rfl ?_
        refine Lx.y (mv rfl) rfl ?_
        refine Lx.y (mv rfl) rfl ?_
        refine Lx.y (add rfl rfl (show IntKind.i64.wrap _ = ((n + 1 : Nat) : Int) by rw [wrap64 (by omega) (by omega)]; rfl)) rfl ?_
        refine Lx.y (sl2V Tryz.underlying111 sz110 rfl rfl (Int.toNat_natCast _) (by omega) (by omega)) rfl ?_
        refine Lx.y (asg rfl) rfl ?_
        refine Lx.nil ?_
        refine Xx.tn (k18 _ _ _ _ ?_)
        refine Cx.seq (fun K19 k19 => ?_)
        refine Cx.seq (fun K20 k20 => ?_)
        refine Cx.region ?_
        refine Lx.y (mv rfl) rfl ?_
        refine Lx.y (mv rfl) rfl ?_
        refine Lx.y (mv rfl) rfl ?_
        refine Lx.y (mv rfl) rfl ?_
        refine Lx.y (add rfl rfl (show IntKind.i64.wrap _ = ((i + 1 : Nat) : Int) by rw [wrap64 (by omega) (by omega)]; rfl)) rfl ?_
        refine Lx.y (sl1V Tryz.underlying111 sz110 rfl rfl (Int.toNat_natCast _) (by omega) (by omega)) rfl ?_
        rw [show subA (some ⟨b, 0, none⟩) c (i + 1) 1 = (if c = i + 1 then some ⟨b, 0, none⟩ else some ⟨b, 0 + (i + 1) * 1, none⟩) by unfold subA; split <;> simp [add_mk]]
        have hcne : ¬ c = i + 1 := by omega
        rw [if_neg hcne]
        refine Lx.y (extc rfl rfl (ovQ (tS := 111) (tR := 4) Tryz.func98 (by kernel_rfl) (by kernel_rfl) (by kernel_rfl) (by kernel_rfl) Tryz.underlying111 sz110 rfl (by intro z; have h9 := congrArg List.length z; rw [List.length_append, List.length_nil] at h9; omega))) rfl ?_
        refine Lx.y (not' rfl) rfl ?_
        refine Lx.nil ?_
        refine Xx.tn (k20 _ _ _ _ ?_)
        refine Cx.condT rfl ?_
        refine Cx.seq (fun K21 k21 => ?_)
        refine Cx.drawn (by kernel_rfl) ?_
        refine Dx.p (i := 0) rfl (by kernel_rfl) (mv rfl) rfl ?_
        refine Dx.p (i := 1) rfl (by kernel_rfl) (mv rfl) rfl ?_
        refine Dx.p (i := 2) rfl (by kernel_rfl) (mv rfl) rfl ?_
        refine Dx.p (i := 3) rfl (by kernel_rfl) (add rfl rfl (show IntKind.i64.wrap _ = ((i + 1 : Nat) : Int) by rw [wrap64 (by omega) (by omega)]; rfl)) rfl ?_
        refine Dx.p (i := 4) rfl (by kernel_rfl) (sl1A (i + 1) Tryz.underlying111 sz110 rfl rfl rfl (by omega) (by omega)) rfl ?_
        refine Dx.p (i := 5) rfl (by kernel_rfl) (mv rfl) rfl ?_
        refine Dx.p (i := 6) rfl (by kernel_rfl) (mv rfl) rfl ?_
        refine Dx.p (i := 7) rfl (by kernel_rfl) (sl1A i Tryz.underlying111 sz110 rfl rfl rfl (by omega) (by omega)) rfl ?_
        refine Dx.one (i := 8) (by kernel_rfl) ?_
        refine Dstep.o (i := 8) rfl (cpO (cs' := ((xs ++ sp).take (i * 1 + 1) ++ xs.drop (i * 1) ++ (xs ++ sp).drop ((n + 1) * 1))) (n - i) Tryz.underlying111 sz110 rfl rfl (show Nat.min _ _ = _ by first | rfl | (simp only [Nat.min_def]; split <;> omega)) (SrcH.own (b := b) (o := 0 + i * 1) (news := xs.drop (i * 1)) ((n - i) * 1) (by rw [Nat.zero_add, List.drop_append_of_le_length (by omega), List.take_append_of_le_length (by omega), List.take_of_length_le (by omega)])) hDl hD1 (by rw [List.length_append]; omega) (by rw [Nat.zero_add, hDl, show (i + 1) * 1 = i * 1 + 1 by omega, show i * 1 + 1 + (n - i) * 1 = (n + 1) * 1 by omega])) rfl (fun v B' H' hΦ hB => ?_)
        obtain ⟨rfl, rfl, rfl⟩ := hΦ
        clear hB
        refine ⟨JOk.top, ?_⟩
        refine Dx.done (by kernel_rfl) ?_
        refine Xx.tn (k21 _ _ _ _ ?_)
        refine Cx.seq (fun K22 k22 => ?_)
        refine Cx.region ?_
        refine Lx.y (mv rfl) rfl ?_
        refine Lx.y (mv rfl) rfl ?_
        refine Lx.y (sl1A i Tryz.underlying111 sz110 rfl rfl rfl (by omega) (by omega)) rfl ?_
        refine Lx.y (mv rfl) rfl ?_
        refine Lx.o (cpO (cs' := (xs.take (i * 1) ++ news ++ xs.drop (i * 1) ++ (xs ++ sp).drop ((n + 1) * 1))) 1 Tryz.underlying111 sz110 rfl rfl (show Nat.min _ _ = _ by first | rfl | (simp only [Nat.min_def]; split <;> omega)) (SrcH.own (b := vb) (o := 0) (news := news) 1 (by rw [List.drop_zero, List.take_of_length_le (by omega)])) (by rw [hns]) hn1 (by simp only [List.length_append, List.length_take, List.length_drop, hDl]; omega) (by rw [Nat.zero_add]; exact ins_room (by omega) hns (by rw [List.length_append]; omega) (List.take_append_of_le_length (by omega)) rfl (by omega))) rfl (fun v B' H' hΦ hB => ?_)
        obtain ⟨rfl, hBB, rfl⟩ := hΦ
        obtain rfl := hBB.symm
        clear hB
        refine Lx.nil ?_
        refine Xx.tn (k22 _ _ _ _ ?_)
        refine Cx.seq (fun K23 k23 => ?_)
        refine Cx.region ?_
        refine Lx.y (mv rfl) rfl ?_
        refine Lx.y (asg rfl) rfl ?_
        refine Lx.nil ?_
        refine Xx.tn (k23 _ _ _ _ ?_)
        refine Cx.ret ?_
        refine Xx.tr ?_
        exact Xx.dropB vb (Xx.ret1 rfl rfl ⟨b, c, _, rfl, rfl, rfl, by simp only [List.length_append, List.length_drop, hTl, hns, hDl]; omega, by omega⟩ (Frag.le_refl _) rfl)

theorem InsN_ct (A : Option Addr) (i n c : Nat) (xs : List Value) (vb : Nat) (etv : TypeId) (news : List Value) (B : Frag) (hi : i ≤ n) (hxl : xs.length = n * 1) (hx1 : xs.all (·.oneCell') = true) (hns : news.length = 1) (hn1 : news.all (·.oneCell') = true) (hbd : (n + 1) * 8 ≤ 140737488355328) :
    Ct Tryz.prog 80 [.slice A n c, i64 (i : Nat), .slice (some ⟨vb, 0, none⟩) 1 1] B (sbuf 110 1 A n c xs * row vb etv news) (fun v B' H' => ∃ A' c', v = .slice A' (n + 1) c' ∧ B' = B ∧ H' = sbuf 110 1 A' (n + 1) c' (xs.take (i * 1) ++ news ++ xs.drop (i * 1)) ∧ (∃ b, A' = some ⟨b, 0, none⟩) ∧ n + 1 ≤ c') := by
  by_cases h : i = n
  · subst h
    have h1 : xs.take (i * 1) = xs := List.take_of_length_le (by omega)
    have h2 : xs.drop (i * 1) = [] := List.drop_of_length_le (by omega)
    rw [h1, h2, List.append_nil]
    exact InsN_end A i c xs vb etv news B hns hn1 hbd
  · refine Ct.of_sbuf (by omega) (fun b sp hA hx hnc hcl => ?_) (Go.SL.enters_of Tryz.func80 rfl (by kernel_rfl))
    subst hA
    have hm := InsN_mid b sp i n c xs vb etv news B (by omega) hxl hnc hcl hx1 hns hn1 hbd
    refine ⟨hm.1, fun N0 w R s => (hm.2 N0 w R s).mono ?_⟩
    rintro x w' ⟨v, B', _, hx', ⟨b', c', sp', hv, hB, rfl, hl, hc'⟩, hBB, hb, s'⟩
    refine ⟨v, B', _, hx', ⟨some ⟨b', 0, none⟩, c', hv, hB, rfl, ⟨b', rfl⟩, hc'⟩, hBB, hb, row_sbuf ?_ hc' hl s'⟩
    simp only [List.length_append, List.length_take, List.length_drop, hns, hxl]; omega

set_option maxHeartbeats 1000000 in
theorem CloneS_ct (A : Option Addr) (n c : Nat) (news : List Value) (B : Frag) (hn0 : 0 < n) (hR : RoS B 1 A n news) (h1 : news.all (·.oneCell') = true) (hbd : n * 16 ≤ 140737488355328) : Ct Tryz.prog 59 [.slice A n c] B 1 (fun v B' H' => B' = B ∧ ∃ A' c', v = .slice A' n c' ∧ H' = sbuf 9 1 A' n c' news ∧ n ≤ c') := by
  obtain ⟨b, o, rfl⟩ : ∃ b o, A = some ⟨b, o, none⟩ := by
    obtain ⟨_, h | ⟨b, o, _, _, _, h, _⟩⟩ := hR
    · omega
    · exact ⟨b, o, h⟩
  refine Ct.of_body Tryz.func59 rfl (nt := 8) rfl (by kernel_rfl) rfl ?_
  intro N0 w0 R
  rw [one_star]
  refine Cx.seq (fun K1 k1 => ?_)
  refine Cx.region ?_
  refine Lx.y (asg rfl) rfl ?_
  refine Lx.nil ?_
  refine Xx.tn (k1 _ _ _ _ ?_)
  refine Cx.seq (fun K2 k2 => ?_)
  refine Cx.seq (fun K3 k3 => ?_)
  refine Cx.region ?_
  refine Lx.y (mv rfl) rfl ?_
  refine Lx.y (Yx.ff (eqNilV Tryz.underlying23 rfl rfl) rfl) rfl ?_
  refine Lx.nil ?_
  refine Xx.tn (k3 _ _ _ _ ?_)
  refine Cx.condF rfl ?_
  refine Cx.skip ?_
  refine Xx.tn (k2 _ _ _ _ ?_)
  refine Cx.seq (fun K4 k4 => ?_)
  refine Cx.region ?_
  refine Lx.bsl (bsl1 Tryz.underlying23 ti9 rfl rfl rfl (by decide)) rfl (fun b0 => ?_)
  refine Xx.toS b0 1 0 0 rfl (Nat.le_refl _) rfl ?_
  refine Lx.y (mv rfl) rfl ?_
  refine Lx.o (appO (et := 9) (p := 1) (R := R) Tryz.underlying23 Tryz.underlying23 ti9 rfl rfl (hR.src _) h1 (by rw [one_star]) (by omega) (by omega)) rfl (fun v B' H' hΦ hB => ?_)
  obtain ⟨A3, c3, rfl, hA3, hl3, hc3, hBB, rfl⟩ := hΦ
  obtain rfl := hBB.symm
  clear hB
  rw [one_star, Nat.zero_add, List.nil_append] at *
  refine Lx.y (asg rfl) rfl ?_
  refine Lx.nil ?_
  refine Xx.tn (k4 _ _ _ _ ?_)
  refine Cx.ret ?_
  exact Xx.ret1 rfl rfl ⟨rfl, A3, c3, rfl, rfl, hc3⟩ (Frag.le_refl _) rfl

set_option maxHeartbeats 1000000 in
theorem CloneN_ct (A : Option Addr) (n c : Nat) (news : List Value) (B : Frag) (hn0 : 0 < n) (hR : RoS B 1 A n news) (h1 : news.all (·.oneCell') = true) (hbd : n * 8 ≤ 140737488355328) : Ct Tryz.prog 78 [.slice A n c] B 1 (fun v B' H' => B' = B ∧ ∃ A' c', v = .slice A' n c' ∧ H' = sbuf 110 1 A' n c' news ∧ n ≤ c') := by
  obtain ⟨b, o, rfl⟩ : ∃ b o, A = some ⟨b, o, none⟩ := by
    obtain ⟨_, h | ⟨b, o, _, _, _, h, _⟩⟩ := hR
    · omega
    · exact ⟨b, o, h⟩
  refine Ct.of_body Tryz.func78 rfl (nt := 8) rfl (by kernel_rfl) rfl ?_
  intro N0 w0 R
  rw [one_star]
  refine Cx.seq (fun K1 k1 => ?_)
  refine Cx.region ?_
  refine Lx.y (asg rfl) rfl ?_
  refine Lx.nil ?_
  refine Xx.tn (k1 _ _ _ _ ?_)
  refine Cx.seq (fun K2 k2 => ?_)
  refine Cx.seq (fun K3 k3 => ?_)
  refine Cx.region ?_
  refine Lx.y (mv rfl) rfl ?_
  refine Lx.y (Yx.ff (eqNilV Tryz.underlying111 rfl rfl) rfl) rfl ?_
  refine Lx.nil ?_
  refine Xx.tn (k3 _ _ _ _ ?_)
  refine Cx.condF rfl ?_
  refine Cx.skip ?_
  refine Xx.tn (k2 _ _ _ _ ?_)
  refine Cx.seq (fun K4 k4 => ?_)
  refine Cx.region ?_
  refine Lx.bsl (bsl1 Tryz.underlying111 ti110 rfl rfl rfl (by decide)) rfl (fun b0 => ?_)
  refine Xx.toS b0 1 0 0 rfl (Nat.le_refl _) rfl ?_
  refine Lx.y (mv rfl) rfl ?_
  refine Lx.o (appO (et := 110) (p := 1) (R := R) Tryz.underlying111 Tryz.underlying111 ti110 rfl rfl (hR.src _) h1 (by rw [one_star]) (by omega) (by omega)) rfl (fun v B' H' hΦ hB => ?_)
  obtain ⟨A3, c3, rfl, hA3, hl3, hc3, hBB, rfl⟩ := hΦ
  obtain rfl := hBB.symm
  clear hB
  rw [one_star, Nat.zero_add, List.nil_append] at *
  refine Lx.y (asg rfl) rfl ?_
  refine Lx.nil ?_
  refine Xx.tn (k4 _ _ _ _ ?_)
  refine Cx.ret ?_
  exact Xx.ret1 rfl rfl ⟨rfl, A3, c3, rfl, rfl, hc3⟩ (Frag.le_refl _) rfl
end BtB
end Go.Proofs.YtdidpocakipinaaGreatDoor

/-
  The tree: what lies there, what it has.
-/
namespace Go.Proofs.YtdidpocakipinaaGreatDoor
open Go.SL Go.RowKit
set_option linter.unusedVariables false
set_option linter.unusedSimpArgs false
set_option maxRecDepth 100000
open Ke1 Ke3 Ke4 Ke5 Ke6 Ke7 Ke8 Ke9 KeA KeB KeC KeD KeE KeF KeG KeI RgA BtB
namespace BtC


/-- A node, and where its parts lie. -/
inductive C where
  | mk (b : Nat) (Ak : Option Addr) (ck : Nat) (Av : Option Addr) (cv : Nat) (Ac : Option Addr) (cc : Nat) (ks vs : List (List UInt8)) (cs : List C)
instance : Inhabited C := ⟨.mk 0 none 0 none 0 none 0 [] [] []⟩
def C.b : C → Nat | .mk b _ _ _ _ _ _ _ _ _ => b
def C.Ak : C → Option Addr | .mk _ a _ _ _ _ _ _ _ _ => a
def C.ck : C → Nat | .mk _ _ c _ _ _ _ _ _ _ => c
def C.Av : C → Option Addr | .mk _ _ _ a _ _ _ _ _ _ => a
def C.cv : C → Nat | .mk _ _ _ _ c _ _ _ _ _ => c
def C.Ac : C → Option Addr | .mk _ _ _ _ _ a _ _ _ _ => a
def C.cc : C → Nat | .mk _ _ _ _ _ _ c _ _ _ => c
def C.ks : C → List (List UInt8) | .mk _ _ _ _ _ _ _ k _ _ => k
def C.vs : C → List (List UInt8) | .mk _ _ _ _ _ _ _ _ v _ => v
def C.cs : C → List C | .mk _ _ _ _ _ _ _ _ _ c => c
def pt (c : C) : Value := .pointer (some ⟨c.b, 0, none⟩)
def ncells (c : C) : List Value := [.slice c.Ak c.ks.length c.ck, .slice c.Av c.vs.length c.cv, .slice c.Ac c.cs.length c.cc]
abbrev nrow (c : C) : HP := row c.b 113 (ncells c)
abbrev kbuf (c : C) : HP := sbuf 9 1 c.Ak c.ks.length c.ck (c.ks.map str)
abbrev vbuf (c : C) : HP := sbuf 9 1 c.Av c.vs.length c.cv (c.vs.map str)
abbrev cbuf (c : C) : HP := sbuf 110 1 c.Ac c.cs.length c.cc (c.cs.map pt)
def trs (f : C → HP) : List C → HP
  | [] => 1
  | c :: cs => f c * trs f cs
/-- A tree of one's own. -/
def tr : Nat → C → HP
  | 0, _ => 1
  | d + 1, c => nrow c * (kbuf c * (vbuf c * (cbuf c * trs (tr d) c.cs)))
/-- A tree that is only read. -/
def TrB (B : Frag) : Nat → C → Prop
  | 0, _ => False
  | d + 1, c => (∃ fz, B c.b = some (.cells (ncells c).toArray 113 fz)) ∧ RoE B c.Ak c.ks.length (c.ks.map str) ∧ RoE B c.Av c.vs.length (c.vs.map str) ∧ RoE B c.Ac c.cs.length (c.cs.map pt) ∧ ∀ p ∈ c.cs, TrB B d p
theorem TrB.mono {B B' : Frag} (hB : B.le B') : ∀ {d : Nat} {c : C}, TrB B d c → TrB B' d c := by
  intro d
  induction d with
  | zero => intro c h; exact h.elim
  | succ d ih =>
    rintro c ⟨⟨fz, h1⟩, h2, h3, h4, h5⟩
    exact ⟨⟨fz, hB _ _ h1⟩, h2.mono hB, h3.mono hB, h4.mono hB, fun p hp => ih (h5 p hp)⟩
/-- at most so high -/
def Fit : Nat → C → Prop
  | 0, _ => False
  | d + 1, c => ∀ p ∈ c.cs, Fit d p
theorem ap_left {k a c B : Frag} (h : k.apart B) (e : k = Frag.un a c) : a.apart B := fun b o hb => h b o (by rw [e]; simp [Frag.un, hb])
theorem ap_right {k a c B : Frag} (h : k.apart B) (e : k = Frag.un a c) (hd : Frag.disj a c) : c.apart B := fun b o hb => h b o (by
  rw [e]
  rcases hd b with z | z
  · simp [Frag.un, z, hb]
  · rw [z] at hb; cases hb)
theorem un_le {k a c B : Frag} (e : k = Frag.un a c) (hd : Frag.disj a c) : (Frag.un B a).le (Frag.un B k) ∧ (Frag.un B c).le (Frag.un B k) := by
  subst e
  constructor
  · intro b o h
    simp only [Frag.un] at h ⊢
    cases hB : B b with
    | some u => rw [hB] at h; simpa using h
    | none => rw [hB] at h; simp at h; simp [h]
  · intro b o h
    simp only [Frag.un] at h ⊢
    cases hB : B b with
    | some u => rw [hB] at h; simpa using h
    | none =>
      rw [hB] at h
      rcases hd b with z | z
      · simp [z] at h ⊢; exact h
      · rw [z] at h; simp at h
theorem row_ro {B k : Frag} {b : Nat} {et : TypeId} {cs : List Value} (h : row b et cs k) (ha : k.apart B) : Frag.un B k b = some (.cells cs.toArray et (0, 0)) := by
  have e : k = Frag.one b (.cells cs.toArray et (0, 0)) := h
  subst e
  exact Frag.un_right ha (by simp [Frag.one])
theorem trs_ro {B : Frag} {d : Nat} (ih : ∀ (c : C) (k : Frag), tr d c k → k.apart B → Fit d c → TrB (Frag.un B k) d c) : ∀ (cs : List C) (k : Frag), trs (tr d) cs k → k.apart B → (∀ p ∈ cs, Fit d p) → ∀ p ∈ cs, TrB (Frag.un B k) d p := by
  intro cs
  induction cs with
  | nil => intro k _ _ _ p hp; cases hp
  | cons c cs ihs =>
    rintro k ⟨k1, k2, hd, e, h1, h2⟩ ha hf p hp
    have hl := un_le (B := B) e hd
    rcases List.mem_cons.1 hp with rfl | hp
    · exact (ih p k1 h1 (ap_left ha e) (hf p (by simp))).mono hl.1
    · exact (ihs k2 h2 (ap_right ha e hd) (fun q hq => hf q (by simp [hq])) p hp).mono hl.2
theorem roe_of {B : Frag} {A : Option Addr} {n : Nat} {xs : List Value} (h : RoS B 1 A n xs) : RoE B A n xs := RoS.roe h
/-- A tree lent. -/
theorem tr_ro {B : Frag} : ∀ (d : Nat) (c : C) (k : Frag), tr d c k → k.apart B → Fit d c → TrB (Frag.un B k) d c := by
  intro d
  induction d with
  | zero => intro c k _ _ h; exact h.elim
  | succ d ih =>
    rintro c k ⟨k1, m1, d1, e1, h1, k2, m2, d2, e2, h2, k3, m3, d3, e3, h3, k4, m4, d4, e4, h4, h5⟩ ha hf
    have a1 := ap_right ha e1 d1
    have a2 := ap_right a1 e2 d2
    have a3 := ap_right a2 e3 d3
    have l1 := un_le (B := B) e1 d1
    have l2 := un_le (B := B) e2 d2
    have l3 := un_le (B := B) e3 d3
    have l4 := un_le (B := B) e4 d4
    refine ⟨⟨(0, 0), l1.1 _ _ (row_ro h1 (ap_left ha e1))⟩, ?_, ?_, ?_, fun p hp => ?_⟩
    · exact (roe_of (sbuf_ro h2 (ap_left a1 e2)).1).mono (Frag.le_trans l2.1 l1.2)
    · exact (roe_of (sbuf_ro h3 (ap_left a2 e3)).1).mono (Frag.le_trans l3.1 (Frag.le_trans l2.2 l1.2))
    · exact (roe_of (sbuf_ro h4 (ap_left a3 e4)).1).mono (Frag.le_trans l4.1 (Frag.le_trans l3.2 (Frag.le_trans l2.2 l1.2)))
    · exact (trs_ro (fun c k h1 h2 h3 => ih c k h1 h2 h3) c.cs m4 h5 (ap_right a3 e4 d4) hf p hp).mono (Frag.le_trans l4.2 (Frag.le_trans l3.2 (Frag.le_trans l2.2 l1.2)))
/-! ### one of the kids -/
theorem trs_at (f : C → HP) : ∀ (cs : List C) (i : Nat) (h : i < cs.length), trs f cs = f cs[i] * (trs f (cs.take i) * trs f (cs.drop (i + 1))) := by
  intro cs
  induction cs with
  | nil => intro i h; simp at h
  | cons c cs ih =>
    intro i h
    cases i with
    | zero => show f c * trs f cs = f c * (1 * trs f cs); rw [one_star]
    | succ i =>
      have h' : i < cs.length := by simpa using h
      show f c * trs f cs = f cs[i] * ((f c * trs f (cs.take i)) * trs f (cs.drop (i + 1)))
      rw [ih i h']
      ac_rfl
theorem trs_app (f : C → HP) : ∀ (a b : List C), trs f (a ++ b) = trs f a * trs f b := by
  intro a
  induction a with
  | nil => intro b; show trs f b = 1 * trs f b; rw [one_star]
  | cons c a ih => intro b; show f c * trs f (a ++ b) = (f c * trs f a) * trs f b; rw [ih, star_assoc]
/-! ### what it has -/
def ioL (f : C → List (Str8 × Str8)) : List Str8 → List Str8 → List C → List (Str8 × Str8)
  | k :: ks, v :: vs, c :: cs => f c ++ (k, v) :: ioL f ks vs cs
  | k :: ks, v :: vs, [] => (k, v) :: ioL f ks vs []
  | _, _, c :: _ => f c
  | _, _, [] => []
def io : Nat → C → List (Str8 × Str8)
  | 0, _ => []
  | d + 1, c => ioL (io d) c.ks c.vs c.cs
/-- a tree's shape: no node has more than seven keys -/
def Ok1 : Nat → C → Prop
  | 0, _ => False
  | d + 1, c => c.vs.length = c.ks.length ∧ c.ks.length ≤ 7 ∧ (c.cs = [] ∨ c.cs.length = c.ks.length + 1) ∧ ∀ p ∈ c.cs, Ok1 d p
/-- the same, the root having at most N (a key that is put again may bring a full root one more) -/
def Ok (N : Nat) : Nat → C → Prop
  | 0, _ => False
  | d + 1, c => c.vs.length = c.ks.length ∧ c.ks.length ≤ N ∧ (c.cs = [] ∨ c.cs.length = c.ks.length + 1) ∧ ∀ p ∈ c.cs, Ok1 d p
theorem Ok.fit {N : Nat} : ∀ {d : Nat} {c : C}, Ok N d c → Fit d c := by
  have h1 : ∀ {d : Nat} {c : C}, Ok1 d c → Fit d c := by
    intro d
    induction d with
    | zero => intro c h; exact h
    | succ d ih => intro c h p hp; exact ih (h.2.2.2 p hp)
  intro d c h
  cases d with
  | zero => exact h
  | succ d => exact fun p hp => h1 (h.2.2.2 p hp)
theorem Ok.of1 : ∀ {d : Nat} {c : C}, Ok1 d c → Ok 7 d c := by
  intro d c h
  cases d with
  | zero => exact h
  | succ d => exact h
theorem Ok.le {N M : Nat} (hN : N ≤ M) : ∀ {d : Nat} {c : C}, Ok N d c → Ok M d c := by
  intro d c h
  cases d with
  | zero => exact h
  | succ d => exact ⟨h.1, Nat.le_trans h.2.1 hN, h.2.2⟩
/-- in order by key -/
def Ord (l : List (Str8 × Str8)) : Prop := l.Pairwise (fun a b => bless a.1 b.1 = true)
/-- one more, or another value -/
def insP (k v : Str8) : List (Str8 × Str8) → List (Str8 × Str8)
  | [] => [(k, v)]
  | p :: l => if bless p.1 k = true then p :: insP k v l else if p.1 = k then (k, v) :: l else (k, v) :: p :: l
theorem insP_lt {k v : Str8} {p : Str8 × Str8} {l : List (Str8 × Str8)} (h : bless p.1 k = true) : insP k v (p :: l) = p :: insP k v l := by
  conv => lhs; unfold insP
  rw [if_pos h]
theorem insP_below {k v : Str8} : ∀ {a l : List (Str8 × Str8)}, (∀ p ∈ a, bless p.1 k = true) → insP k v (a ++ l) = a ++ insP k v l := by
  intro a
  induction a with
  | nil => intro l _; rfl
  | cons p a ih =>
    intro l h
    show insP k v (p :: (a ++ l)) = p :: (a ++ insP k v l)
    rw [insP_lt (h p (by simp)), ih fun q hq => h q (by simp [hq])]
theorem insP_above {k v : Str8} {l : List (Str8 × Str8)} : ∀ {a : List (Str8 × Str8)}, (∀ p ∈ l, bless k p.1 = true) → insP k v (a ++ l) = insP k v a ++ l := by
  intro a
  induction a with
  | nil =>
    intro h
    cases l with
    | nil => rfl
    | cons p l =>
      have h1 := h p (by simp)
      show insP k v (p :: l) = (k, v) :: p :: l
      unfold insP
      rw [if_neg (by rw [bless_asymm h1]; decide), if_neg (fun e => by rw [e, bless_irrefl] at h1; cases h1)]
  | cons p a ih =>
    intro h
    show insP k v (p :: (a ++ l)) = _
    unfold insP
    by_cases h1 : bless p.1 k = true
    · rw [if_pos h1, if_pos h1, ih h]; rfl
    · rw [if_neg h1, if_neg h1]
      by_cases h2 : p.1 = k
      · rw [if_pos h2, if_pos h2]; rfl
      · rw [if_neg h2, if_neg h2]; rfl
theorem insP_at {k v w : Str8} {l : List (Str8 × Str8)} : insP k v ((k, w) :: l) = (k, v) :: l := by
  unfold insP
  rw [if_neg (by rw [bless_irrefl]; decide), if_pos rfl]
theorem insP_mem {k v : Str8} : ∀ {l : List (Str8 × Str8)} {p : Str8 × Str8}, p ∈ insP k v l → p = (k, v) ∨ p ∈ l := by
  intro l
  induction l with
  | nil => intro p h; simpa [insP] using h
  | cons q l ih =>
    intro p h
    unfold insP at h
    split at h
    · rcases List.mem_cons.1 h with rfl | h
      · exact .inr (by simp)
      · rcases ih h with z | z
        · exact .inl z
        · exact .inr (by simp [z])
    · split at h
      · rcases List.mem_cons.1 h with rfl | h
        · exact .inl rfl
        · exact .inr (by simp [h])
      · rcases List.mem_cons.1 h with rfl | h
        · exact .inl rfl
        · exact .inr h
theorem insP_ord {k v : Str8} : ∀ {l : List (Str8 × Str8)}, Ord l → Ord (insP k v l) := by
  intro l
  induction l with
  | nil => intro _; exact List.pairwise_singleton _ _
  | cons q l ih =>
    intro h
    obtain ⟨h1, h2⟩ := List.pairwise_cons.1 h
    unfold insP
    split
    · rename_i hb
      refine List.pairwise_cons.2 ⟨fun p hp => ?_, ih h2⟩
      rcases insP_mem hp with rfl | hp
      · exact hb
      · exact h1 p hp
    · rename_i hb
      split
      · rename_i he
        refine List.pairwise_cons.2 ⟨fun p hp => ?_, h2⟩
        have := h1 p hp
        rw [he] at this; exact this
      · rename_i he
        have hlt : bless k q.1 = true := by
          cases hc : bless k q.1 with
          | true => rfl
          | false => exact absurd (bless_total (by simpa using hb) hc) he
        refine List.pairwise_cons.2 ⟨fun p hp => ?_, h⟩
        rcases List.mem_cons.1 hp with rfl | hp
        · exact hlt
        · exact bless_trans hlt (h1 p hp)
end BtC
end Go.Proofs.YtdidpocakipinaaGreatDoor

/-
  A full node halved.
-/
namespace Go.Proofs.YtdidpocakipinaaGreatDoor
open Go.SL Go.RowKit
set_option linter.unusedVariables false
set_option linter.unusedSimpArgs false
set_option maxRecDepth 100000
open Ke1 Ke3 Ke4 Ke5 Ke6 Ke7 Ke8 Ke9 KeA KeB KeC KeD KeE KeF KeG KeI RgA BtB BtC
namespace BtD
theorem sz9 : (Tryz.prog.info? 9).map (·.size) = some 1 := by kernel_rfl
theorem sz23 : (Tryz.prog.info? 23).map (·.size) = some 1 := by kernel_rfl
theorem sz110 : (Tryz.prog.info? 110).map (·.size) = some 1 := by kernel_rfl
theorem sz111 : (Tryz.prog.info? 111).map (·.size) = some 1 := by kernel_rfl
theorem ti9 : TI Tryz.prog 9 [str []] 1 16 := TI.of (by kernel_rfl) rfl rfl
theorem ti110 : TI Tryz.prog 110 [.pointer none] 1 8 := TI.of (by kernel_rfl) rfl rfl
theorem ti113 : TI Tryz.prog 113 [.slice none 0 0, .slice none 0 0, .slice none 0 0] 3 72 := TI.of (by kernel_rfl) rfl rfl
theorem fo113_0 : FO Tryz.prog 113 0 0 1 false := FO.of Tryz.underlying113 rfl rfl (by kernel_rfl) Tryz.underlying23 rfl rfl
theorem fo113_1 : FO Tryz.prog 113 1 1 1 false := FO.of Tryz.underlying113 rfl rfl (by kernel_rfl) Tryz.underlying23 rfl rfl
theorem fo113_2 : FO Tryz.prog 113 2 2 1 false := FO.of Tryz.underlying113 rfl rfl (by kernel_rfl) Tryz.underlying111 rfl rfl
theorem pl113 : PL Tryz.prog 113 [(0, 1), (1, 1), (2, 1)] := PL.of Tryz.underlying113 (by kernel_rfl)

theorem strs_all (l : List Str8) : (l.map str).all (·.oneCell') = true := by
  rw [List.all_eq_true]; intro v hv; obtain ⟨x, _, rfl⟩ := List.mem_map.1 hv; rfl
theorem BSo_ct (ks : List Str8) (t : Str8) (A : Option Addr) (c n : Nat) (B : Frag) (hl : ks.length = n) (hs : Srt ks) (hn : n ≤ 4611686018427387904) : CtC Tryz.prog 65 [.slice A n c, str t] B (sbuf 9 1 A n c (ks.map str)) (.tuple #[i64 (lb ks t : Nat), .bool (decide (t ∈ ks))]) (sbuf 9 1 A n c (ks.map str)) := by
  subst hl
  exact CtC.lend (Go.SL.enters_of Tryz.func65 rfl (by kernel_rfl)) fun k hk ha => BS_ct ks t A c _ (roe_of (sbuf_ro hk ha).1) hs hn

theorem CloneSo_ct (b n c j : Nat) (xs : List Value) (B : Frag) (hj : j < n) (h1 : xs.all (·.oneCell') = true) (hbd : n * 16 ≤ 140737488355328) : Ct Tryz.prog 59 [.slice (some ⟨b, 0 + j * 1, none⟩) (n - j) (c - j)] B (sbuf 9 1 (some ⟨b, 0, none⟩) n c xs) (fun v B' H' => B' = B ∧ ∃ H0, (∃ A' c', v = .slice A' (n - j) c' ∧ H0 = sbuf 9 1 A' (n - j) c' (xs.drop (j * 1)) ∧ n - j ≤ c') ∧ H' = sbuf 9 1 (some ⟨b, 0, none⟩) n c xs * H0) := by
  have h := Ct.lend (p := sbuf 9 1 (some ⟨b, 0, none⟩) n c xs) (q := 1) (B := B) (args := [.slice (some ⟨b, 0 + j * 1, none⟩) (n - j) (c - j)]) (Φ := fun v H0 => ∃ A' c', v = .slice A' (n - j) c' ∧ H0 = sbuf 9 1 A' (n - j) c' (xs.drop (j * 1)) ∧ n - j ≤ c') (Go.SL.enters_of Tryz.func59 rfl (by kernel_rfl)) (fun k hk ha => CloneS_ct _ _ _ _ _ (by omega) (RoS.cut (c := c) (sbuf_ro hk ha).1 (by omega)) (by rw [List.all_eq_true] at h1 ⊢; exact fun v hv => h1 v (List.mem_of_mem_drop hv)) (by omega))
  rw [star_comm, one_star] at h
  exact h

theorem CloneNo_ct (b n c j : Nat) (xs : List Value) (B : Frag) (hj : j < n) (h1 : xs.all (·.oneCell') = true) (hbd : n * 16 ≤ 140737488355328) : Ct Tryz.prog 78 [.slice (some ⟨b, 0 + j * 1, none⟩) (n - j) (c - j)] B (sbuf 110 1 (some ⟨b, 0, none⟩) n c xs) (fun v B' H' => B' = B ∧ ∃ H0, (∃ A' c', v = .slice A' (n - j) c' ∧ H0 = sbuf 110 1 A' (n - j) c' (xs.drop (j * 1)) ∧ n - j ≤ c') ∧ H' = sbuf 110 1 (some ⟨b, 0, none⟩) n c xs * H0) := by
  have h := Ct.lend (p := sbuf 110 1 (some ⟨b, 0, none⟩) n c xs) (q := 1) (B := B) (args := [.slice (some ⟨b, 0 + j * 1, none⟩) (n - j) (c - j)]) (Φ := fun v H0 => ∃ A' c', v = .slice A' (n - j) c' ∧ H0 = sbuf 110 1 A' (n - j) c' (xs.drop (j * 1)) ∧ n - j ≤ c') (Go.SL.enters_of Tryz.func78 rfl (by kernel_rfl)) (fun k hk ha => CloneN_ct _ _ _ _ _ (by omega) (RoS.cut (c := c) (sbuf_ro hk ha).1 (by omega)) (by rw [List.all_eq_true] at h1 ⊢; exact fun v hv => h1 v (List.mem_of_mem_drop hv)) (by omega))
  rw [star_comm, one_star] at h
  exact h

set_option maxHeartbeats 4000000 in
theorem halve_raw (b n p q i b2 : Nat) (Ak Av Ac Ak2 Av2 Ac2 : Option Addr) (ck cv cc ck2 cv2 cc2 : Nat) (ks vs k7 v7 : List Str8) (ps qs : List Value) (kM vM : Str8) (B : Frag) (hn : n ≤ 100) (hp : p = n + 1) (hi : i < p) (hks : ks.length = n) (hvs : vs.length = n) (hpl : ps.length = p) (hk7 : k7.length = 7) (hv7 : v7.length = 7) (hq : q = 0 ∨ q = 8) (hql : qs.length = q) (hpi : (ps.drop (0 + i * 1)).take 1 = [.pointer (some ⟨b2, 0, none⟩)]) (hk3 : ((k7.map str).drop (0 + 3 * 1)).take 1 = [str kM]) (hv3 : ((v7.map str).drop (0 + 3 * 1)).take 1 = [str vM]) (hpa : ps.all (·.oneCell') = true) (hqa : qs.all (·.oneCell') = true) : Ct Tryz.prog 62 [.pointer (some ⟨b, 0, none⟩), i64 i] B (row b 113 [.slice Ak n ck, .slice Av n cv, .slice Ac p cc] * (sbuf 9 1 Ak n ck (ks.map str) * (sbuf 9 1 Av n cv (vs.map str) * (sbuf 110 1 Ac p cc ps * row b2 113 [.slice Ak2 7 ck2, .slice Av2 7 cv2, .slice Ac2 q cc2] * (sbuf 9 1 Ak2 7 ck2 (k7.map str) * (sbuf 9 1 Av2 7 cv2 (v7.map str) * sbuf 110 1 Ac2 q cc2 qs)))))) (fun v B' H' => v = .tuple #[] ∧ B' = B ∧ ∃ Ak' ck' Av' cv' Ac' cc' cc2' Ac2' b3 Ak3 ck3 Av3 cv3 Ac3 cc3, H' = row b 113 [.slice Ak' (n + 1) ck', .slice Av' (n + 1) cv', .slice Ac' (p + 1) cc'] * (sbuf 9 1 Ak' (n + 1) ck' ((ks.map str).take (i * 1) ++ [str kM] ++ (ks.map str).drop (i * 1)) * (sbuf 9 1 Av' (n + 1) cv' ((vs.map str).take (i * 1) ++ [str vM] ++ (vs.map str).drop (i * 1)) * (sbuf 110 1 Ac' (p + 1) cc' (ps.take ((i + 1) * 1) ++ [.pointer (some ⟨b3, 0, none⟩)] ++ ps.drop ((i + 1) * 1)) * (row b2 113 [.slice Ak2 3 ck2, .slice Av2 3 cv2, .slice Ac2' (min q 4) cc2'] * (sbuf 9 1 Ak2 3 ck2 ((k7.map str).take (3 * 1)) * (sbuf 9 1 Av2 3 cv2 ((v7.map str).take (3 * 1)) * (sbuf 110 1 Ac2' (min q 4) cc2' (qs.take (4 * 1)) * (row b3 113 [.slice Ak3 (7 - 4) ck3, .slice Av3 (7 - 4) cv3, .slice Ac3 (q - 4) cc3] * (sbuf 9 1 Ak3 (7 - 4) ck3 ((k7.map str).drop (4 * 1)) * (sbuf 9 1 Av3 (7 - 4) cv3 ((v7.map str).drop (4 * 1)) * sbuf 110 1 Ac3 (q - 4) cc3 (qs.drop (4 * 1))))))))))))) := by
  refine Ct.of_body Tryz.func62 rfl (nt := 129) rfl (by kernel_rfl) rfl ?_
  intro N0 w0 R
  simp only [star_assoc]
  refine Xx.addrT Ac (by omega) (fun bC hAc _ _ => ?_)
  subst hAc
  refine Xx.addrT Ak2 (by omega) (fun bK hAk _ hck2 => ?_)
  subst hAk
  refine Xx.addrT Av2 (by omega) (fun bV hAv _ hcv2 => ?_)
  subst hAv
  refine Cx.seq (fun K1 k1 => ?_)
  refine Cx.region ?_
  refine Lx.y (mv rfl) rfl ?_
  refine Lx.y (nilc rfl) rfl ?_
  refine Lx.y (fa' fo113_2 rfl) rfl ?_
  refine Lx.y (ld Tryz.underlying111 rfl rfl rfl) rfl ?_
  refine Lx.y (mv rfl) rfl ?_
  refine Lx.y (ia Tryz.underlying111 sz110 rfl rfl (by first | exact Int.toNat_natCast _ | rfl) (by omega) (by omega)) rfl ?_
  refine Lx.y (ldC Tryz.underlying110 rfl rfl (Cells.buf (m := 1) hpi (by omega))) rfl ?_
  refine Lx.y (asg rfl) rfl ?_
  refine Lx.nil ?_
  refine Xx.tn (k1 _ _ _ _ ?_)
  refine Cx.seq (fun K2 k2 => ?_)
  refine Cx.region ?_
  refine Lx.y (mv rfl) rfl ?_
  refine Lx.y (nilc rfl) rfl ?_
  refine Lx.y (fa' fo113_0 rfl) rfl ?_
  refine Lx.y (ld Tryz.underlying23 rfl rfl rfl) rfl ?_
  refine Lx.y (Yx.val (lenV (ty' := 0) Tryz.underlying23 rfl) (show _ = i64 ((7 : Nat) : Int) from rfl)) rfl ?_
  refine Lx.y (Yx.val (quoN rfl rfl (by decide) (by decide) (show IntKind.i64.wrap _ = _ from rfl)) (show _ = i64 ((3 : Nat) : Int) from rfl)) rfl ?_
  refine Lx.y (asg rfl) rfl ?_
  refine Lx.nil ?_
  refine Xx.tn (k2 _ _ _ _ ?_)
  refine Cx.seq (fun K3 k3 => ?_)
  refine Cx.drawn (by kernel_rfl) ?_
  refine Dx.p (i := 0) rfl (by kernel_rfl) (mv rfl) rfl ?_
  refine Dx.p (i := 1) rfl (by kernel_rfl) (nilc rfl) rfl ?_
  refine Dx.p (i := 2) rfl (by kernel_rfl) (fa' fo113_0 rfl) rfl ?_
  refine Dx.r (i := 3) rfl (by kernel_rfl) (ld Tryz.underlying23 rfl rfl rfl) rfl ?_
  refine Dx.p (i := 4) rfl (by kernel_rfl) (mv rfl) rfl ?_
  refine Dx.p (i := 5) rfl (by kernel_rfl) (Yx.val (add rfl rfl (show IntKind.i64.wrap _ = _ from rfl)) (show _ = i64 ((4 : Nat) : Int) from rfl)) rfl ?_
  refine Dx.p (i := 6) rfl (by kernel_rfl) (sl1A 4 Tryz.underlying23 sz9 rfl rfl rfl (by omega) (by omega)) rfl ?_
  refine Dx.p (i := 8) rfl (by kernel_rfl) (mv rfl) rfl ?_
  refine Dx.p (i := 9) rfl (by kernel_rfl) (nilc rfl) rfl ?_
  refine Dx.p (i := 10) rfl (by kernel_rfl) (fa' fo113_1 rfl) rfl ?_
  refine Dx.r (i := 11) rfl (by kernel_rfl) (ld Tryz.underlying23 rfl rfl rfl) rfl ?_
  refine Dx.p (i := 12) rfl (by kernel_rfl) (mv rfl) rfl ?_
  refine Dx.p (i := 13) rfl (by kernel_rfl) (Yx.val (add rfl rfl (show IntKind.i64.wrap _ = _ from rfl)) (show _ = i64 ((4 : Nat) : Int) from rfl)) rfl ?_
  refine Dx.p (i := 14) rfl (by kernel_rfl) (sl1A 4 Tryz.underlying23 sz9 rfl rfl rfl (by omega) (by omega)) rfl ?_
  refine Dx.one (i := 7) (by kernel_rfl) ?_
  refine Dstep.o (i := 7) rfl (Ox.call rfl rfl rfl (CloneSo_ct bK 7 ck2 4 _ _ (by omega) (strs_all _) (by omega)) (pickS _)) rfl (fun v B' H' hΦ hB => ?_)
  obtain ⟨_, rfl, hΦ⟩ := hΦ
  obtain ⟨hBB, H0, ⟨Ak3, ck3, rfl, rfl, hck3⟩, rfl⟩ := hΦ
  subst hBB
  rename Frag => B
  clear hB
  rw [star_assoc]
  refine ⟨JOk.yes (JOk.yes (JOk.top) (ld Tryz.underlying23 rfl rfl rfl)) (ld Tryz.underlying23 rfl rfl rfl), ?_⟩
  refine Dx.one (i := 15) (by kernel_rfl) ?_
  refine Dstep.o (i := 15) rfl (Ox.call rfl rfl rfl (CloneSo_ct bV 7 cv2 4 _ _ (by omega) (strs_all _) (by omega)) (pickS _)) rfl (fun v B' H' hΦ hB => ?_)
  obtain ⟨_, rfl, hΦ⟩ := hΦ
  obtain ⟨hBB, H0, ⟨Av3, cv3, rfl, rfl, hcv3⟩, rfl⟩ := hΦ
  subst hBB
  rename Frag => B
  clear hB
  rw [star_assoc]
  refine ⟨JOk.yes (JOk.yes (JOk.top) (ld Tryz.underlying23 rfl rfl rfl)) (ld Tryz.underlying23 rfl rfl rfl), ?_⟩
  refine Dx.p (i := 16) rfl (by kernel_rfl) (bld ti113 pl113 rfl rfl) rfl ?_
  refine Dx.one (i := 17) (by kernel_rfl) ?_
  refine Dstep.o (i := 17) rfl (boxA rfl) rfl (fun v B' H' hΦ hB => ?_)
  obtain ⟨b3, rfl, rfl, rfl⟩ := hΦ; clear hB
  refine ⟨JOk.yes (JOk.yes (JOk.top) (ld Tryz.underlying23 rfl rfl rfl)) (ld Tryz.underlying23 rfl rfl rfl), ?_⟩
  refine Dx.p (i := 18) rfl (by kernel_rfl) (asg rfl) rfl ?_
  refine Dx.done (by kernel_rfl) ?_
  refine Xx.tn (k3 _ _ _ _ ?_)
  rename Frag => B
  refine Cx.cutK (ds' := []) (Sub.cons (s := 0) rfl (Sub.cons (s := 1) rfl (Sub.cons (s := 4) rfl (Sub.cons (s := 5) rfl (Sub.cons (s := 6) rfl (Sub.cons (s := 7) rfl (Sub.cons (s := 8) rfl (Sub.cons (s := 9) rfl (Sub.cons (s := 10) rfl (Sub.cons (s := 11) rfl (Sub.cons (s := 12) rfl (Sub.cons (s := 13) rfl (Sub.cons (s := 14) rfl (Sub.cons (s := 15) rfl (Sub.cons (s := 16) rfl (Sub.cons (s := 17) rfl (Sub.cons (s := 18) rfl (Sub.cons (s := 19) rfl (Sub.cons (s := 20) rfl (Sub.cons (s := 21) rfl (Sub.cons (s := 22) rfl (Sub.cons (s := 23) rfl (Sub.cons (s := 24) rfl (Sub.cons (s := 25) rfl (Sub.cons (s := 26) rfl (Sub.cons (s := 27) rfl (Sub.cons (s := 28) rfl (Sub.cons (s := 29) rfl (Sub.cons (s := 30) rfl (Sub.cons (s := 31) rfl (Sub.cons (s := 32) rfl (Sub.cons (s := 33) rfl (Sub.cons (s := 34) rfl (Sub.cons (s := 35) rfl (Sub.cons (s := 36) rfl (Sub.cons (s := 37) rfl (Sub.nil _))))))))))))))))))))))))))))))))))))) (fun ρ' B' H' => ∃ Ac2' cc2' Ac3 cc3, ρ' = [] ∧ B = B' ∧ row b 113 [.slice Ak n ck, .slice Av n cv, .slice (some ⟨bC, 0, none⟩) p cc] * (sbuf 9 1 Ak n ck (ks.map str) * (sbuf 9 1 Av n cv (vs.map str) * (row b2 113 [.slice (some ⟨bK, 0, none⟩) 7 ck2, .slice (some ⟨bV, 0, none⟩) 7 cv2, .slice Ac2' (min q 4) cc2'] * (row b3 113 [.slice Ak3 (7 - 4) ck3, .slice Av3 (7 - 4) cv3, .slice Ac3 (q - 4) cc3] * (sbuf 110 1 Ac2' (min q 4) cc2' (qs.take (4 * 1)) * (sbuf 110 1 Ac3 (q - 4) cc3 (qs.drop (4 * 1)) * (sbuf 9 1 (some ⟨bV, 0, none⟩) 7 cv2 (v7.map str) * (sbuf 9 1 Av3 (7 - 4) cv3 ((v7.map str).drop (4 * 1)) * (sbuf 9 1 (some ⟨bK, 0, none⟩) 7 ck2 (k7.map str) * (sbuf 9 1 Ak3 (7 - 4) ck3 ((k7.map str).drop (4 * 1)) * (sbuf 110 1 (some ⟨bC, 0, none⟩) p cc ps * R))))))))))) = H') ?_ ?_
  · skip
    refine Cx.seq (fun K4 k4 => ?_)
    refine Cx.region ?_
    refine Lx.y (mv rfl) rfl ?_
    refine Lx.y (nilc rfl) rfl ?_
    refine Lx.y (fa' fo113_2 rfl) rfl ?_
    refine Lx.y (ld Tryz.underlying111 rfl rfl rfl) rfl ?_
    refine Lx.y (lenV (ty' := 0) Tryz.underlying111 rfl) rfl ?_
    refine Lx.y (gtr rfl rfl) rfl ?_
    refine Lx.nil ?_
    refine Xx.tn (k4 _ _ _ _ ?_)
    refine Cx.condD rfl (fun h5 => ?_) (fun h5 => ?_)
    · skip
      have hq8 : q = 8 := by have := h5; omega
      refine Cx.seq (fun K6 k6 => ?_)
      refine Xx.addrT Ac2 (by omega) (fun bQ hAq _ hcq => ?_)
      subst hAq
      refine Cx.region ?_
      refine Lx.y (mv rfl) rfl ?_
      refine Lx.y (mv rfl) rfl ?_
      refine Lx.y (nilc rfl) rfl ?_
      refine Lx.y (fa' fo113_2 rfl) rfl ?_
      refine Lx.y (ld Tryz.underlying111 rfl rfl rfl) rfl ?_
      refine Lx.y (mv rfl) rfl ?_
      refine Lx.y (Yx.val (add rfl rfl (show IntKind.i64.wrap _ = _ from rfl)) (show _ = i64 ((4 : Nat) : Int) from rfl)) rfl ?_
      refine Lx.y (sl1A 4 Tryz.underlying111 sz110 rfl rfl rfl (by omega) (by omega)) rfl ?_
      refine Lx.c rfl rfl rfl (CloneNo_ct bQ q cc2 4 _ _ (by omega) hqa (by omega)) (pickS _) rfl ?_
      rintro v B1 H1 ⟨hBB, H0, ⟨Ac3, cc3, rfl, rfl, hcc3⟩, rfl⟩ hB1
      subst hBB
      rename Frag => B
      clear hB1
      rw [star_assoc]
      refine Lx.y (nilc rfl) rfl ?_
      refine Lx.y (fa' fo113_2 rfl) rfl ?_
      refine Lx.st (stO Tryz.underlying111 sz111 rfl rfl rfl (by simp) rfl) ?_
      refine Lx.nil ?_
      refine Xx.tn (k6 _ _ _ _ ?_)
      refine Cx.region ?_
      refine Lx.y (mv rfl) rfl ?_
      refine Lx.y (mv rfl) rfl ?_
      refine Lx.y (nilc rfl) rfl ?_
      refine Lx.y (fa' fo113_2 rfl) rfl ?_
      refine Lx.y (ld Tryz.underlying111 rfl rfl rfl) rfl ?_
      refine Lx.y (mv rfl) rfl ?_
      refine Lx.y (Yx.val (add rfl rfl (show IntKind.i64.wrap _ = _ from rfl)) (show _ = i64 ((4 : Nat) : Int) from rfl)) rfl ?_
      refine Lx.y (sl2V Tryz.underlying111 sz110 rfl rfl (by first | exact Int.toNat_natCast _ | rfl) (by omega) (by omega)) rfl ?_
      refine Lx.y (nilc rfl) rfl ?_
      refine Lx.y (fa' fo113_2 rfl) rfl ?_
      refine Lx.st (stO Tryz.underlying111 sz111 rfl rfl rfl (by simp) rfl) ?_
      refine Lx.nil ?_
      refine Xx.lessT bQ 4 (by omega) ?_
      exact Xx.mkK (⟨some ⟨bQ, 0, none⟩, cc2, Ac3, cc3, rfl, rfl, by rw [show min q 4 = 4 by omega]; ac_rfl⟩) (Sub.cons (s := 0) rfl (Sub.cons (s := 1) rfl (Sub.cons (s := 4) rfl (Sub.cons (s := 5) rfl (Sub.cons (s := 6) rfl (Sub.cons (s := 7) rfl (Sub.cons (s := 8) rfl (Sub.cons (s := 9) rfl (Sub.cons (s := 10) rfl (Sub.cons (s := 11) rfl (Sub.cons (s := 12) rfl (Sub.cons (s := 13) rfl (Sub.cons (s := 14) rfl (Sub.cons (s := 15) rfl (Sub.cons (s := 16) rfl (Sub.cons (s := 17) rfl (Sub.cons (s := 18) rfl (Sub.cons (s := 19) rfl (Sub.cons (s := 20) rfl (Sub.cons (s := 21) rfl (Sub.cons (s := 22) rfl (Sub.cons (s := 23) rfl (Sub.cons (s := 24) rfl (Sub.cons (s := 25) rfl (Sub.cons (s := 26) rfl (Sub.cons (s := 27) rfl (Sub.cons (s := 28) rfl (Sub.cons (s := 29) rfl (Sub.cons (s := 30) rfl (Sub.cons (s := 31) rfl (Sub.cons (s := 32) rfl (Sub.cons (s := 33) rfl (Sub.cons (s := 34) rfl (Sub.cons (s := 35) rfl (Sub.cons (s := 36) rfl (Sub.cons (s := 37) rfl (Sub.nil _)))))))))))))))))))))))))))))))))))))
    · skip
      have hq0 : q = 0 := by have := h5; omega
      refine Cx.skip ?_
      exact Xx.mkK (⟨Ac2, cc2, none, 0, rfl, rfl, by subst hq0; obtain rfl := List.length_eq_zero_iff.1 hql; simp only [Nat.zero_sub, Nat.zero_min, List.take_nil, List.drop_nil, sbuf_nil, one_star]; ac_rfl⟩) (Sub.cons (s := 0) rfl (Sub.cons (s := 1) rfl (Sub.cons (s := 4) rfl (Sub.cons (s := 5) rfl (Sub.cons (s := 6) rfl (Sub.cons (s := 7) rfl (Sub.cons (s := 8) rfl (Sub.cons (s := 9) rfl (Sub.cons (s := 10) rfl (Sub.cons (s := 11) rfl (Sub.cons (s := 12) rfl (Sub.cons (s := 13) rfl (Sub.cons (s := 14) rfl (Sub.cons (s := 15) rfl (Sub.cons (s := 16) rfl (Sub.cons (s := 17) rfl (Sub.cons (s := 18) rfl (Sub.cons (s := 19) rfl (Sub.cons (s := 20) rfl (Sub.cons (s := 21) rfl (Sub.cons (s := 22) rfl (Sub.cons (s := 23) rfl (Sub.cons (s := 24) rfl (Sub.cons (s := 25) rfl (Sub.cons (s := 26) rfl (Sub.cons (s := 27) rfl (Sub.cons (s := 28) rfl (Sub.cons (s := 29) rfl (Sub.cons (s := 30) rfl (Sub.cons (s := 31) rfl (Sub.cons (s := 32) rfl (Sub.cons (s := 33) rfl (Sub.cons (s := 34) rfl (Sub.cons (s := 35) rfl (Sub.cons (s := 36) rfl (Sub.cons (s := 37) rfl (Sub.nil _)))))))))))))))))))))))))))))))))))))
  · rintro ρ' B' H' ⟨Ac2', cc2', Ac3, cc3, rfl, rfl, rfl⟩
    rename Frag => B
    refine Cx.cutK (ds' := []) (Sub.cons (s := 0) rfl (Sub.cons (s := 1) rfl (Sub.cons (s := 4) rfl (Sub.cons (s := 5) rfl (Sub.cons (s := 6) rfl (Sub.cons (s := 7) rfl (Sub.cons (s := 8) rfl (Sub.cons (s := 9) rfl (Sub.cons (s := 10) rfl (Sub.cons (s := 11) rfl (Sub.cons (s := 12) rfl (Sub.cons (s := 13) rfl (Sub.cons (s := 14) rfl (Sub.cons (s := 15) rfl (Sub.cons (s := 16) rfl (Sub.cons (s := 17) rfl (Sub.cons (s := 18) rfl (Sub.cons (s := 19) rfl (Sub.cons (s := 20) rfl (Sub.cons (s := 21) rfl (Sub.cons (s := 22) rfl (Sub.cons (s := 23) rfl (Sub.cons (s := 24) rfl (Sub.cons (s := 25) rfl (Sub.cons (s := 26) rfl (Sub.cons (s := 27) rfl (Sub.cons (s := 28) rfl (Sub.cons (s := 29) rfl (Sub.cons (s := 30) rfl (Sub.cons (s := 31) rfl (Sub.cons (s := 32) rfl (Sub.cons (s := 33) rfl (Sub.cons (s := 34) rfl (Sub.cons (s := 35) rfl (Sub.cons (s := 36) rfl (Sub.cons (s := 37) rfl (Sub.nil _))))))))))))))))))))))))))))))))))))) (fun ρ' B' H' => ∃ Ak9 ck9 Av9 cv9, ρ' = [] ∧ B = B' ∧ row b 113 [.slice Ak9 (n + 1) ck9, .slice Av9 (n + 1) cv9, .slice (some ⟨bC, 0, none⟩) p cc] * (sbuf 9 1 Ak9 (n + 1) ck9 ((ks.map str).take (i * 1) ++ [str kM] ++ (ks.map str).drop (i * 1)) * (sbuf 9 1 Av9 (n + 1) cv9 ((vs.map str).take (i * 1) ++ [str vM] ++ (vs.map str).drop (i * 1)) * (row b2 113 [.slice (some ⟨bK, 0, none⟩) 7 ck2, .slice (some ⟨bV, 0, none⟩) 7 cv2, .slice Ac2' (min q 4) cc2'] * (row b3 113 [.slice Ak3 (7 - 4) ck3, .slice Av3 (7 - 4) cv3, .slice Ac3 (q - 4) cc3] * (sbuf 110 1 Ac2' (min q 4) cc2' (qs.take (4 * 1)) * (sbuf 110 1 Ac3 (q - 4) cc3 (qs.drop (4 * 1)) * (sbuf 9 1 (some ⟨bV, 0, none⟩) 7 cv2 (v7.map str) * (sbuf 9 1 Av3 (7 - 4) cv3 ((v7.map str).drop (4 * 1)) * (sbuf 9 1 (some ⟨bK, 0, none⟩) 7 ck2 (k7.map str) * (sbuf 9 1 Ak3 (7 - 4) ck3 ((k7.map str).drop (4 * 1)) * (sbuf 110 1 (some ⟨bC, 0, none⟩) p cc ps * R))))))))))) = H') ?_ ?_
    · skip
      refine Cx.drawn (by kernel_rfl) ?_
      refine Dx.p (i := 0) rfl (by kernel_rfl) (mv rfl) rfl ?_
      refine Dx.p (i := 1) rfl (by kernel_rfl) (mv rfl) rfl ?_
      refine Dx.p (i := 2) rfl (by kernel_rfl) (mv rfl) rfl ?_
      refine Dx.p (i := 3) rfl (by kernel_rfl) (nilc rfl) rfl ?_
      refine Dx.p (i := 4) rfl (by kernel_rfl) (fa' fo113_0 rfl) rfl ?_
      refine Dx.r (i := 5) rfl (by kernel_rfl) (ld Tryz.underlying23 rfl rfl rfl) rfl ?_
      refine Dx.p (i := 6) rfl (by kernel_rfl) (mv rfl) rfl ?_
      refine Dx.p (i := 7) rfl (by kernel_rfl) (mv rfl) rfl ?_
      refine Dx.p (i := 8) rfl (by kernel_rfl) (nilc rfl) rfl ?_
      refine Dx.p (i := 9) rfl (by kernel_rfl) (fa' fo113_0 rfl) rfl ?_
      refine Dx.r (i := 10) rfl (by kernel_rfl) (ld Tryz.underlying23 rfl rfl rfl) rfl ?_
      refine Dx.p (i := 11) rfl (by kernel_rfl) (mv rfl) rfl ?_
      refine Dx.p (i := 12) rfl (by kernel_rfl) (ia Tryz.underlying23 sz9 rfl rfl (by first | exact Int.toNat_natCast _ | rfl) (by omega) (by omega)) rfl ?_
      refine Dx.r (i := 13) rfl (by kernel_rfl) (ldC Tryz.underlying9 rfl rfl (Cells.buf (m := 1) hk3 (by rw [List.length_map]; omega))) rfl ?_
      refine Dx.p (i := 16) rfl (by kernel_rfl) (mv rfl) rfl ?_
      refine Dx.p (i := 17) rfl (by kernel_rfl) (nilc rfl) rfl ?_
      refine Dx.p (i := 18) rfl (by kernel_rfl) (fa' fo113_1 rfl) rfl ?_
      refine Dx.r (i := 19) rfl (by kernel_rfl) (ld Tryz.underlying23 rfl rfl rfl) rfl ?_
      refine Dx.p (i := 20) rfl (by kernel_rfl) (mv rfl) rfl ?_
      refine Dx.p (i := 21) rfl (by kernel_rfl) (mv rfl) rfl ?_
      refine Dx.p (i := 22) rfl (by kernel_rfl) (nilc rfl) rfl ?_
      refine Dx.p (i := 23) rfl (by kernel_rfl) (fa' fo113_1 rfl) rfl ?_
      refine Dx.r (i := 24) rfl (by kernel_rfl) (ld Tryz.underlying23 rfl rfl rfl) rfl ?_
      refine Dx.p (i := 25) rfl (by kernel_rfl) (mv rfl) rfl ?_
      refine Dx.p (i := 26) rfl (by kernel_rfl) (ia Tryz.underlying23 sz9 rfl rfl (by first | exact Int.toNat_natCast _ | rfl) (by omega) (by omega)) rfl ?_
      refine Dx.r (i := 27) rfl (by kernel_rfl) (ldC Tryz.underlying9 rfl rfl (Cells.buf (m := 1) hv3 (by rw [List.length_map]; omega))) rfl ?_
      refine Dx.two (i := 14) (j := 28) (by kernel_rfl) ?_ ?_
      · skip
        refine Dstep.o (i := 14) rfl (bsl1 Tryz.underlying23 ti9 rfl rfl rfl (by decide)) rfl (fun v B' H' hΦ hB => ?_)
        obtain ⟨b614, rfl, rfl, rfl⟩ := hΦ; clear hB
        refine ⟨JOk.yes (JOk.yes (JOk.yes (JOk.edge (JOk.yes (JOk.yes (JOk.top) (ld Tryz.underlying23 rfl rfl rfl)) (ld Tryz.underlying23 rfl rfl rfl)) (by kernel_rfl)) (ld Tryz.underlying23 rfl rfl rfl)) (ld Tryz.underlying23 rfl rfl rfl)) (ldC Tryz.underlying9 rfl rfl (Cells.buf (m := 1) hv3 (by rw [List.length_map]; omega))), ?_⟩
        refine Dx.two (i := 15) (j := 28) (by kernel_rfl) ?_ ?_
        · skip
          refine Dstep.o (i := 15) rfl (Ox.call rfl rfl rfl (InsS_ct Ak i n ck (ks.map str) b614 9 [str kM] _ (by omega) (by rw [List.length_map]; omega) (strs_all _) rfl rfl (by omega)) (pickSB _ _)) rfl (fun v B' H' hΦ hB => ?_)
          obtain ⟨_, rfl, hΦ⟩ := hΦ
          obtain ⟨Ak9, ck9, rfl, hBB, rfl, ⟨_, hAck9⟩, hck9⟩ := hΦ
          subst hBB
          rename Frag => B
          clear hB
          refine ⟨JOk.yes (JOk.yes (JOk.yes (JOk.yes (JOk.yes (JOk.edge (JOk.top) (by kernel_rfl)) (ld Tryz.underlying23 rfl rfl rfl)) (ldC Tryz.underlying9 rfl rfl (Cells.buf (m := 1) hk3 (by rw [List.length_map]; omega)))) (ld Tryz.underlying23 rfl rfl rfl)) (ld Tryz.underlying23 rfl rfl rfl)) (ldC Tryz.underlying9 rfl rfl (Cells.buf (m := 1) hv3 (by rw [List.length_map]; omega))), ?_⟩
          refine Dx.one (i := 28) (by kernel_rfl) ?_
          refine Dstep.o (i := 28) rfl (bsl1 Tryz.underlying23 ti9 rfl rfl rfl (by decide)) rfl (fun v B' H' hΦ hB => ?_)
          obtain ⟨b628, rfl, rfl, rfl⟩ := hΦ; clear hB
          refine ⟨JOk.edge (JOk.yes (JOk.yes (JOk.yes (JOk.yes (JOk.yes (JOk.top) (ld Tryz.underlying23 rfl rfl rfl)) (ld Tryz.underlying23 rfl rfl rfl)) (ldC Tryz.underlying9 rfl rfl (Cells.buf (m := 1) hk3 (by rw [List.length_map]; omega)))) (ld Tryz.underlying23 rfl rfl rfl)) (ld Tryz.underlying23 rfl rfl rfl)) (by kernel_rfl), ?_⟩
          refine Dx.one (i := 29) (by kernel_rfl) ?_
          refine Dstep.o (i := 29) rfl (Ox.call rfl rfl rfl (InsS_ct Av i n cv (vs.map str) b628 9 [str vM] _ (by omega) (by rw [List.length_map]; omega) (strs_all _) rfl rfl (by omega)) (pickSB _ _)) rfl (fun v B' H' hΦ hB => ?_)
          obtain ⟨_, rfl, hΦ⟩ := hΦ
          obtain ⟨Av9, cv9, rfl, hBB, rfl, ⟨_, hAcv9⟩, hcv9⟩ := hΦ
          subst hBB
          rename Frag => B
          clear hB
          refine ⟨JOk.yes (JOk.yes (JOk.edge (JOk.yes (JOk.yes (JOk.yes (JOk.top) (ld Tryz.underlying23 rfl rfl rfl)) (ld Tryz.underlying23 rfl rfl rfl)) (ldC Tryz.underlying9 rfl rfl (Cells.buf (m := 1) hk3 (by rw [List.length_map]; omega)))) (by kernel_rfl)) (ld Tryz.underlying23 rfl rfl rfl)) (ldC Tryz.underlying9 rfl rfl (Cells.buf (m := 1) hv3 (by rw [List.length_map]; omega))), ?_⟩
          refine Dx.p (i := 30) rfl (by kernel_rfl) (nilc rfl) rfl ?_
          refine Dx.p (i := 31) rfl (by kernel_rfl) (fa' fo113_0 rfl) rfl ?_
          refine Dx.one (i := 32) (by kernel_rfl) ?_
          refine Dstep.o0 (i := 32) rfl (stO Tryz.underlying23 sz23 rfl rfl rfl (by simp) rfl) (fun v B' H' hΦ hB => ?_)
          obtain ⟨rfl, rfl⟩ := hΦ; clear hB v
          refine ⟨JOk.edge (JOk.edge (JOk.edge (JOk.edge (JOk.edge (JOk.edge (JOk.top) (by kernel_rfl)) (by kernel_rfl)) (by kernel_rfl)) (by kernel_rfl)) (by kernel_rfl)) (by kernel_rfl), ?_⟩
          refine Dx.p (i := 33) rfl (by kernel_rfl) (nilc rfl) rfl ?_
          refine Dx.p (i := 34) rfl (by kernel_rfl) (fa' fo113_1 rfl) rfl ?_
          refine Dx.one (i := 35) (by kernel_rfl) ?_
          refine Dstep.o0 (i := 35) rfl (stO Tryz.underlying23 sz23 rfl rfl rfl (by simp) rfl) (fun v B' H' hΦ hB => ?_)
          obtain ⟨rfl, rfl⟩ := hΦ; clear hB v
          refine ⟨JOk.edge (JOk.edge (JOk.edge (JOk.edge (JOk.edge (JOk.edge (JOk.top) (by kernel_rfl)) (by kernel_rfl)) (by kernel_rfl)) (by kernel_rfl)) (by kernel_rfl)) (by kernel_rfl), ?_⟩
          refine Dx.done (by kernel_rfl) ?_
          exact Xx.mkK (⟨Ak9, ck9, Av9, cv9, rfl, rfl, by ac_rfl⟩) (Sub.cons (s := 0) rfl (Sub.cons (s := 1) rfl (Sub.cons (s := 4) rfl (Sub.cons (s := 5) rfl (Sub.cons (s := 6) rfl (Sub.cons (s := 7) rfl (Sub.cons (s := 8) rfl (Sub.cons (s := 9) rfl (Sub.cons (s := 10) rfl (Sub.cons (s := 11) rfl (Sub.cons (s := 12) rfl (Sub.cons (s := 13) rfl (Sub.cons (s := 14) rfl (Sub.cons (s := 15) rfl (Sub.cons (s := 16) rfl (Sub.cons (s := 17) rfl (Sub.cons (s := 18) rfl (Sub.cons (s := 19) rfl (Sub.cons (s := 20) rfl (Sub.cons (s := 21) rfl (Sub.cons (s := 22) rfl (Sub.cons (s := 23) rfl (Sub.cons (s := 24) rfl (Sub.cons (s := 25) rfl (Sub.cons (s := 26) rfl (Sub.cons (s := 27) rfl (Sub.cons (s := 28) rfl (Sub.cons (s := 29) rfl (Sub.cons (s := 30) rfl (Sub.cons (s := 31) rfl (Sub.cons (s := 32) rfl (Sub.cons (s := 33) rfl (Sub.cons (s := 34) rfl (Sub.cons (s := 35) rfl (Sub.cons (s := 36) rfl (Sub.cons (s := 37) rfl (Sub.nil _)))))))))))))))))))))))))))))))))))))
        refine Dstep.o (i := 28) rfl (bsl1 Tryz.underlying23 ti9 rfl rfl rfl (by decide)) rfl (fun v B' H' hΦ hB => ?_)
        obtain ⟨b628, rfl, rfl, rfl⟩ := hΦ; clear hB
        refine ⟨JOk.edge (JOk.yes (JOk.yes (JOk.yes (JOk.yes (JOk.yes (JOk.top) (ld Tryz.underlying23 rfl rfl rfl)) (ld Tryz.underlying23 rfl rfl rfl)) (ldC Tryz.underlying9 rfl rfl (Cells.buf (m := 1) hk3 (by rw [List.length_map]; omega)))) (ld Tryz.underlying23 rfl rfl rfl)) (ld Tryz.underlying23 rfl rfl rfl)) (by kernel_rfl), ?_⟩
        refine Dx.one (i := 15) (by kernel_rfl) ?_
        refine Dstep.o (i := 15) rfl (Ox.call rfl rfl rfl (InsS_ct Ak i n ck (ks.map str) b614 9 [str kM] _ (by omega) (by rw [List.length_map]; omega) (strs_all _) rfl rfl (by omega)) (pickSB _ _)) rfl (fun v B' H' hΦ hB => ?_)
        obtain ⟨_, rfl, hΦ⟩ := hΦ
        obtain ⟨Ak9, ck9, rfl, hBB, rfl, ⟨_, hAck9⟩, hck9⟩ := hΦ
        subst hBB
        rename Frag => B
        clear hB
        refine ⟨JOk.yes (JOk.yes (JOk.yes (JOk.yes (JOk.yes (JOk.edge (JOk.top) (by kernel_rfl)) (ld Tryz.underlying23 rfl rfl rfl)) (ldC Tryz.underlying9 rfl rfl (Cells.buf (m := 1) hk3 (by rw [List.length_map]; omega)))) (ld Tryz.underlying23 rfl rfl rfl)) (ld Tryz.underlying23 rfl rfl rfl)) (ldC Tryz.underlying9 rfl rfl (Cells.buf (m := 1) hv3 (by rw [List.length_map]; omega))), ?_⟩
        refine Dx.one (i := 29) (by kernel_rfl) ?_
        refine Dstep.o (i := 29) rfl (Ox.call rfl rfl rfl (InsS_ct Av i n cv (vs.map str) b628 9 [str vM] _ (by omega) (by rw [List.length_map]; omega) (strs_all _) rfl rfl (by omega)) (pickSB _ _)) rfl (fun v B' H' hΦ hB => ?_)
        obtain ⟨_, rfl, hΦ⟩ := hΦ
        obtain ⟨Av9, cv9, rfl, hBB, rfl, ⟨_, hAcv9⟩, hcv9⟩ := hΦ
        subst hBB
        rename Frag => B
        clear hB
        refine ⟨JOk.yes (JOk.yes (JOk.edge (JOk.yes (JOk.yes (JOk.yes (JOk.top) (ld Tryz.underlying23 rfl rfl rfl)) (ld Tryz.underlying23 rfl rfl rfl)) (ldC Tryz.underlying9 rfl rfl (Cells.buf (m := 1) hk3 (by rw [List.length_map]; omega)))) (by kernel_rfl)) (ld Tryz.underlying23 rfl rfl rfl)) (ldC Tryz.underlying9 rfl rfl (Cells.buf (m := 1) hv3 (by rw [List.length_map]; omega))), ?_⟩
        refine Dx.p (i := 30) rfl (by kernel_rfl) (nilc rfl) rfl ?_
        refine Dx.p (i := 31) rfl (by kernel_rfl) (fa' fo113_0 rfl) rfl ?_
        refine Dx.one (i := 32) (by kernel_rfl) ?_
        refine Dstep.o0 (i := 32) rfl (stO Tryz.underlying23 sz23 rfl rfl rfl (by simp) rfl) (fun v B' H' hΦ hB => ?_)
        obtain ⟨rfl, rfl⟩ := hΦ; clear hB v
        refine ⟨JOk.edge (JOk.edge (JOk.edge (JOk.edge (JOk.edge (JOk.edge (JOk.top) (by kernel_rfl)) (by kernel_rfl)) (by kernel_rfl)) (by kernel_rfl)) (by kernel_rfl)) (by kernel_rfl), ?_⟩
        refine Dx.p (i := 33) rfl (by kernel_rfl) (nilc rfl) rfl ?_
        refine Dx.p (i := 34) rfl (by kernel_rfl) (fa' fo113_1 rfl) rfl ?_
        refine Dx.one (i := 35) (by kernel_rfl) ?_
        refine Dstep.o0 (i := 35) rfl (stO Tryz.underlying23 sz23 rfl rfl rfl (by simp) rfl) (fun v B' H' hΦ hB => ?_)
        obtain ⟨rfl, rfl⟩ := hΦ; clear hB v
        refine ⟨JOk.edge (JOk.edge (JOk.edge (JOk.edge (JOk.edge (JOk.edge (JOk.top) (by kernel_rfl)) (by kernel_rfl)) (by kernel_rfl)) (by kernel_rfl)) (by kernel_rfl)) (by kernel_rfl), ?_⟩
        refine Dx.done (by kernel_rfl) ?_
        exact Xx.mkK (⟨Ak9, ck9, Av9, cv9, rfl, rfl, by ac_rfl⟩) (Sub.cons (s := 0) rfl (Sub.cons (s := 1) rfl (Sub.cons (s := 4) rfl (Sub.cons (s := 5) rfl (Sub.cons (s := 6) rfl (Sub.cons (s := 7) rfl (Sub.cons (s := 8) rfl (Sub.cons (s := 9) rfl (Sub.cons (s := 10) rfl (Sub.cons (s := 11) rfl (Sub.cons (s := 12) rfl (Sub.cons (s := 13) rfl (Sub.cons (s := 14) rfl (Sub.cons (s := 15) rfl (Sub.cons (s := 16) rfl (Sub.cons (s := 17) rfl (Sub.cons (s := 18) rfl (Sub.cons (s := 19) rfl (Sub.cons (s := 20) rfl (Sub.cons (s := 21) rfl (Sub.cons (s := 22) rfl (Sub.cons (s := 23) rfl (Sub.cons (s := 24) rfl (Sub.cons (s := 25) rfl (Sub.cons (s := 26) rfl (Sub.cons (s := 27) rfl (Sub.cons (s := 28) rfl (Sub.cons (s := 29) rfl (Sub.cons (s := 30) rfl (Sub.cons (s := 31) rfl (Sub.cons (s := 32) rfl (Sub.cons (s := 33) rfl (Sub.cons (s := 34) rfl (Sub.cons (s := 35) rfl (Sub.cons (s := 36) rfl (Sub.cons (s := 37) rfl (Sub.nil _)))))))))))))))))))))))))))))))))))))
      refine Dstep.o (i := 28) rfl (bsl1 Tryz.underlying23 ti9 rfl rfl rfl (by decide)) rfl (fun v B' H' hΦ hB => ?_)
      obtain ⟨b628, rfl, rfl, rfl⟩ := hΦ; clear hB
      refine ⟨JOk.edge (JOk.yes (JOk.yes (JOk.yes (JOk.yes (JOk.yes (JOk.top) (ld Tryz.underlying23 rfl rfl rfl)) (ld Tryz.underlying23 rfl rfl rfl)) (ldC Tryz.underlying9 rfl rfl (Cells.buf (m := 1) hk3 (by rw [List.length_map]; omega)))) (ld Tryz.underlying23 rfl rfl rfl)) (ld Tryz.underlying23 rfl rfl rfl)) (by kernel_rfl), ?_⟩
      refine Dx.one (i := 14) (by kernel_rfl) ?_
      refine Dstep.o (i := 14) rfl (bsl1 Tryz.underlying23 ti9 rfl rfl rfl (by decide)) rfl (fun v B' H' hΦ hB => ?_)
      obtain ⟨b614, rfl, rfl, rfl⟩ := hΦ; clear hB
      refine ⟨JOk.yes (JOk.yes (JOk.yes (JOk.edge (JOk.yes (JOk.yes (JOk.top) (ld Tryz.underlying23 rfl rfl rfl)) (ld Tryz.underlying23 rfl rfl rfl)) (by kernel_rfl)) (ld Tryz.underlying23 rfl rfl rfl)) (ld Tryz.underlying23 rfl rfl rfl)) (ldC Tryz.underlying9 rfl rfl (Cells.buf (m := 1) hv3 (by rw [List.length_map]; omega))), ?_⟩
      refine Dx.one (i := 15) (by kernel_rfl) ?_
      refine Dstep.o (i := 15) rfl (Ox.call rfl rfl rfl (InsS_ct Ak i n ck (ks.map str) b614 9 [str kM] _ (by omega) (by rw [List.length_map]; omega) (strs_all _) rfl rfl (by omega)) (pickSB _ _)) rfl (fun v B' H' hΦ hB => ?_)
      obtain ⟨_, rfl, hΦ⟩ := hΦ
      obtain ⟨Ak9, ck9, rfl, hBB, rfl, ⟨_, hAck9⟩, hck9⟩ := hΦ
      subst hBB
      rename Frag => B
      clear hB
      refine ⟨JOk.yes (JOk.yes (JOk.yes (JOk.yes (JOk.yes (JOk.edge (JOk.top) (by kernel_rfl)) (ld Tryz.underlying23 rfl rfl rfl)) (ldC Tryz.underlying9 rfl rfl (Cells.buf (m := 1) hk3 (by rw [List.length_map]; omega)))) (ld Tryz.underlying23 rfl rfl rfl)) (ld Tryz.underlying23 rfl rfl rfl)) (ldC Tryz.underlying9 rfl rfl (Cells.buf (m := 1) hv3 (by rw [List.length_map]; omega))), ?_⟩
      refine Dx.one (i := 29) (by kernel_rfl) ?_
      refine Dstep.o (i := 29) rfl (Ox.call rfl rfl rfl (InsS_ct Av i n cv (vs.map str) b628 9 [str vM] _ (by omega) (by rw [List.length_map]; omega) (strs_all _) rfl rfl (by omega)) (pickSB _ _)) rfl (fun v B' H' hΦ hB => ?_)
      obtain ⟨_, rfl, hΦ⟩ := hΦ
      obtain ⟨Av9, cv9, rfl, hBB, rfl, ⟨_, hAcv9⟩, hcv9⟩ := hΦ
      subst hBB
      rename Frag => B
      clear hB
      refine ⟨JOk.yes (JOk.yes (JOk.edge (JOk.yes (JOk.yes (JOk.yes (JOk.top) (ld Tryz.underlying23 rfl rfl rfl)) (ld Tryz.underlying23 rfl rfl rfl)) (ldC Tryz.underlying9 rfl rfl (Cells.buf (m := 1) hk3 (by rw [List.length_map]; omega)))) (by kernel_rfl)) (ld Tryz.underlying23 rfl rfl rfl)) (ldC Tryz.underlying9 rfl rfl (Cells.buf (m := 1) hv3 (by rw [List.length_map]; omega))), ?_⟩
      refine Dx.p (i := 30) rfl (by kernel_rfl) (nilc rfl) rfl ?_
      refine Dx.p (i := 31) rfl (by kernel_rfl) (fa' fo113_0 rfl) rfl ?_
      refine Dx.one (i := 32) (by kernel_rfl) ?_
      refine Dstep.o0 (i := 32) rfl (stO Tryz.underlying23 sz23 rfl rfl rfl (by simp) rfl) (fun v B' H' hΦ hB => ?_)
      obtain ⟨rfl, rfl⟩ := hΦ; clear hB v
      refine ⟨JOk.edge (JOk.edge (JOk.edge (JOk.edge (JOk.edge (JOk.edge (JOk.top) (by kernel_rfl)) (by kernel_rfl)) (by kernel_rfl)) (by kernel_rfl)) (by kernel_rfl)) (by kernel_rfl), ?_⟩
      refine Dx.p (i := 33) rfl (by kernel_rfl) (nilc rfl) rfl ?_
      refine Dx.p (i := 34) rfl (by kernel_rfl) (fa' fo113_1 rfl) rfl ?_
      refine Dx.one (i := 35) (by kernel_rfl) ?_
      refine Dstep.o0 (i := 35) rfl (stO Tryz.underlying23 sz23 rfl rfl rfl (by simp) rfl) (fun v B' H' hΦ hB => ?_)
      obtain ⟨rfl, rfl⟩ := hΦ; clear hB v
      refine ⟨JOk.edge (JOk.edge (JOk.edge (JOk.edge (JOk.edge (JOk.edge (JOk.top) (by kernel_rfl)) (by kernel_rfl)) (by kernel_rfl)) (by kernel_rfl)) (by kernel_rfl)) (by kernel_rfl), ?_⟩
      refine Dx.done (by kernel_rfl) ?_
      exact Xx.mkK (⟨Ak9, ck9, Av9, cv9, rfl, rfl, by ac_rfl⟩) (Sub.cons (s := 0) rfl (Sub.cons (s := 1) rfl (Sub.cons (s := 4) rfl (Sub.cons (s := 5) rfl (Sub.cons (s := 6) rfl (Sub.cons (s := 7) rfl (Sub.cons (s := 8) rfl (Sub.cons (s := 9) rfl (Sub.cons (s := 10) rfl (Sub.cons (s := 11) rfl (Sub.cons (s := 12) rfl (Sub.cons (s := 13) rfl (Sub.cons (s := 14) rfl (Sub.cons (s := 15) rfl (Sub.cons (s := 16) rfl (Sub.cons (s := 17) rfl (Sub.cons (s := 18) rfl (Sub.cons (s := 19) rfl (Sub.cons (s := 20) rfl (Sub.cons (s := 21) rfl (Sub.cons (s := 22) rfl (Sub.cons (s := 23) rfl (Sub.cons (s := 24) rfl (Sub.cons (s := 25) rfl (Sub.cons (s := 26) rfl (Sub.cons (s := 27) rfl (Sub.cons (s := 28) rfl (Sub.cons (s := 29) rfl (Sub.cons (s := 30) rfl (Sub.cons (s := 31) rfl (Sub.cons (s := 32) rfl (Sub.cons (s := 33) rfl (Sub.cons (s := 34) rfl (Sub.cons (s := 35) rfl (Sub.cons (s := 36) rfl (Sub.cons (s := 37) rfl (Sub.nil _)))))))))))))))))))))))))))))))))))))
    · rintro ρ' B' H' ⟨Ak9, ck9, Av9, cv9, rfl, rfl, rfl⟩
      refine Cx.seq (fun K7 k7 => ?_)
      refine Cx.region ?_
      refine Lx.y (mv rfl) rfl ?_
      refine Lx.y (mv rfl) rfl ?_
      refine Lx.y (nilc rfl) rfl ?_
      refine Lx.y (fa' fo113_2 rfl) rfl ?_
      refine Lx.y (ld Tryz.underlying111 rfl rfl rfl) rfl ?_
      refine Lx.y (mv rfl) rfl ?_
      refine Lx.y (Yx.val (add rfl rfl (by first | exact wrap64 (by omega) (by omega) | rfl)) (show _ = i64 ((i + 1 : Nat) : Int) from rfl)) rfl ?_
      refine Lx.y (mv rfl) rfl ?_
      refine Lx.bsl (bsl1 Tryz.underlying111 ti110 rfl rfl rfl (by decide)) rfl (fun b78 => ?_)
      refine Lx.c rfl rfl rfl (InsN_ct _ (i + 1) p cc ps b78 110 [.pointer (some ⟨b3, 0, none⟩)] _ (by omega) (by omega) hpa rfl rfl (by omega)) (pickSB _ _) rfl ?_
      rintro v B1 H1 ⟨Ac9, cc9, rfl, hBB, rfl, ⟨_, hAcc9⟩, hcc9⟩ hB1
      subst hBB
      rename Frag => B
      clear hB1
      refine Lx.y (nilc rfl) rfl ?_
      refine Lx.y (fa' fo113_2 rfl) rfl ?_
      refine Lx.st (stO Tryz.underlying111 sz111 rfl rfl rfl (by simp) rfl) ?_
      refine Lx.nil ?_
      refine Xx.tn (k7 _ _ _ _ ?_)
      refine Cx.drawn (by kernel_rfl) ?_
      refine Dx.p (i := 0) rfl (by kernel_rfl) (mv rfl) rfl ?_
      refine Dx.p (i := 1) rfl (by kernel_rfl) (mv rfl) rfl ?_
      refine Dx.p (i := 2) rfl (by kernel_rfl) (mv rfl) rfl ?_
      refine Dx.p (i := 3) rfl (by kernel_rfl) (nilc rfl) rfl ?_
      refine Dx.p (i := 4) rfl (by kernel_rfl) (fa' fo113_0 rfl) rfl ?_
      refine Dx.r (i := 5) rfl (by kernel_rfl) (ld Tryz.underlying23 rfl rfl rfl) rfl ?_
      refine Dx.p (i := 6) rfl (by kernel_rfl) (mv rfl) rfl ?_
      refine Dx.p (i := 7) rfl (by kernel_rfl) (sl2V Tryz.underlying23 sz9 rfl rfl (by first | exact Int.toNat_natCast _ | rfl) (by omega) (by omega)) rfl ?_
      refine Dx.p (i := 8) rfl (by kernel_rfl) (mv rfl) rfl ?_
      refine Dx.p (i := 9) rfl (by kernel_rfl) (nilc rfl) rfl ?_
      refine Dx.p (i := 10) rfl (by kernel_rfl) (fa' fo113_1 rfl) rfl ?_
      refine Dx.r (i := 11) rfl (by kernel_rfl) (ld Tryz.underlying23 rfl rfl rfl) rfl ?_
      refine Dx.p (i := 12) rfl (by kernel_rfl) (mv rfl) rfl ?_
      refine Dx.p (i := 13) rfl (by kernel_rfl) (sl2V Tryz.underlying23 sz9 rfl rfl (by first | exact Int.toNat_natCast _ | rfl) (by omega) (by omega)) rfl ?_
      refine Dx.p (i := 14) rfl (by kernel_rfl) (nilc rfl) rfl ?_
      refine Dx.p (i := 15) rfl (by kernel_rfl) (fa' fo113_0 rfl) rfl ?_
      refine Dx.one (i := 16) (by kernel_rfl) ?_
      refine Dstep.o0 (i := 16) rfl (stO Tryz.underlying23 sz23 rfl rfl rfl (by simp) rfl) (fun v B' H' hΦ hB => ?_)
      obtain ⟨rfl, rfl⟩ := hΦ; clear hB v
      refine ⟨JOk.edge (JOk.edge (JOk.top) (by kernel_rfl)) (by kernel_rfl), ?_⟩
      refine Dx.p (i := 17) rfl (by kernel_rfl) (nilc rfl) rfl ?_
      refine Dx.p (i := 18) rfl (by kernel_rfl) (fa' fo113_1 rfl) rfl ?_
      refine Dx.one (i := 19) (by kernel_rfl) ?_
      refine Dstep.o0 (i := 19) rfl (stO Tryz.underlying23 sz23 rfl rfl rfl (by simp) rfl) (fun v B' H' hΦ hB => ?_)
      obtain ⟨rfl, rfl⟩ := hΦ; clear hB v
      refine ⟨JOk.edge (JOk.edge (JOk.top) (by kernel_rfl)) (by kernel_rfl), ?_⟩
      refine Dx.done (by kernel_rfl) ?_
      refine Xx.lessT bK 3 (by omega) ?_
      refine Xx.lessT bV 3 (by omega) ?_
      exact Xx.end0 rfl ⟨rfl, rfl, Ak9, ck9, Av9, cv9, Ac9, cc9, cc2', Ac2', b3, Ak3, ck3, Av3, cv3, Ac3, cc3, rfl⟩ (Frag.le_refl _) (by ac_rfl)
end BtD
end Go.Proofs.YtdidpocakipinaaGreatDoor

/-
  A full node halved: the tree.
-/
namespace Go.Proofs.YtdidpocakipinaaGreatDoor
open Go.SL Go.RowKit
set_option linter.unusedVariables false
set_option linter.unusedSimpArgs false
set_option maxRecDepth 100000
open Ke1 Ke3 Ke4 Ke5 Ke6 Ke7 Ke8 Ke9 KeA KeB KeC KeD KeE KeF KeG KeI RgA BtB BtC BtD
namespace BtE


theorem ctFrame {P : Program} {f : FuncId} {args : List Value} {B : Frag} {pre : HP} {Φ : Value → Frag → HP → Prop} (F : HP) (h : Ct P f args B pre Φ) : Ct P f args B (pre * F) (fun v B' H' => ∃ H0, Φ v B' H0 ∧ H' = H0 * F) :=
  ⟨h.1, fun N0 w R s => by
    refine (h.2 N0 w (F * R) (s.of_eq (star_assoc _ _ _))).mono ?_
    rintro x w' ⟨v, B', H', hx, hΦ, hB, hb, s2⟩
    exact ⟨v, B', H' * F, hx, ⟨H', hΦ, rfl⟩, hB, hb, s2.of_eq (star_assoc _ _ _).symm⟩⟩
theorem ctTo {P : Program} {f : FuncId} {args : List Value} {B : Frag} {pre pre' : HP} {Φ Ψ : Value → Frag → HP → Prop} (h : Ct P f args B pre Φ) (he : pre' = pre) (hw : ∀ v B' H', Φ v B' H' → Ψ v B' H') : Ct P f args B pre' Ψ := by
  subst he
  exact ⟨h.1, fun N0 w R s => (h.2 N0 w R s).mono fun x w' ⟨v, B', H', hx, hΦ, hB, hb, s2⟩ => ⟨v, B', H', hx, hw _ _ _ hΦ, hB, hb, s2⟩⟩
/-- c with the kid at i in two -/
def Halved (c : C) (i : Nat) (kid c' : C) : Prop := ∃ L M : C, c'.b = c.b ∧ c'.ks = c.ks.take i ++ [kid.ks.getD 3 []] ++ c.ks.drop i ∧ c'.vs = c.vs.take i ++ [kid.vs.getD 3 []] ++ c.vs.drop i ∧ c'.cs = c.cs.take i ++ [L, M] ++ c.cs.drop (i + 1) ∧
  L.b = kid.b ∧ L.ks = kid.ks.take 3 ∧ L.vs = kid.vs.take 3 ∧ L.cs = kid.cs.take 4 ∧ M.ks = kid.ks.drop 4 ∧ M.vs = kid.vs.drop 4 ∧ M.cs = kid.cs.drop 4
theorem take1 {α : Type} (l : List α) {i : Nat} (h : i < l.length) : (l.drop i).take 1 = [l[i]] := by
  rw [List.drop_eq_getElem_cons h]; rfl
theorem take_succ1 {α : Type} (l : List α) {i : Nat} (h : i < l.length) : l.take (i + 1) = l.take i ++ [l[i]] := by
  rw [List.take_succ_eq_append_getElem h]
theorem pts_all (l : List C) : (l.map pt).all (·.oneCell') = true := by
  rw [List.all_eq_true]; intro v hv; obtain ⟨x, _, rfl⟩ := List.mem_map.1 hv; rfl
theorem getD3 {l : List Str8} (h : l.length = 7) : l.getD 3 [] = l[3]'(by omega) := by simp [List.getD, show 3 < l.length by omega]
theorem halve_ct (N : Nat) (hN : N ≤ 90) (d : Nat) (c : C) (i : Nat) (hi : i < c.cs.length) (hok : Ok N (d + 2) c) (h7 : c.cs[i].ks.length = 7) (B : Frag) :
    Ct Tryz.prog 62 [.pointer (some ⟨c.b, 0, none⟩), i64 i] B (tr (d + 2) c) (fun v B' H' => v = .tuple #[] ∧ B' = B ∧ ∃ c', H' = tr (d + 2) c' ∧ Halved c i c.cs[i] c') := by
  obtain ⟨hv, hk, hcs, hkids⟩ := hok
  have hkid := hkids _ (List.getElem_mem hi)
  generalize hg : c.cs[i] = kid at *
  obtain ⟨kv, kk, kcs, _⟩ := hkid
  have hpl : c.cs.length = c.ks.length + 1 := by rcases hcs with h | h; rw [h] at hi; simp at hi; exact h
  have hq : kid.cs.length = 0 ∨ kid.cs.length = 8 := by rcases kcs with h | h; left; simp [h]; right; omega
  have hraw := halve_raw c.b c.ks.length c.cs.length kid.cs.length i kid.b c.Ak c.Av c.Ac kid.Ak kid.Av kid.Ac c.ck c.cv c.cc kid.ck kid.cv kid.cc c.ks c.vs kid.ks kid.vs (c.cs.map pt) (kid.cs.map pt) (kid.ks.getD 3 []) (kid.vs.getD 3 []) B (by omega) hpl hi rfl hv (by simp) h7 (by omega) hq (by simp)
    (by rw [Nat.zero_add, Nat.mul_one, take1 _ (by simpa using hi)]; simp [hg, pt]) (by rw [take1 _ (by simp; omega), getD3 h7]; simp) (by rw [take1 _ (by simp; omega), getD3 (show kid.vs.length = 7 by omega)]; simp) (pts_all _) (pts_all _)
  refine ctTo (ctFrame (trs (tr d) kid.cs * (trs (tr (d + 1)) (c.cs.take i) * trs (tr (d + 1)) (c.cs.drop (i + 1)))) hraw) ?_ ?_
  · show nrow c * (kbuf c * (vbuf c * (cbuf c * trs (tr (d + 1)) c.cs))) = _
    rw [trs_at _ _ _ hi, hg]
    show nrow c * (kbuf c * (vbuf c * (cbuf c * ((nrow kid * (kbuf kid * (vbuf kid * (cbuf kid * trs (tr d) kid.cs)))) * (trs (tr (d + 1)) (c.cs.take i) * trs (tr (d + 1)) (c.cs.drop (i + 1))))))) = _
    unfold nrow kbuf vbuf cbuf ncells
    rw [hv, h7, show kid.vs.length = 7 by omega]
    ac_rfl
  · rintro v B' H' ⟨H0, ⟨rfl, rfl, Ak', ck', Av', cv', Ac', cc', cc2', Ac2', b3, Ak3, ck3, Av3, cv3, Ac3, cc3, rfl⟩, rfl⟩
    have hL : (kid.cs.take 4).length = min kid.cs.length 4 := by simp; omega
    have hM : (kid.cs.drop 4).length = kid.cs.length - 4 := by simp
    refine ⟨rfl, rfl, .mk c.b Ak' ck' Av' cv' Ac' cc' (c.ks.take i ++ [kid.ks.getD 3 []] ++ c.ks.drop i) (c.vs.take i ++ [kid.vs.getD 3 []] ++ c.vs.drop i) (c.cs.take i ++ [.mk kid.b kid.Ak kid.ck kid.Av kid.cv Ac2' cc2' (kid.ks.take 3) (kid.vs.take 3) (kid.cs.take 4), .mk b3 Ak3 ck3 Av3 cv3 Ac3 cc3 (kid.ks.drop 4) (kid.vs.drop 4) (kid.cs.drop 4)] ++ c.cs.drop (i + 1)), ?_, _, _, rfl, rfl, rfl, rfl, rfl, rfl, rfl, rfl, rfl, rfl, rfl⟩
    have l1 : (c.ks.take i ++ [kid.ks.getD 3 []] ++ c.ks.drop i).length = c.ks.length + 1 := by simp; omega
    have l2 : (c.vs.take i ++ [kid.vs.getD 3 []] ++ c.vs.drop i).length = c.ks.length + 1 := by simp; omega
    have hcut : trs (tr d) kid.cs = trs (tr d) (kid.cs.take 4) * trs (tr d) (kid.cs.drop 4) := by rw [← trs_app, List.take_append_drop]
    have l3 : (c.cs.take i ++ [C.mk kid.b kid.Ak kid.ck kid.Av kid.cv Ac2' cc2' (kid.ks.take 3) (kid.vs.take 3) (kid.cs.take 4), .mk b3 Ak3 ck3 Av3 cv3 Ac3 cc3 (kid.ks.drop 4) (kid.vs.drop 4) (kid.cs.drop 4)] ++ c.cs.drop (i + 1)).length = c.cs.length + 1 := by simp; omega
    have l4 : (c.cs.map pt).take ((i + 1) * 1) ++ [.pointer (some ⟨b3, 0, none⟩)] ++ (c.cs.map pt).drop ((i + 1) * 1) = (c.cs.take i ++ [C.mk kid.b kid.Ak kid.ck kid.Av kid.cv Ac2' cc2' (kid.ks.take 3) (kid.vs.take 3) (kid.cs.take 4), .mk b3 Ak3 ck3 Av3 cv3 Ac3 cc3 (kid.ks.drop 4) (kid.vs.drop 4) (kid.cs.drop 4)] ++ c.cs.drop (i + 1)).map pt := by
      rw [Nat.mul_one, take_succ1 _ (by simpa using hi)]
      simp [hg, pt, C.b]
    rw [l4, hcut]
    show _ = row c.b 113 [.slice Ak' (c.ks.take i ++ [kid.ks.getD 3 []] ++ c.ks.drop i).length ck', .slice Av' (c.vs.take i ++ [kid.vs.getD 3 []] ++ c.vs.drop i).length cv', .slice Ac' (c.cs.take i ++ [C.mk kid.b kid.Ak kid.ck kid.Av kid.cv Ac2' cc2' (kid.ks.take 3) (kid.vs.take 3) (kid.cs.take 4), .mk b3 Ak3 ck3 Av3 cv3 Ac3 cc3 (kid.ks.drop 4) (kid.vs.drop 4) (kid.cs.drop 4)] ++ c.cs.drop (i + 1)).length cc'] *
      (sbuf 9 1 Ak' (c.ks.take i ++ [kid.ks.getD 3 []] ++ c.ks.drop i).length ck' ((c.ks.take i ++ [kid.ks.getD 3 []] ++ c.ks.drop i).map str) * (sbuf 9 1 Av' (c.vs.take i ++ [kid.vs.getD 3 []] ++ c.vs.drop i).length cv' ((c.vs.take i ++ [kid.vs.getD 3 []] ++ c.vs.drop i).map str) *
      (sbuf 110 1 Ac' (c.cs.take i ++ [C.mk kid.b kid.Ak kid.ck kid.Av kid.cv Ac2' cc2' (kid.ks.take 3) (kid.vs.take 3) (kid.cs.take 4), .mk b3 Ak3 ck3 Av3 cv3 Ac3 cc3 (kid.ks.drop 4) (kid.vs.drop 4) (kid.cs.drop 4)] ++ c.cs.drop (i + 1)).length cc' ((c.cs.take i ++ [C.mk kid.b kid.Ak kid.ck kid.Av kid.cv Ac2' cc2' (kid.ks.take 3) (kid.vs.take 3) (kid.cs.take 4), .mk b3 Ak3 ck3 Av3 cv3 Ac3 cc3 (kid.ks.drop 4) (kid.vs.drop 4) (kid.cs.drop 4)] ++ c.cs.drop (i + 1)).map pt) * trs (tr (d + 1)) (c.cs.take i ++ [C.mk kid.b kid.Ak kid.ck kid.Av kid.cv Ac2' cc2' (kid.ks.take 3) (kid.vs.take 3) (kid.cs.take 4), .mk b3 Ak3 ck3 Av3 cv3 Ac3 cc3 (kid.ks.drop 4) (kid.vs.drop 4) (kid.cs.drop 4)] ++ c.cs.drop (i + 1)))))
    rw [l1, l2, l3, trs_app, trs_app]
    show _ = _ * (_ * (_ * (_ * ((trs (tr (d + 1)) (c.cs.take i) * ((row kid.b 113 [.slice kid.Ak (kid.ks.take 3).length kid.ck, .slice kid.Av (kid.vs.take 3).length kid.cv, .slice Ac2' (kid.cs.take 4).length cc2'] * (sbuf 9 1 kid.Ak (kid.ks.take 3).length kid.ck ((kid.ks.take 3).map str) * (sbuf 9 1 kid.Av (kid.vs.take 3).length kid.cv ((kid.vs.take 3).map str) * (sbuf 110 1 Ac2' (kid.cs.take 4).length cc2' ((kid.cs.take 4).map pt) * trs (tr d) (kid.cs.take 4))))) *
      ((row b3 113 [.slice Ak3 (kid.ks.drop 4).length ck3, .slice Av3 (kid.vs.drop 4).length cv3, .slice Ac3 (kid.cs.drop 4).length cc3] * (sbuf 9 1 Ak3 (kid.ks.drop 4).length ck3 ((kid.ks.drop 4).map str) * (sbuf 9 1 Av3 (kid.vs.drop 4).length cv3 ((kid.vs.drop 4).map str) * (sbuf 110 1 Ac3 (kid.cs.drop 4).length cc3 ((kid.cs.drop 4).map pt) * trs (tr d) (kid.cs.drop 4))))) * 1))) * _))))
    rw [hL, hM, show (kid.ks.take 3).length = 3 by simp; omega, show (kid.vs.take 3).length = 3 by simp; omega, show (kid.ks.drop 4).length = 7 - 4 by simp; omega, show (kid.vs.drop 4).length = 7 - 4 by simp; omega, star_comm _ (1 : HP), one_star]
    simp only [List.map_append, List.map_take, List.map_drop, List.map_cons, List.map_nil, Nat.mul_one]
    ac_rfl
end BtE
end Go.Proofs.YtdidpocakipinaaGreatDoor

/-
  What a node has: laws of insertion.
-/
namespace Go.Proofs.YtdidpocakipinaaGreatDoor
open Go.SL Go.RowKit
set_option linter.unusedVariables false
set_option linter.unusedSimpArgs false
set_option maxRecDepth 100000
open Ke1 Ke3 Ke4 Ke5 Ke6 Ke7 Ke8 Ke9 KeA KeB KeC KeD KeE KeF KeG KeI RgA BtB BtC BtD BtE
namespace BtG


def preL (f : C → List (Str8 × Str8)) : List Str8 → List Str8 → List C → List (Str8 × Str8)
  | k :: ks, v :: vs, c :: cs => f c ++ (k, v) :: preL f ks vs cs
  | _, _, _ => []
def posL (f : C → List (Str8 × Str8)) : List Str8 → List Str8 → List C → List (Str8 × Str8)
  | k :: ks, v :: vs, c :: cs => (k, v) :: (f c ++ posL f ks vs cs)
  | _, _, _ => []
theorem io_leaf (f : C → List (Str8 × Str8)) : ∀ (ks vs : List Str8), vs.length = ks.length → ioL f ks vs [] = ks.zip vs := by
  intro ks
  induction ks with
  | nil => intro vs h; cases vs with
    | nil => rfl
    | cons v vs => simp at h
  | cons k ks ih => intro vs h; cases vs with
    | nil => simp at h
    | cons v vs => show (k, v) :: ioL f ks vs [] = (k, v) :: ks.zip vs; rw [ih vs (by simpa using h)]
theorem io_pos (f : C → List (Str8 × Str8)) : ∀ (ks vs : List Str8) (c : C) (cs : List C), vs.length = ks.length → cs.length = ks.length → ioL f ks vs (c :: cs) = f c ++ posL f ks vs cs := by
  intro ks
  induction ks with
  | nil => intro vs c cs h h2; cases vs with
    | nil => show f c = f c ++ []; simp
    | cons v vs => simp at h
  | cons k ks ih => intro vs c cs h h2; cases vs with
    | nil => simp at h
    | cons v vs => cases cs with
      | nil => simp at h2
      | cons c2 cs => show f c ++ (k, v) :: ioL f ks vs (c2 :: cs) = f c ++ ((k, v) :: (f c2 ++ posL f ks vs cs)); rw [ih vs c2 cs (by simpa using h) (by simpa using h2)]
theorem io_split (f : C → List (Str8 × Str8)) : ∀ (i : Nat) (ks vs : List Str8) (cs : List C) (h : i < cs.length), vs.length = ks.length → cs.length = ks.length + 1 → ioL f ks vs cs = preL f (ks.take i) (vs.take i) (cs.take i) ++ (f cs[i] ++ posL f (ks.drop i) (vs.drop i) (cs.drop (i + 1))) := by
  intro i
  induction i with
  | zero =>
    intro ks vs cs h h1 h2
    cases cs with
    | nil => simp at h
    | cons c cs => exact io_pos f ks vs c cs h1 (by simpa using h2)
  | succ i ih =>
    intro ks vs cs h h1 h2
    cases cs with
    | nil => simp at h
    | cons c cs => cases ks with
      | nil => simp at h2; subst h2; simp at h
      | cons k ks => cases vs with
        | nil => simp at h1
        | cons v vs =>
          have h' : i < cs.length := by simpa using h
          show f c ++ (k, v) :: ioL f ks vs cs = (f c ++ (k, v) :: preL f (ks.take i) (vs.take i) (cs.take i)) ++ (f cs[i] ++ posL f (ks.drop i) (vs.drop i) (cs.drop (i + 1)))
          rw [ih ks vs cs h' (by simpa using h1) (by simpa using h2)]
          simp
/-- the last of what is ahead -/
theorem pre_last (f : C → List (Str8 × Str8)) : ∀ (i : Nat) (ks vs : List Str8) (cs : List C) (h : i < ks.length) (h1 : i < vs.length) (h2 : i < cs.length), preL f (ks.take (i + 1)) (vs.take (i + 1)) (cs.take (i + 1)) = preL f (ks.take i) (vs.take i) (cs.take i) ++ (f cs[i] ++ [(ks[i], vs[i])]) := by
  intro i
  induction i with
  | zero =>
    intro ks vs cs h h1 h2
    cases ks with
    | nil => simp at h
    | cons k ks => cases vs with
      | nil => simp at h1
      | cons v vs => cases cs with
        | nil => simp at h2
        | cons c cs => rfl
  | succ i ih =>
    intro ks vs cs h h1 h2
    cases ks with
    | nil => simp at h
    | cons k ks => cases vs with
      | nil => simp at h1
      | cons v vs => cases cs with
        | nil => simp at h2
        | cons c cs =>
          have e1 : i < ks.length := by simpa using h
          have e2 : i < vs.length := by simpa using h1
          have e3 : i < cs.length := by simpa using h2
          show f c ++ (k, v) :: preL f (ks.take (i + 1)) (vs.take (i + 1)) (cs.take (i + 1)) = (f c ++ (k, v) :: preL f (ks.take i) (vs.take i) (cs.take i)) ++ (f cs[i] ++ [(ks[i], vs[i])])
          rw [ih ks vs cs (by simpa using h) (by simpa using h1) (by simpa using h2)]
          simp
theorem pos_first (f : C → List (Str8 × Str8)) {ks vs : List Str8} {cs : List C} {i : Nat} (h : i < ks.length) (h1 : i < vs.length) (h2 : i + 1 < cs.length) : posL f (ks.drop i) (vs.drop i) (cs.drop (i + 1)) = (ks[i], vs[i]) :: (f cs[i + 1] ++ posL f (ks.drop (i + 1)) (vs.drop (i + 1)) (cs.drop (i + 2))) := by
  rw [List.drop_eq_getElem_cons h, List.drop_eq_getElem_cons h1, List.drop_eq_getElem_cons h2]; rfl
theorem Ord.left {a b : List (Str8 × Str8)} (h : Ord (a ++ b)) : Ord a := (List.pairwise_append.1 h).1
theorem Ord.right {a b : List (Str8 × Str8)} (h : Ord (a ++ b)) : Ord b := (List.pairwise_append.1 h).2.1
theorem Ord.cross {a b : List (Str8 × Str8)} (h : Ord (a ++ b)) : ∀ x ∈ a, ∀ y ∈ b, bless x.1 y.1 = true := (List.pairwise_append.1 h).2.2
end BtG
end Go.Proofs.YtdidpocakipinaaGreatDoor

/-
  A key dropped: the plain law (how few keys a node may have; neighbours; mending).
-/
namespace Go.Proofs.YtdidpocakipinaaGreatDoor
open Go.SL Go.RowKit
set_option linter.unusedVariables false
set_option linter.unusedSimpArgs false
set_option maxRecDepth 100000
open Ke1 Ke3 Ke4 Ke5 Ke6 Ke7 Ke8 Ke9 KeA KeB KeC KeD KeE KeF KeG KeI RgA BtB BtC BtD BtE BtG
namespace BtX


/-! ### parts of a node's list -/
theorem ioL_app (f : C → List (Str8 × Str8)) (k v : Str8) (ks2 vs2 : List Str8) (cs2 : List C) : ∀ (ks1 vs1 : List Str8) (cs1 : List C), vs1.length = ks1.length → (cs1 = [] ∧ cs2 = [] ∨ cs1.length = ks1.length + 1) → ioL f (ks1 ++ k :: ks2) (vs1 ++ v :: vs2) (cs1 ++ cs2) = ioL f ks1 vs1 cs1 ++ (k, v) :: ioL f ks2 vs2 cs2 := by
  intro ks1
  induction ks1 with
  | nil =>
    intro vs1 cs1 h h2
    obtain rfl : vs1 = [] := List.length_eq_zero_iff.1 h
    rcases h2 with ⟨rfl, rfl⟩ | h2
    · rfl
    · obtain ⟨c, rfl⟩ := List.length_eq_one_iff.1 h2
      rfl
  | cons a ks1 ih =>
    intro vs1 cs1 h h2
    cases vs1 with
    | nil => simp at h
    | cons b vs1 =>
      have h' : vs1.length = ks1.length := by simpa using h
      rcases h2 with ⟨rfl, rfl⟩ | h2
      · show (a, b) :: ioL f (ks1 ++ k :: ks2) (vs1 ++ v :: vs2) ([] ++ []) = (a, b) :: ioL f ks1 vs1 [] ++ _
        rw [ih vs1 [] h' (.inl ⟨rfl, rfl⟩)]; rfl
      · cases cs1 with
        | nil => simp at h2
        | cons c cs1 =>
          show f c ++ (a, b) :: ioL f (ks1 ++ k :: ks2) (vs1 ++ v :: vs2) (cs1 ++ cs2) = (f c ++ (a, b) :: ioL f ks1 vs1 cs1) ++ _
          rw [ih vs1 cs1 h' (.inr (by simpa using h2))]
          simp
/-- one kid, and what stands beside it -/
theorem io_one (f : C → List (Str8 × Str8)) (D VD : List Str8) (CD : List C) (m : C) (hd : VD.length = D.length) (hcd : CD.length = D.length) : ∀ (A VA : List Str8) (CA : List C), VA.length = A.length → CA.length = A.length → ioL f (A ++ D) (VA ++ VD) (CA ++ m :: CD) = preL f A VA CA ++ (f m ++ posL f D VD CD) := by
  intro A
  induction A with
  | nil =>
    intro VA CA h h2
    obtain rfl : VA = [] := List.length_eq_zero_iff.1 h
    obtain rfl : CA = [] := List.length_eq_zero_iff.1 h2
    exact io_pos f D VD m CD hd hcd
  | cons a A ih =>
    intro VA CA h h2
    cases VA with
    | nil => simp at h
    | cons b VA => cases CA with
      | nil => simp at h2
      | cons c CA =>
        show f c ++ (a, b) :: ioL f (A ++ D) (VA ++ VD) (CA ++ m :: CD) = (f c ++ (a, b) :: preL f A VA CA) ++ _
        rw [ih VA CA (by simpa using h) (by simpa using h2)]
        simp
/-- two kids, and what stands beside them -/
theorem io_two (f : C → List (Str8 × Str8)) (A VA D VD : List Str8) (CA CD : List C) (l r : C) (K W : Str8) (ha : VA.length = A.length) (hca : CA.length = A.length) (hd : VD.length = D.length) (hcd : CD.length = D.length) : ioL f (A ++ K :: D) (VA ++ W :: VD) (CA ++ l :: r :: CD) = preL f A VA CA ++ (f l ++ (K, W) :: (f r ++ posL f D VD CD)) := by
  rw [io_one f (K :: D) (W :: VD) (r :: CD) l (by simpa using hd) (by simpa using hcd) A VA CA ha hca]
  rfl
/-- how few keys a node may have: all but the root at least three; leaves all at one height -/
def Mn : Nat → C → Prop
  | 0, _ => False
  | d + 1, c => (c.cs = [] ↔ d = 0) ∧ ∀ p ∈ c.cs, 3 ≤ p.ks.length ∧ Mn d p
/-- the same, but the kid at i may have but two -/
def MnX (i : Nat) : Nat → C → Prop
  | 0, _ => False
  | d + 1, c => (c.cs = [] ↔ d = 0) ∧ ∀ j p, c.cs[j]? = some p → (if j = i then 2 else 3) ≤ p.ks.length ∧ Mn d p
theorem MnX.full {i d : Nat} {c : C} (h : MnX i (d + 1) c) (h3 : ∀ p, c.cs[i]? = some p → 3 ≤ p.ks.length) : Mn (d + 1) c := by
  refine ⟨h.1, fun p hp => ?_⟩
  obtain ⟨j, hj⟩ := List.getElem?_of_mem hp
  have h1 := h.2 j p hj
  refine ⟨?_, h1.2⟩
  by_cases e : j = i
  · subst e; exact h3 p hj
  · have := h1.1; rw [if_neg e] at this; exact this
theorem MnX.set {i d : Nat} {c c' kid : C} (h : Mn (d + 1) c) (hi : i < c.cs.length) (e : c'.cs = c.cs.set i kid) (hk : Mn d kid) (h2 : 2 ≤ kid.ks.length) : MnX i (d + 1) c' := by
  refine ⟨?_, fun j p hj => ?_⟩
  · rw [e, List.set_eq_nil_iff]; exact h.1
  · rw [e, List.getElem?_set] at hj
    by_cases ej : i = j
    · subst ej
      rw [if_pos rfl, if_pos hi] at hj
      obtain rfl := Option.some.inj hj
      exact ⟨by rw [if_pos rfl]; exact h2, hk⟩
    · rw [if_neg ej] at hj
      have := h.2 p (List.mem_of_getElem? hj)
      exact ⟨by rw [if_neg (fun z => ej z.symm)]; exact this.1, this.2⟩
/-- what is left without a key -/
def delP (k : Str8) (l : List (Str8 × Str8)) : List (Str8 × Str8) := l.filter (fun p => decide (p.1 ≠ k))
theorem delP_app (k : Str8) (a b : List (Str8 × Str8)) : delP k (a ++ b) = delP k a ++ delP k b := List.filter_append ..
theorem delP_same {k : Str8} {l : List (Str8 × Str8)} (h : ∀ p ∈ l, p.1 ≠ k) : delP k l = l := List.filter_eq_self.2 fun p hp => by simp [h p hp]
theorem delP_ord {k : Str8} {l : List (Str8 × Str8)} (h : Ord l) : Ord (delP k l) := h.sublist List.filter_sublist
theorem left_io {d : Nat} {l k l' k' : C} {K W K' W' : Str8} {LX : List C} (h1 : l.ks = l'.ks ++ [K']) (h2 : l.vs = l'.vs ++ [W']) (h3 : l.cs = l'.cs ++ LX) (g1 : k'.ks = K :: k.ks) (g2 : k'.vs = W :: k.vs) (g3 : k'.cs = LX ++ k.cs) (hv : l'.vs.length = l'.ks.length) (hc : l'.cs = [] ∧ LX = [] ∧ k.cs = [] ∨ l'.cs.length = l'.ks.length + 1 ∧ LX.length = 1) :
    io (d + 1) l ++ (K, W) :: io (d + 1) k = io (d + 1) l' ++ (K', W') :: io (d + 1) k' := by
  show ioL (io d) l.ks l.vs l.cs ++ (K, W) :: ioL (io d) k.ks k.vs k.cs = ioL (io d) l'.ks l'.vs l'.cs ++ (K', W') :: ioL (io d) k'.ks k'.vs k'.cs
  rw [h1, h2, h3, g1, g2, g3]
  have e1 := ioL_app (io d) K' W' [] [] LX l'.ks l'.vs l'.cs hv (by rcases hc with ⟨a, b, _⟩ | ⟨a, _⟩; exact .inl ⟨a, b⟩; exact .inr a)
  have e2 := ioL_app (io d) K W k.ks k.vs k.cs [] [] LX rfl (by rcases hc with ⟨_, a, b⟩ | ⟨_, a⟩; exact .inl ⟨a, b⟩; exact .inr a)
  rw [e1]
  rw [List.nil_append, List.nil_append] at e2
  rw [e2]; simp
theorem join_io {d : Nat} {k r m : C} {K W : Str8} (h1 : m.ks = k.ks ++ K :: r.ks) (h2 : m.vs = k.vs ++ W :: r.vs) (h3 : m.cs = k.cs ++ r.cs) (hv : k.vs.length = k.ks.length) (hc : k.cs = [] ∧ r.cs = [] ∨ k.cs.length = k.ks.length + 1) : io (d + 1) m = io (d + 1) k ++ (K, W) :: io (d + 1) r := by
  show ioL (io d) m.ks m.vs m.cs = ioL (io d) k.ks k.vs k.cs ++ (K, W) :: ioL (io d) r.ks r.vs r.cs
  rw [h1, h2, h3]
  exact ioL_app (io d) K W r.ks r.vs r.cs k.ks k.vs k.cs hv hc
/-- a node, with two neighbours among its kids -/
structure Two (c : C) (A VA : List Str8) (CA : List C) (l : C) (K W : Str8) (r : C) (D VD : List Str8) (CD : List C) : Prop where
  ks : c.ks = A ++ K :: D
  vs : c.vs = VA ++ W :: VD
  cs : c.cs = CA ++ l :: r :: CD
  ha : VA.length = A.length
  hca : CA.length = A.length
  hd : VD.length = D.length
  hcd : CD.length = D.length
theorem Two.of {N d : Nat} {c : C} (hok : Ok N (d + 1) c) {i : Nat} (hi : i < c.ks.length) (hv : i < c.vs.length) (hc : i + 1 < c.cs.length) : Two c (c.ks.take i) (c.vs.take i) (c.cs.take i) (c.cs[i]'(by omega)) c.ks[i] c.vs[i] c.cs[i + 1] (c.ks.drop (i + 1)) (c.vs.drop (i + 1)) (c.cs.drop (i + 2)) := by
  have hvl := hok.1
  have hcl : c.cs.length = c.ks.length + 1 := by rcases hok.2.2.1 with z | z; rw [z] at hc; simp at hc; exact z
  refine ⟨?_, ?_, ?_, ?_, ?_, ?_, ?_⟩
  · rw [← List.drop_eq_getElem_cons hi, List.take_append_drop]
  · rw [← List.drop_eq_getElem_cons hv, List.take_append_drop]
  · rw [← List.drop_eq_getElem_cons (i := i + 1) hc, ← List.drop_eq_getElem_cons (i := i) (by omega), List.take_append_drop]
  all_goals simp only [List.length_take, List.length_drop]; omega
theorem Two.ioe {c : C} {A VA : List Str8} {CA : List C} {l : C} {K W : Str8} {r : C} {D VD : List Str8} {CD : List C} (h : Two c A VA CA l K W r D VD CD) (d : Nat) : io (d + 1) c = preL (io d) A VA CA ++ ((io d l ++ (K, W) :: io d r) ++ posL (io d) D VD CD) := by
  show ioL (io d) c.ks c.vs c.cs = _
  rw [h.ks, h.vs, h.cs, io_two (io d) A VA D VD CA CD l r K W h.ha h.hca h.hd h.hcd]; simp
/-- two neighbours changed, with the key between them -/
theorem Two.ok {N d : Nat} {c c' : C} {A VA : List Str8} {CA : List C} {l : C} {K W : Str8} {r : C} {D VD : List Str8} {CD : List C} {l' r' : C} {K' W' : Str8} (h : Two c A VA CA l K W r D VD CD) (h' : Two c' A VA CA l' K' W' r' D VD CD) (hok : Ok N (d + 2) c) (hl : Ok1 (d + 1) l') (hr : Ok1 (d + 1) r') : Ok N (d + 2) c' := by
  obtain ⟨h1, h2, _, h4⟩ := hok
  have e1 := h.ks; have e2 := h'.ks; have e3 := h.cs; have e4 := h'.cs; have e5 := h'.vs
  have a1 := h.ha; have a2 := h.hca; have a3 := h.hd; have a4 := h.hcd
  refine ⟨by rw [e5, e2]; simp; omega, by rw [e2]; rw [e1] at h2; simpa using h2, .inr (by rw [e4, e2]; simp; omega), fun p hp => ?_⟩
  rw [e4] at hp
  have g : ∀ q, q ∈ CA ∨ q ∈ CD → Ok1 (d + 1) q := fun q hq => h4 q (by rw [e3]; rcases hq with z | z <;> simp [z])
  simp only [List.mem_append, List.mem_cons] at hp
  rcases hp with z | rfl | rfl | z
  · exact g p (.inl z)
  · exact hl
  · exact hr
  · exact g p (.inr z)
/-- one made of two -/
theorem Two.okj {N d : Nat} {c c' : C} {A VA : List Str8} {CA : List C} {l : C} {K W : Str8} {r : C} {D VD : List Str8} {CD : List C} {m : C} (h : Two c A VA CA l K W r D VD CD) (e2 : c'.ks = A ++ D) (e5 : c'.vs = VA ++ VD) (e4 : c'.cs = CA ++ m :: CD) (hok : Ok N (d + 2) c) (hm : Ok1 (d + 1) m) : Ok N (d + 2) c' := by
  obtain ⟨h1, h2, _, h4⟩ := hok
  have e1 := h.ks; have e3 := h.cs
  have a1 := h.ha; have a2 := h.hca; have a3 := h.hd; have a4 := h.hcd
  refine ⟨by rw [e5, e2]; simp; omega, by rw [e2]; rw [e1] at h2; simp at h2 ⊢; omega, .inr (by rw [e4, e2]; simp; omega), fun p hp => ?_⟩
  rw [e4] at hp
  have g : ∀ q, q ∈ CA ∨ q ∈ CD → Ok1 (d + 1) q := fun q hq => h4 q (by rw [e3]; rcases hq with z | z <;> simp [z])
  simp only [List.mem_append, List.mem_cons] at hp
  rcases hp with z | rfl | z
  · exact g p (.inl z)
  · exact hm
  · exact g p (.inr z)
/-- a kid as it must be, told at once -/
def Good (d : Nat) (m : C) : Prop := m.vs.length = m.ks.length ∧ m.ks.length ≤ 7 ∧ (d = 0 ∧ m.cs = [] ∨ d ≠ 0 ∧ m.cs.length = m.ks.length + 1) ∧ ∀ p ∈ m.cs, Ok1 d p ∧ 3 ≤ p.ks.length ∧ Mn d p
theorem Good.of {d : Nat} {m : C} (h : Ok1 (d + 1) m) (h2 : Mn (d + 1) m) : Good d m := by
  refine ⟨h.1, h.2.1, ?_, fun p hp => ⟨h.2.2.2 p hp, h2.2 p hp⟩⟩
  by_cases e : d = 0
  · exact .inl ⟨e, h2.1.2 e⟩
  · rcases h.2.2.1 with z | z
    · exact absurd (h2.1.1 z) e
    · exact .inr ⟨e, z⟩
theorem Good.ok {d : Nat} {m : C} (h : Good d m) : Ok1 (d + 1) m := ⟨h.1, h.2.1, by rcases h.2.2.1 with ⟨_, z⟩ | ⟨_, z⟩; exact .inl z; exact .inr z, fun p hp => (h.2.2.2 p hp).1⟩
theorem Good.mn {d : Nat} {m : C} (h : Good d m) : Mn (d + 1) m := by
  refine ⟨?_, fun p hp => (h.2.2.2 p hp).2⟩
  rcases h.2.2.1 with ⟨e, z⟩ | ⟨e, z⟩
  · exact ⟨fun _ => e, fun _ => z⟩
  · exact ⟨fun w => by rw [w] at z; simp at z, fun w => absurd w e⟩
/-- what mending brings -/
def Mended (N d : Nat) (c c' : C) : Prop := c'.b = c.b ∧ Ok N (d + 2) c' ∧ Mn (d + 2) c' ∧ io (d + 2) c' = io (d + 2) c ∧ c.ks.length ≤ c'.ks.length + 1 ∧ c'.ks.length ≤ c.ks.length
theorem MnX.side {i d : Nat} {c : C} {A VA : List Str8} {CA : List C} {l : C} {K W : Str8} {r : C} {D VD : List Str8} {CD : List C} (h : MnX i (d + 2) c) (ht : Two c A VA CA l K W r D VD CD) (hi : i = A.length ∨ i = A.length + 1) : ∀ q, q ∈ CA ∨ q ∈ CD → 3 ≤ q.ks.length ∧ Mn (d + 1) q := by
  intro q hq
  have e := ht.cs; have ea := ht.hca
  rcases hq with hq | hq
  · obtain ⟨j, hj, rfl⟩ := List.getElem_of_mem hq
    have h1 := h.2 j CA[j] (by rw [e, List.getElem?_append_left hj, List.getElem?_eq_getElem hj])
    rw [if_neg (by omega)] at h1; exact h1
  · obtain ⟨j, hj, rfl⟩ := List.getElem_of_mem hq
    have h1 := h.2 (CA.length + (j + 2)) CD[j] (by rw [e, List.getElem?_append_right (by omega), Nat.add_sub_cancel_left]; show CD[j]? = _; rw [List.getElem?_eq_getElem hj])
    rw [if_neg (by omega)] at h1; exact h1
theorem Two.mend {N i d : Nat} {c c' : C} {A VA : List Str8} {CA : List C} {l : C} {K W : Str8} {r : C} {D VD : List Str8} {CD : List C} {l' r' : C} {K' W' : Str8} (h : Two c A VA CA l K W r D VD CD) (h' : Two c' A VA CA l' K' W' r' D VD CD) (hb : c'.b = c.b) (hok : Ok N (d + 2) c) (hx : MnX i (d + 2) c) (hi : i = A.length ∨ i = A.length + 1) (hl : Good d l') (hr : Good d r') (hl3 : 3 ≤ l'.ks.length) (hr3 : 3 ≤ r'.ks.length) (hio : io (d + 1) l ++ (K, W) :: io (d + 1) r = io (d + 1) l' ++ (K', W') :: io (d + 1) r') : Mended N d c c' := by
  have hs := hx.side h hi
  have e1 := h.ks; have e2 := h'.ks; have e4 := h'.cs
  refine ⟨hb, h.ok h' hok hl.ok hr.ok, ⟨⟨fun z => by rw [e4] at z; simp at z, fun z => by simp at z⟩, fun p hp => ?_⟩, ?_, by rw [e1, e2]; simp, by rw [e1, e2]; simp⟩
  · rw [e4] at hp
    simp only [List.mem_append, List.mem_cons] at hp
    rcases hp with z | rfl | rfl | z
    · exact hs p (.inl z)
    · exact ⟨hl3, hl.mn⟩
    · exact ⟨hr3, hr.mn⟩
    · exact hs p (.inr z)
  · rw [h'.ioe, h.ioe, hio]
theorem Two.joined {N i d : Nat} {c c' : C} {A VA : List Str8} {CA : List C} {l : C} {K W : Str8} {r : C} {D VD : List Str8} {CD : List C} {m : C} (h : Two c A VA CA l K W r D VD CD) (e2 : c'.ks = A ++ D) (e5 : c'.vs = VA ++ VD) (e4 : c'.cs = CA ++ m :: CD) (hb : c'.b = c.b) (hok : Ok N (d + 2) c) (hx : MnX i (d + 2) c) (hi : i = A.length ∨ i = A.length + 1) (hm : Good d m) (hm3 : 3 ≤ m.ks.length) (hio : io (d + 1) m = io (d + 1) l ++ (K, W) :: io (d + 1) r) : Mended N d c c' := by
  have hs := hx.side h hi
  have e1 := h.ks
  refine ⟨hb, h.okj e2 e5 e4 hok hm.ok, ⟨⟨fun z => by rw [e4] at z; simp at z, fun z => by simp at z⟩, fun p hp => ?_⟩, ?_, by rw [e1, e2]; simp; omega, by rw [e1, e2]; simp⟩
  · rw [e4] at hp
    simp only [List.mem_append, List.mem_cons] at hp
    rcases hp with z | rfl | z
    · exact hs p (.inl z)
    · exact ⟨hm3, hm.mn⟩
    · exact hs p (.inr z)
  · rw [h.ioe]
    show ioL (io (d + 1)) c'.ks c'.vs c'.cs = _
    rw [e2, e5, e4, io_one (io (d + 1)) D VD CD m h.hd h.hcd A VA CA h.ha h.hca, hio]
theorem last_cut (l : List Str8) (h : 0 < l.length) : l = l.take (l.length - 1) ++ [l.getD (l.length - 1) []] := by
  have e : l.getD (l.length - 1) [] = l[l.length - 1]'(by omega) := by simp [List.getD, show l.length - 1 < l.length by omega]
  rw [e]
  conv => lhs; rw [← List.take_append_drop (l.length - 1) l, List.drop_eq_getElem_cons (show l.length - 1 < l.length by omega), List.drop_of_length_le (by omega)]
theorem first_cut (l : List Str8) (h : 0 < l.length) : l = l.getD 0 [] :: l.drop 1 := by
  cases l with
  | nil => simp at h
  | cons a l => rfl
theorem left_mend {N d : Nat} {c c' : C} {A VA : List Str8} {CA : List C} {l : C} {K W : Str8} {k : C} {D VD : List Str8} {CD : List C} {l' k' : C} (h : Two c A VA CA l K W k D VD CD) (h' : Two c' A VA CA l' (l.ks.getD (l.ks.length - 1) []) (l.vs.getD (l.ks.length - 1) []) k' D VD CD) (hb : c'.b = c.b) (hok : Ok N (d + 2) c) (hx : MnX (A.length + 1) (d + 2) c) (hl : Good d l) (hk : Good d k) (h4 : 4 ≤ l.ks.length) (h2 : 2 ≤ k.ks.length) (h3 : k.ks.length < 3)
    (l1 : l'.ks = l.ks.take (l.ks.length - 1)) (l2 : l'.vs = l.vs.take (l.ks.length - 1)) (l3 : l'.cs = l.cs.take l.ks.length) (k1 : k'.ks = K :: k.ks) (k2 : k'.vs = W :: k.vs) (k3 : k'.cs = l.cs.drop l.ks.length ++ k.cs) : Mended N d c c' := by
  obtain ⟨p1, p2, p3, p4⟩ := hl
  obtain ⟨q1, q2, q3, q4⟩ := hk
  have c1 : (l.ks.take (l.ks.length - 1)).length = l.ks.length - 1 := by simp
  have c2 : (l.vs.take (l.ks.length - 1)).length = l.ks.length - 1 := by simp; omega
  have c3 : (l.cs.take l.ks.length).length = min l.ks.length l.cs.length := by simp
  have c4 : (l.cs.drop l.ks.length).length = l.cs.length - l.ks.length := by simp
  refine h.mend h' hb hok hx (.inr rfl) ⟨by rw [l1, l2]; omega, by rw [l1]; omega, ?_, fun p hp => p4 p (by rw [l3] at hp; exact List.mem_of_mem_take hp)⟩ ⟨by rw [k1, k2]; simp; omega, by rw [k1]; simp; omega, ?_, fun p hp => ?_⟩ (by rw [l1]; omega) (by rw [k1]; simp; omega) (left_io (LX := l.cs.drop l.ks.length) ?_ ?_ ?_ k1 k2 k3 (by rw [l1, l2]; omega) ?_)
  · rcases p3 with ⟨e, z⟩ | ⟨e, z⟩
    · exact .inl ⟨e, by rw [l3, z, List.take_nil]⟩
    · exact .inr ⟨e, by rw [l3, l1]; omega⟩
  · rcases p3 with ⟨e, z⟩ | ⟨e, z⟩
    · rcases q3 with ⟨_, y⟩ | ⟨e2, _⟩
      · exact .inl ⟨e, by rw [k3, z, y]; simp⟩
      · exact absurd e e2
    · rcases q3 with ⟨e2, _⟩ | ⟨_, y⟩
      · exact absurd e2 e
      · exact .inr ⟨e, by rw [k3, k1, List.length_append, c4]; simp; omega⟩
  · rw [k3] at hp
    rcases List.mem_append.1 hp with z | z
    · exact p4 p (List.mem_of_mem_drop z)
    · exact q4 p z
  · rw [l1]; exact last_cut _ (by omega)
  · rw [l2, ← p1]; exact last_cut _ (by omega)
  · rw [l3, List.take_append_drop]
  · rcases p3 with ⟨e, z⟩ | ⟨e, z⟩
    · rcases q3 with ⟨_, y⟩ | ⟨e2, _⟩
      · exact .inl ⟨by rw [l3, z, List.take_nil], by rw [z, List.drop_nil], y⟩
      · exact absurd e e2
    · exact .inr ⟨by rw [l3, l1]; omega, by omega⟩
theorem right_mend {N d : Nat} {c c' : C} {A VA : List Str8} {CA : List C} {k : C} {K W : Str8} {r : C} {D VD : List Str8} {CD : List C} {k' r' : C} (h : Two c A VA CA k K W r D VD CD) (h' : Two c' A VA CA k' (r.ks.getD 0 []) (r.vs.getD 0 []) r' D VD CD) (hb : c'.b = c.b) (hok : Ok N (d + 2) c) (hx : MnX A.length (d + 2) c) (hk : Good d k) (hr : Good d r) (h4 : 4 ≤ r.ks.length) (h2 : 2 ≤ k.ks.length) (h3 : k.ks.length < 3)
    (r1 : r'.ks = r.ks.drop 1) (r2 : r'.vs = r.vs.drop 1) (r3 : r'.cs = r.cs.drop 1) (k1 : k'.ks = k.ks ++ [K]) (k2 : k'.vs = k.vs ++ [W]) (k3 : k'.cs = k.cs ++ r.cs.take 1) : Mended N d c c' := by
  obtain ⟨p1, p2, p3, p4⟩ := hr
  obtain ⟨q1, q2, q3, q4⟩ := hk
  refine h.mend h' hb hok hx (.inl rfl) ⟨by rw [k1, k2]; simp; omega, by rw [k1]; simp; omega, ?_, fun p hp => ?_⟩ ⟨by rw [r1, r2]; simp; omega, by rw [r1]; simp; omega, ?_, fun p hp => p4 p (by rw [r3] at hp; exact List.mem_of_mem_drop hp)⟩ (by rw [k1]; simp; omega) (by rw [r1]; simp; omega) (Eq.symm (left_io (LX := r.cs.take 1) k1 k2 k3 (g1 := ?_) (g2 := ?_) (g3 := ?_) (by omega) ?_))
  · rcases q3 with ⟨e, z⟩ | ⟨e, z⟩
    · rcases p3 with ⟨_, y⟩ | ⟨e2, _⟩
      · exact .inl ⟨e, by rw [k3, z, y]; rfl⟩
      · exact absurd e e2
    · rcases p3 with ⟨e2, _⟩ | ⟨_, y⟩
      · exact absurd e2 e
      · exact .inr ⟨e, by rw [k3, k1]; simp; omega⟩
  · rw [k3] at hp
    rcases List.mem_append.1 hp with z | z
    · exact q4 p z
    · exact p4 p (List.mem_of_mem_take z)
  · rcases p3 with ⟨e, z⟩ | ⟨e, z⟩
    · exact .inl ⟨e, by rw [r3, z]; rfl⟩
    · exact .inr ⟨e, by rw [r3, r1]; simp; omega⟩
  · rw [r1]; exact first_cut _ (by omega)
  · rw [r2]; exact first_cut _ (by omega)
  · rw [r3, List.take_append_drop]
  · rcases q3 with ⟨e, z⟩ | ⟨e, z⟩
    · rcases p3 with ⟨_, y⟩ | ⟨e2, _⟩
      · exact .inl ⟨z, by rw [y]; rfl, by rw [r3, y]; rfl⟩
      · exact absurd e e2
    · rcases p3 with ⟨e2, _⟩ | ⟨_, y⟩
      · exact absurd e2 e
      · exact .inr ⟨z, by simp; omega⟩
theorem join_mend {N i d : Nat} {c c' : C} {A VA : List Str8} {CA : List C} {k : C} {K W : Str8} {r : C} {D VD : List Str8} {CD : List C} {m : C} (h : Two c A VA CA k K W r D VD CD) (e2 : c'.ks = A ++ D) (e5 : c'.vs = VA ++ VD) (e4 : c'.cs = CA ++ m :: CD) (hb : c'.b = c.b) (hok : Ok N (d + 2) c) (hx : MnX i (d + 2) c) (hi : i = A.length ∨ i = A.length + 1) (hk : Good d k) (hr : Good d r) (h2 : 2 ≤ k.ks.length + r.ks.length) (h6 : k.ks.length + r.ks.length ≤ 6)
    (m1 : m.ks = k.ks ++ K :: r.ks) (m2 : m.vs = k.vs ++ W :: r.vs) (m3 : m.cs = k.cs ++ r.cs) : Mended N d c c' := by
  obtain ⟨p1, p2, p3, p4⟩ := hr
  obtain ⟨q1, q2, q3, q4⟩ := hk
  refine h.joined e2 e5 e4 hb hok hx hi ⟨by rw [m1, m2]; simp; omega, by rw [m1]; simp; omega, ?_, fun p hp => ?_⟩ (by rw [m1]; simp; omega) (join_io m1 m2 m3 q1 ?_)
  · rcases q3 with ⟨e, z⟩ | ⟨e, z⟩
    · rcases p3 with ⟨_, y⟩ | ⟨e2, _⟩
      · exact .inl ⟨e, by rw [m3, z, y]; rfl⟩
      · exact absurd e e2
    · rcases p3 with ⟨e2, _⟩ | ⟨_, y⟩
      · exact absurd e2 e
      · exact .inr ⟨e, by rw [m3, m1]; simp; omega⟩
  · rw [m3] at hp
    rcases List.mem_append.1 hp with z | z
    · exact q4 p z
    · exact p4 p z
  · rcases q3 with ⟨e, z⟩ | ⟨e, z⟩
    · rcases p3 with ⟨_, y⟩ | ⟨e2, _⟩
      · exact .inl ⟨z, y⟩
      · exact absurd e e2
    · exact .inr z

end BtX
end Go.Proofs.YtdidpocakipinaaGreatDoor

/-
  Put: what the node has behind it.
-/
namespace Go.Proofs.YtdidpocakipinaaGreatDoor
open Go.SL Go.RowKit
set_option linter.unusedVariables false
set_option linter.unusedSimpArgs false
set_option maxRecDepth 100000
open Ke1 Ke3 Ke4 Ke5 Ke6 Ke7 Ke8 Ke9 KeA KeB KeC KeD KeE KeF KeG KeI RgA BtB BtC BtD BtE BtG BtX
namespace BtH


theorem keys_sub (f : C → List (Str8 × Str8)) : ∀ (ks vs : List Str8) (cs : List C), vs.length = ks.length → ks.Sublist ((ioL f ks vs cs).map (·.1)) := by
  intro ks
  induction ks with
  | nil => intro vs cs _; exact List.nil_sublist _
  | cons k ks ih =>
    intro vs cs h
    cases vs with
    | nil => simp at h
    | cons v vs =>
      have h' : vs.length = ks.length := by simpa using h
      cases cs with
      | nil => exact (ih vs [] h').cons_cons k
      | cons c cs =>
        show (k :: ks).Sublist ((f c ++ (k, v) :: ioL f ks vs cs).map (·.1))
        rw [List.map_append]
        exact ((ih vs cs h').cons_cons k).trans (List.sublist_append_right _ _)
theorem srt_of {N d : Nat} {c : C} (hok : Ok N (d + 1) c) (ho : Ord (io (d + 1) c)) : Srt c.ks := by
  have h1 := keys_sub (io d) c.ks c.vs c.cs hok.1
  have h2 : ((ioL (io d) c.ks c.vs c.cs).map (·.1)).Pairwise (fun a b => bless a b = true) := List.pairwise_map.2 ho
  exact h2.sublist h1
/-- all that stands beside the kid below which k belongs -/
theorem around {N d : Nat} {c : C} {k : Str8} (hok : Ok N (d + 1) c) (ho : Ord (io (d + 1) c)) (hk : k ∉ c.ks) (hi : lb c.ks k < c.cs.length) (hc : c.cs.length = c.ks.length + 1) :
    let P := preL (io d) (c.ks.take (lb c.ks k)) (c.vs.take (lb c.ks k)) (c.cs.take (lb c.ks k))
    let Q := posL (io d) (c.ks.drop (lb c.ks k)) (c.vs.drop (lb c.ks k)) (c.cs.drop (lb c.ks k + 1))
    io (d + 1) c = P ++ (io d c.cs[lb c.ks k] ++ Q) ∧ (∀ p ∈ P, bless p.1 k = true) ∧ (∀ q ∈ Q, bless k q.1 = true) := by
  intro P Q
  have hs := srt_of hok ho
  have hv := hok.1
  obtain ⟨g1, g2⟩ := lb_spec (t := k) hs
  have e : io (d + 1) c = P ++ (io d c.cs[lb c.ks k] ++ Q) := io_split (io d) _ c.ks c.vs c.cs hi hv hc
  rw [e] at ho
  refine ⟨e, ?_, ?_⟩
  · have hoP := Ord.left ho
    intro p hp
    cases hl : lb c.ks k with
    | zero =>
      have : P = [] := by show preL _ (c.ks.take (lb c.ks k)) _ _ = []; rw [hl]; rfl
      rw [this] at hp; cases hp
    | succ i =>
      have hik : i < c.ks.length := by omega
      have eP : P = preL (io d) (c.ks.take i) (c.vs.take i) (c.cs.take i) ++ (io d (c.cs[i]'(by omega)) ++ [(c.ks[i], c.vs[i]'(by omega))]) := by
        show preL _ (c.ks.take (lb c.ks k)) (c.vs.take (lb c.ks k)) (c.cs.take (lb c.ks k)) = _
        rw [hl]; exact pre_last (io d) i c.ks c.vs c.cs hik (by omega) (by omega)
      have hki := g1 i hik (by omega)
      rw [eP, ← List.append_assoc] at hp hoP
      rcases List.mem_append.1 hp with hp | hp
      · exact bless_trans (Ord.cross hoP p hp (c.ks[i], c.vs[i]'(by omega)) (by simp)) hki
      · have : p = (c.ks[i], c.vs[i]'(by omega)) := by simpa using hp
        rw [this]; exact hki
  · have hoQ := Ord.right (Ord.right ho)
    intro q hq
    by_cases hl : lb c.ks k < c.ks.length
    · have eQ : Q = (c.ks[lb c.ks k], c.vs[lb c.ks k]'(by omega)) :: _ := pos_first (io d) hl (by omega) (by omega)
      have hkl : bless k c.ks[lb c.ks k] = true := by
        cases hb : bless k c.ks[lb c.ks k] with
        | true => rfl
        | false => exact absurd (by rw [← bless_total (g2 hl) hb]; exact List.getElem_mem hl) hk
      rw [eQ] at hq hoQ
      rcases List.mem_cons.1 hq with rfl | hq
      · exact hkl
      · exact bless_trans hkl ((List.pairwise_cons.1 hoQ).1 q hq)
    · have : Q = [] := by show posL _ (c.ks.drop (lb c.ks k)) _ _ = []; rw [List.drop_of_length_le (by omega)]; cases c.vs.drop (lb c.ks k) <;> rfl
      rw [this] at hq; cases hq
def PutR (N d : Nat) (c : C) (k v : Str8) (c' : C) (r : Value) : Prop := Ok N (d + 1) c' ∧ io (d + 1) c' = insP k v (io (d + 1) c) ∧ r = .bool (!decide (k ∈ (io (d + 1) c).map (·.1))) ∧ (Mn (d + 1) c → Mn (d + 1) c') ∧ c.ks.length ≤ c'.ks.length
theorem put_deep {N d : Nat} {c kid2 : C} {k v : Str8} {r : Value} (hok : Ok N (d + 2) c) (ho : Ord (io (d + 2) c)) (hk : k ∉ c.ks) (hi : lb c.ks k < c.cs.length) (hc : c.cs.length = c.ks.length + 1) (hkr : PutR 7 d c.cs[lb c.ks k] k v kid2 r) :
    PutR N (d + 1) c k v (.mk c.b c.Ak c.ck c.Av c.cv c.Ac c.cc c.ks c.vs (c.cs.set (lb c.ks k) kid2)) r := by
  obtain ⟨e, hP, hQ⟩ := around hok ho hk hi hc
  obtain ⟨k1, k2, k3, k4, k5⟩ := hkr
  refine ⟨⟨hok.1, hok.2.1, .inr (by show (c.cs.set _ _).length = _; rw [List.length_set]; exact hc), fun p hp => ?_⟩, ?_, ?_, fun hm => ?_, Nat.le_refl _⟩
  · rcases List.mem_or_eq_of_mem_set hp with h | rfl
    · exact hok.2.2.2 p h
    · exact k1
  · have e2 := io_split (io (d + 1)) (lb c.ks k) c.ks c.vs (c.cs.set (lb c.ks k) kid2) (by rw [List.length_set]; exact hi) hok.1 (by rw [List.length_set]; exact hc)
    show ioL (io (d + 1)) c.ks c.vs (c.cs.set (lb c.ks k) kid2) = _
    rw [e2, e, insP_below hP, insP_above hQ, List.getElem_set_self, k2, List.take_set_of_le (by omega), List.drop_set_of_lt (by omega)]
  · rw [k3, e]
    congr 2
    refine decide_eq_decide.2 ⟨fun h => ?_, fun h => ?_⟩
    · rw [List.map_append, List.map_append]; simp [h]
    · rw [List.map_append, List.map_append] at h
      simp only [List.mem_append] at h
      rcases h with h | h | h
      · obtain ⟨p, hp, rfl⟩ := List.mem_map.1 h
        have := hP p hp; rw [bless_irrefl] at this; cases this
      · exact h
      · obtain ⟨p, hp, rfl⟩ := List.mem_map.1 h
        have := hQ p hp; rw [bless_irrefl] at this; cases this
  · refine ⟨?_, fun p hp => ?_⟩
    · show c.cs.set _ _ = [] ↔ _
      rw [List.set_eq_nil_iff]; exact hm.1
    · rcases List.mem_or_eq_of_mem_set hp with h | rfl
      · exact hm.2 p h
      · have h9 := hm.2 _ (List.getElem_mem hi)
        exact ⟨by have := h9.1; omega, k4 h9.2⟩
end BtH
end Go.Proofs.YtdidpocakipinaaGreatDoor

/-
  Put: a leaf, a key that is there.
-/
namespace Go.Proofs.YtdidpocakipinaaGreatDoor
open Go.SL Go.RowKit
set_option linter.unusedVariables false
set_option linter.unusedSimpArgs false
set_option maxRecDepth 100000
open Ke1 Ke3 Ke4 Ke5 Ke6 Ke7 Ke8 Ke9 KeA KeB KeC KeD KeE KeF KeG KeI RgA BtB BtC BtD BtE BtG BtH BtX
namespace BtI


theorem zip_below {ks vs : List Str8} {k : Str8} (hs : Srt ks) : ∀ p ∈ (ks.take (lb ks k)).zip (vs.take (lb ks k)), bless p.1 k = true := by
  intro p hp
  have h1 : p.1 ∈ ks.take (lb ks k) := (List.of_mem_zip (show (p.1, p.2) ∈ _ from hp)).1
  obtain ⟨j, hj, e⟩ := List.getElem_of_mem h1
  rw [List.length_take] at hj
  rw [← e, List.getElem_take]
  exact (lb_spec hs).1 j (by omega) (by omega)
theorem above_lb {ks : List Str8} {k : Str8} (hs : Srt ks) (hk : k ∉ ks) : ∀ x ∈ ks.drop (lb ks k), bless k x = true := by
  intro x hx
  obtain ⟨j, hj, e⟩ := List.getElem_of_mem hx
  rw [List.length_drop] at hj
  rw [List.getElem_drop] at e
  have hl : lb ks k < ks.length := by omega
  have h0 := (lb_spec hs).2 hl
  have hkl : bless k ks[lb ks k] = true := by
    cases hb : bless k ks[lb ks k] with
    | true => rfl
    | false => exact absurd (by rw [← bless_total h0 hb]; exact List.getElem_mem hl) hk
  rw [← e]
  cases j with
  | zero => exact hkl
  | succ j => exact bless_trans hkl (hs.lt (by omega) (by omega))
theorem zip_above {ks vs : List Str8} {k : Str8} (hs : Srt ks) (hk : k ∉ ks) : ∀ p ∈ (ks.drop (lb ks k)).zip (vs.drop (lb ks k)), bless k p.1 = true := fun p hp =>
  above_lb hs hk p.1 (List.of_mem_zip (show (p.1, p.2) ∈ _ from hp)).1
theorem zip_cut {ks vs : List Str8} (i : Nat) (h : vs.length = ks.length) : ks.zip vs = (ks.take i).zip (vs.take i) ++ (ks.drop i).zip (vs.drop i) := by
  rw [← List.zip_append (by simp [h]), List.take_append_drop, List.take_append_drop]
theorem zip_keys {ks vs : List Str8} (h : vs.length = ks.length) : (ks.zip vs).map (·.1) = ks := List.map_fst_zip (by omega)
theorem put_leaf {N d b ck cv cc ck2 cv2 : Nat} {Ak Av Ac Ak2 Av2 : Option Addr} {ks vs : List Str8} {k v : Str8} (hok : Ok N (d + 1) (.mk b Ak ck Av cv Ac cc ks vs [])) (hs : Srt ks) (hk : k ∉ ks) (h7 : ks.length < N) :
    PutR N d (.mk b Ak ck Av cv Ac cc ks vs []) k v (.mk b Ak2 ck2 Av2 cv2 Ac cc (ks.take (lb ks k) ++ [k] ++ ks.drop (lb ks k)) (vs.take (lb ks k) ++ [v] ++ vs.drop (lb ks k)) []) (.bool true) := by
  have hv : vs.length = ks.length := hok.1
  have e0 : io (d + 1) (.mk b Ak ck Av cv Ac cc ks vs []) = ks.zip vs := io_leaf (io d) ks vs hv
  refine ⟨⟨?_, ?_, .inl rfl, fun p hp => by cases hp⟩, ?_, ?_, fun hm => ⟨⟨fun _ => hm.1.1 rfl, fun _ => rfl⟩, fun p hp => by cases hp⟩, by show ks.length ≤ (ks.take _ ++ [k] ++ ks.drop _).length; simp; omega⟩
  · show (vs.take _ ++ [v] ++ vs.drop _).length = (ks.take _ ++ [k] ++ ks.drop _).length
    simp; omega
  · show (ks.take _ ++ [k] ++ ks.drop _).length ≤ N
    simp; omega
  · have hv2 : (vs.take (lb ks k) ++ [v] ++ vs.drop (lb ks k)).length = (ks.take (lb ks k) ++ [k] ++ ks.drop (lb ks k)).length := by simp; omega
    have e1 : io (d + 1) (.mk b Ak2 ck2 Av2 cv2 Ac cc (ks.take (lb ks k) ++ [k] ++ ks.drop (lb ks k)) (vs.take (lb ks k) ++ [v] ++ vs.drop (lb ks k)) []) = (ks.take (lb ks k) ++ [k] ++ ks.drop (lb ks k)).zip (vs.take (lb ks k) ++ [v] ++ vs.drop (lb ks k)) := io_leaf (io d) _ _ hv2
    rw [e0, e1, zip_cut (lb ks k) hv, insP_below (zip_below hs)]
    have e2 : insP k v ((ks.drop (lb ks k)).zip (vs.drop (lb ks k))) = (k, v) :: (ks.drop (lb ks k)).zip (vs.drop (lb ks k)) := insP_above (a := []) (zip_above hs hk)
    rw [e2, List.append_assoc, List.append_assoc, List.zip_append (by simp [hv])]
    rfl
  · rw [e0, zip_keys hv, decide_eq_false hk]; rfl
theorem put_found {N d b ck cv cc : Nat} {Ak Av Ac : Option Addr} {ks vs : List Str8} {cs : List C} {k v : Str8} (hok : Ok N (d + 1) (.mk b Ak ck Av cv Ac cc ks vs cs)) (ho : Ord (io (d + 1) (.mk b Ak ck Av cv Ac cc ks vs cs))) (hs : Srt ks) (hk : k ∈ ks) (hl : lb ks k < ks.length) (hat : ks[lb ks k] = k) :
    PutR N d (.mk b Ak ck Av cv Ac cc ks vs cs) k v (.mk b Ak ck Av cv Ac cc ks (vs.set (lb ks k) v) cs) (.bool false) := by
  have hv : vs.length = ks.length := hok.1
  have hcs : cs = [] ∨ cs.length = ks.length + 1 := hok.2.2.1
  have hv3 : ∀ v, (vs.set (lb ks k) v).length = ks.length := fun v => by rw [List.length_set]; exact hv
  refine ⟨⟨by show (vs.set _ _).length = _; rw [List.length_set]; exact hv, hok.2.1, hok.2.2.1, hok.2.2.2⟩, ?_, ?_, fun hm => hm, Nat.le_refl _⟩
  · rcases hcs with rfl | hc
    · have e0 : io (d + 1) (.mk b Ak ck Av cv Ac cc ks vs []) = ks.zip vs := io_leaf (io d) ks vs hv
      have e1 : io (d + 1) (.mk b Ak ck Av cv Ac cc ks (vs.set (lb ks k) v) []) = ks.zip (vs.set (lb ks k) v) := io_leaf (io d) ks (vs.set (lb ks k) v) (hv3 v)
      rw [e0, e1, zip_cut (lb ks k) hv, zip_cut (lb ks k) (by rw [List.length_set]; exact hv), insP_below (zip_below hs), List.take_set_of_le (by omega), List.drop_eq_getElem_cons hl, List.drop_eq_getElem_cons (l := vs) (by omega), List.drop_eq_getElem_cons (l := vs.set _ _) (by rw [List.length_set]; omega), List.getElem_set_self, List.drop_set_of_lt (by omega)]
      simp only [List.zip_cons_cons, hat]
      rw [insP_at]
    · have hlv : lb ks k < vs.length := by omega
      have e0 := io_split (io d) (lb ks k) ks vs cs (by omega) hv hc
      have e1 := io_split (io d) (lb ks k) ks (vs.set (lb ks k) v) cs (by omega) (by rw [List.length_set]; exact hv) hc
      rw [pos_first (io d) hl hlv (by omega)] at e0
      rw [pos_first (io d) hl (by rw [List.length_set]; omega) (by omega), List.take_set_of_le (by omega), List.drop_set_of_lt (by omega), List.getElem_set_self] at e1
      have ho' : Ord (ioL (io d) ks vs cs) := ho
      rw [e0, ← List.append_assoc] at ho'
      show ioL (io d) ks (vs.set (lb ks k) v) cs = insP k v (ioL (io d) ks vs cs)
      rw [e0, e1, ← List.append_assoc, ← List.append_assoc, hat, insP_below (fun p hp => by have := Ord.cross ho' p hp (ks[lb ks k], vs[lb ks k]) (by simp); rw [hat] at this; exact this), insP_at]
  · have h1 := (keys_sub (io d) ks vs cs hv).subset hk
    have h2 : k ∈ (io (d + 1) (.mk b Ak ck Av cv Ac cc ks vs cs)).map (·.1) := h1
    rw [decide_eq_true h2]; rfl
end BtI
end Go.Proofs.YtdidpocakipinaaGreatDoor

/-
  Put into a node: one step.
-/
namespace Go.Proofs.YtdidpocakipinaaGreatDoor
open Go.SL Go.RowKit
set_option linter.unusedVariables false
set_option linter.unusedSimpArgs false
set_option maxRecDepth 100000
open Ke1 Ke3 Ke4 Ke5 Ke6 Ke7 Ke8 Ke9 KeA KeB KeC KeD KeE KeF KeG KeI RgA BtB BtC BtD BtE BtG BtH BtI BtX
namespace BtF
theorem sz9 : (Tryz.prog.info? 9).map (·.size) = some 1 := by kernel_rfl
theorem sz23 : (Tryz.prog.info? 23).map (·.size) = some 1 := by kernel_rfl
theorem sz110 : (Tryz.prog.info? 110).map (·.size) = some 1 := by kernel_rfl
theorem ti9 : TI Tryz.prog 9 [str []] 1 16 := TI.of (by kernel_rfl) rfl rfl
theorem fo113_0 : FO Tryz.prog 113 0 0 1 false := FO.of Tryz.underlying113 rfl rfl (by kernel_rfl) Tryz.underlying23 rfl rfl
theorem fo113_1 : FO Tryz.prog 113 1 1 1 false := FO.of Tryz.underlying113 rfl rfl (by kernel_rfl) Tryz.underlying23 rfl rfl
theorem fo113_2 : FO Tryz.prog 113 2 2 1 false := FO.of Tryz.underlying113 rfl rfl (by kernel_rfl) Tryz.underlying111 rfl rfl

def PutQ (N d : Nat) (c : C) (k v : Str8) (B : Frag) (r : Value) (B' : Frag) (H' : HP) : Prop := B' = B ∧ ∃ c', H' = tr (d + 1) c' ∧ c'.b = c.b ∧ PutR N d c k v c' r
abbrev PutC (N d : Nat) (c : C) (k v : Str8) (B : Frag) : Prop := Ct Tryz.prog 63 [.pointer (some ⟨c.b, 0, none⟩), str k, str v] B (tr (d + 1) c) (PutQ N d c k v B)
theorem set_str {vs : List Str8} {sp : List Value} {i : Nat} {v : Str8} (h : i < vs.length) : (vs.map str ++ sp).set (0 + i * 1) (str v) = (vs.set i v).map str ++ sp := by
  rw [Nat.zero_add, Nat.mul_one, List.set_append_left _ _ (by simpa using h), List.map_set]
theorem kid_at {cs : List C} {i : Nat} (h : i < cs.length) : ((cs.map pt).drop (0 + i * 1)).take 1 = [.pointer (some ⟨cs[i].b, 0, none⟩)] := by
  rw [Nat.zero_add, Nat.mul_one, take1 _ (by simpa using h)]; simp [pt]
theorem tr_succ (d : Nat) (c : C) : tr (d + 1) c = nrow c * (kbuf c * (vbuf c * (cbuf c * trs (tr d) c.cs))) := rfl
theorem pts_set {cs : List C} {i : Nat} {kid2 : C} {h : i < cs.length} (hb : kid2.b = cs[i].b) : (cs.set i kid2).map pt = cs.map pt := by
  rw [List.map_set]
  have e : pt kid2 = (cs.map pt)[i]'(by simpa using h) := by simp [pt, hb]
  rw [e, List.set_getElem_self]
theorem trs_set (f : C → HP) {cs : List C} {i : Nat} {kid2 : C} (h : i < cs.length) : trs f (cs.set i kid2) = f kid2 * (trs f (cs.take i) * trs f (cs.drop (i + 1))) := by
  rw [trs_at f (cs.set i kid2) i (by rw [List.length_set]; exact h), List.getElem_set_self, List.take_set_of_le (by omega), List.drop_set_of_lt (by omega)]
theorem under {N0 : Nat} {B : Frag} {y H : HP} {b o : Nat} {vs : List Value} (h : Cells N0 B H b o vs) : Cells N0 B (y * H) b o vs := fun w s => h w s.drop
theorem kid_keys {N0 d : Nat} {B : Frag} {R : HP} {cs : List C} {i : Nat} (h : i < cs.length) : Cells N0 B (trs (tr (d + 1)) cs * R) cs[i].b (0 + 0) [.slice cs[i].Ak cs[i].ks.length cs[i].ck] := by
  rw [trs_at _ _ _ h, tr_succ, star_assoc, star_assoc]
  exact Cells.own (n := 1) rfl rfl
theorem fold_tr {d b ck cv cc : Nat} {Ak Av Ac : Option Addr} {ks vs : List Str8} {cs : List C} {R : HP} : sbuf 9 1 Ak ks.length ck (ks.map str) * (row b 113 [.slice Ak ks.length ck, .slice Av vs.length cv, .slice Ac cs.length cc] * (sbuf 9 1 Av vs.length cv (vs.map str) * (sbuf 110 1 Ac cs.length cc (cs.map pt) * (trs (tr d) cs * R)))) = tr (d + 1) (.mk b Ak ck Av cv Ac cc ks vs cs) * R := by
  rw [tr_succ]
  simp only [nrow, kbuf, vbuf, cbuf, ncells, C.b, C.Ak, C.ck, C.Av, C.cv, C.Ac, C.cc, C.ks, C.vs, C.cs]
  ac_rfl
theorem fold_kid {d i : Nat} {cs : List C} {p q r s R : HP} (h : i < cs.length) : p * (q * (r * (s * (trs (tr d) cs * R)))) = tr d cs[i] * (p * (q * (r * (s * (trs (tr d) (cs.take i) * (trs (tr d) (cs.drop (i + 1)) * R)))))) := by
  rw [trs_at _ _ _ h]; ac_rfl

set_option maxHeartbeats 4000000 in
theorem put_step (N d : Nat) (hN : N ≤ 90) (c : C) (k v : Str8) (B : Frag) (hok : Ok N (d + 1) c) (ho : Ord (io (d + 1) c)) (hsk : Srt c.ks) (hl7 : c.cs = [] → c.ks.length < N) (ih : ∀ (h : lb c.ks k < c.cs.length), k ∉ c.ks → c.cs[lb c.ks k].ks.length ≠ 7 → ∃ d2, d = d2 + 1 ∧ PutC 7 d2 c.cs[lb c.ks k] k v B) (again : ∀ (h : lb c.ks k < c.cs.length), k ∉ c.ks → c.cs[lb c.ks k].ks.length = 7 → ∀ c', Halved c (lb c.ks k) c.cs[lb c.ks k] c' → Ct Tryz.prog 63 [.pointer (some ⟨c.b, 0, none⟩), str k, str v] B (tr (d + 1) c') (PutQ N d c k v B)) : PutC N d c k v B := by
  have hlbn : lb c.ks k ≤ c.ks.length := lb_le _ _
  have hvl := hok.1
  have hcl := hok.2.2.1
  have h7 := hok.2.1
  obtain ⟨b, Ak, ck, Av, cv, Ac, cc, ks, vs, cs⟩ := c
  unfold PutC
  simp only [C.b, C.ks, C.vs, C.cs] at h7 hl7 hlbn hvl hcl hsk ih again ⊢
  refine Ct.of_body Tryz.func63 rfl (nt := 83) rfl (by kernel_rfl) rfl ?_
  intro N0 w0 R
  rw [tr_succ]
  simp only [star_assoc, nrow, kbuf, vbuf, cbuf, ncells, C.b, C.Ak, C.ck, C.Av, C.cv, C.Ac, C.cc, C.ks, C.vs, C.cs]
  refine Cx.seq (fun K1 k1 => ?_)
  refine Cx.region ?_
  refine Lx.y (asg rfl) rfl ?_
  refine Lx.nil ?_
  refine Xx.tn (k1 _ _ _ _ ?_)
  refine Cx.seq (fun K2 k2 => ?_)
  refine Cx.region ?_
  refine Lx.y (mv rfl) rfl ?_
  refine Lx.y (nilc rfl) rfl ?_
  refine Lx.y (fa' fo113_0 rfl) rfl ?_
  refine Lx.y (ld Tryz.underlying23 rfl rfl rfl) rfl ?_
  refine Lx.y (mv rfl) rfl ?_
  refine Lx.co rfl rfl rfl (BSo_ct ks k Ak ck ks.length _ rfl hsk (by omega)) (pickS _) rfl ?_
  refine Lx.y (mv rfl) rfl ?_
  refine Lx.y (ext rfl rfl) rfl ?_
  refine Lx.y (ext rfl rfl) rfl ?_
  refine Lx.y (asg rfl) rfl ?_
  refine Lx.y (asg rfl) rfl ?_
  refine Lx.nil ?_
  refine Xx.tn (k2 _ _ _ _ ?_)
  refine Cx.seq (fun K3 k3 => ?_)
  refine Cx.seq (fun K4 k4 => ?_)
  refine Cx.region ?_
  refine Lx.y (mv rfl) rfl ?_
  refine Lx.nil ?_
  refine Xx.tn (k4 _ _ _ _ ?_)
  refine Cx.condB rfl (fun h5 => ?_) (fun h5 => ?_)
  · skip
    have hin : k ∈ ks := of_decide_eq_true h5
    obtain ⟨hlt, hat⟩ := lb_mem hsk hin
    refine Cx.seq (fun K6 k6 => ?_)
    refine Xx.openT Av (by omega) (fun bV sp hAv hvx hvc hvcl => ?_)
    subst hAv
    refine Cx.region ?_
    refine Lx.y (mv rfl) rfl ?_
    refine Lx.y (nilc rfl) rfl ?_
    refine Lx.y (fa' fo113_1 rfl) rfl ?_
    refine Lx.y (ld Tryz.underlying23 rfl rfl rfl) rfl ?_
    refine Lx.y (mv rfl) rfl ?_
    refine Lx.y (mv rfl) rfl ?_
    refine Lx.y (ia Tryz.underlying23 sz9 rfl rfl (Int.toNat_natCast _) (by omega) (by omega)) rfl ?_
    refine Lx.st (stO Tryz.underlying9 sz9 rfl rfl rfl (by rw [List.length_append, List.length_map]; omega) (frc_gen _ _)) ?_
    refine Lx.nil ?_
    refine Xx.tn (k6 _ _ _ _ ?_)
    refine Cx.seq (fun K7 k7 => ?_)
    refine Xx.closeT bV ((vs.set (lb ks k) v).map str) sp 1 vs.length cv (set_str (by omega)) (by simp) hvc (by rw [List.length_append, List.length_map, List.length_set]; rw [List.length_append, List.length_map] at hvcl; exact hvcl) ?_
    refine Cx.region ?_
    refine Lx.y (asg rfl) rfl ?_
    refine Lx.nil ?_
    refine Xx.tn (k7 _ _ _ _ ?_)
    refine Cx.ret ?_
    refine Xx.tr ?_
    exact Xx.ret1 rfl rfl ⟨rfl, .mk b Ak ck (some ⟨bV, 0, none⟩) cv Ac cc ks (vs.set (lb ks k) v) cs, rfl, rfl, put_found hok ho hsk hin hlt hat⟩ (Frag.le_refl _) (by rw [tr_succ]; simp only [nrow, kbuf, vbuf, cbuf, ncells, C.b, C.Ak, C.ck, C.Av, C.cv, C.Ac, C.cc, C.ks, C.vs, C.cs, List.length_set]; ac_rfl)
  · skip
    have hin : k ∉ ks := of_decide_eq_false h5
    refine Cx.skip ?_
    refine Xx.tn (k3 _ _ _ _ ?_)
    refine Cx.seq (fun K8 k8 => ?_)
    refine Cx.seq (fun K9 k9 => ?_)
    refine Cx.region ?_
    refine Lx.y (mv rfl) rfl ?_
    refine Lx.y (nilc rfl) rfl ?_
    refine Lx.y (fa' fo113_2 rfl) rfl ?_
    refine Lx.y (ld Tryz.underlying111 rfl rfl rfl) rfl ?_
    refine Lx.y (lenV (ty' := 0) Tryz.underlying111 rfl) rfl ?_
    refine Lx.y (eqI rfl rfl) rfl ?_
    refine Lx.nil ?_
    refine Xx.tn (k9 _ _ _ _ ?_)
    refine Cx.condD rfl (fun h10 => ?_) (fun h10 => ?_)
    · skip
      have hz := h10
      have hc0 : cs = [] := List.length_eq_zero_iff.1 (by omega)
      subst hc0
      have hm1 : (ks.take (lb ks k) ++ [k] ++ ks.drop (lb ks k)).length = ks.length + 1 := by simp; omega
      have hm2 : (vs.take (lb ks k) ++ [v] ++ vs.drop (lb ks k)).length = vs.length + 1 := by simp; omega
      refine Cx.seq (fun K11 k11 => ?_)
      refine Cx.drawn (by kernel_rfl) ?_
      refine Dx.p (i := 0) rfl (by kernel_rfl) (mv rfl) rfl ?_
      refine Dx.p (i := 1) rfl (by kernel_rfl) (mv rfl) rfl ?_
      refine Dx.p (i := 2) rfl (by kernel_rfl) (mv rfl) rfl ?_
      refine Dx.p (i := 3) rfl (by kernel_rfl) (nilc rfl) rfl ?_
      refine Dx.p (i := 4) rfl (by kernel_rfl) (fa' fo113_0 rfl) rfl ?_
      refine Dx.r (i := 5) rfl (by kernel_rfl) (ld Tryz.underlying23 rfl rfl rfl) rfl ?_
      refine Dx.p (i := 6) rfl (by kernel_rfl) (mv rfl) rfl ?_
      refine Dx.p (i := 7) rfl (by kernel_rfl) (mv rfl) rfl ?_
      refine Dx.p (i := 10) rfl (by kernel_rfl) (mv rfl) rfl ?_
      refine Dx.p (i := 11) rfl (by kernel_rfl) (nilc rfl) rfl ?_
      refine Dx.p (i := 12) rfl (by kernel_rfl) (fa' fo113_1 rfl) rfl ?_
      refine Dx.r (i := 13) rfl (by kernel_rfl) (ld Tryz.underlying23 rfl rfl rfl) rfl ?_
      refine Dx.p (i := 14) rfl (by kernel_rfl) (mv rfl) rfl ?_
      refine Dx.p (i := 15) rfl (by kernel_rfl) (mv rfl) rfl ?_
      refine Dx.two (i := 8) (j := 16) (by kernel_rfl) ?_ ?_
      · skip
        refine Dstep.o (i := 8) rfl (bsl1 Tryz.underlying23 ti9 rfl rfl rfl (by decide)) rfl (fun v B' H' hΦ hB => ?_)
        obtain ⟨b68, rfl, rfl, rfl⟩ := hΦ; clear hB
        refine ⟨JOk.yes (JOk.yes (JOk.top) (ld Tryz.underlying23 rfl rfl rfl)) (ld Tryz.underlying23 rfl rfl rfl), ?_⟩
        refine Dx.two (i := 9) (j := 16) (by kernel_rfl) ?_ ?_
        · skip
          refine Dstep.o (i := 9) rfl (Ox.call rfl rfl rfl (InsS_ct Ak (lb ks k) ks.length ck (ks.map str) b68 9 [str k] _ (by omega) (by rw [List.length_map]; omega) (strs_all _) rfl rfl (by omega)) (pickSB _ _)) rfl (fun v B' H' hΦ hB => ?_)
          obtain ⟨_, rfl, hΦ⟩ := hΦ
          obtain ⟨Ak9, ck9, rfl, hBB, rfl, ⟨_, hAck9⟩, hck9⟩ := hΦ
          subst hBB
          rename Frag => B
          clear hB
          refine ⟨JOk.yes (JOk.edge (JOk.top) (by kernel_rfl)) (ld Tryz.underlying23 rfl rfl rfl), ?_⟩
          refine Dx.one (i := 16) (by kernel_rfl) ?_
          refine Dstep.o (i := 16) rfl (bsl1 Tryz.underlying23 ti9 rfl rfl rfl (by decide)) rfl (fun v B' H' hΦ hB => ?_)
          obtain ⟨b616, rfl, rfl, rfl⟩ := hΦ; clear hB
          refine ⟨JOk.yes (JOk.yes (JOk.top) (ld Tryz.underlying23 rfl rfl rfl)) (ld Tryz.underlying23 rfl rfl rfl), ?_⟩
          refine Dx.one (i := 17) (by kernel_rfl) ?_
          refine Dstep.o (i := 17) rfl (Ox.call rfl rfl rfl (InsS_ct Av (lb ks k) vs.length cv (vs.map str) b616 9 [str v] _ (by omega) (by rw [List.length_map]; omega) (strs_all _) rfl rfl (by omega)) (pickSB _ _)) rfl (fun v B' H' hΦ hB => ?_)
          obtain ⟨_, rfl, hΦ⟩ := hΦ
          obtain ⟨Av9, cv9, rfl, hBB, rfl, ⟨_, hAcv9⟩, hcv9⟩ := hΦ
          subst hBB
          rename Frag => B
          clear hB
          refine ⟨JOk.edge (JOk.yes (JOk.top) (ld Tryz.underlying23 rfl rfl rfl)) (by kernel_rfl), ?_⟩
          refine Dx.p (i := 18) rfl (by kernel_rfl) (nilc rfl) rfl ?_
          refine Dx.p (i := 19) rfl (by kernel_rfl) (fa' fo113_0 rfl) rfl ?_
          refine Dx.one (i := 20) (by kernel_rfl) ?_
          refine Dstep.o0 (i := 20) rfl (stO Tryz.underlying23 sz23 rfl rfl rfl (by simp) rfl) (fun v B' H' hΦ hB => ?_)
          obtain ⟨rfl, rfl⟩ := hΦ; clear hB v
          refine ⟨JOk.edge (JOk.edge (JOk.top) (by kernel_rfl)) (by kernel_rfl), ?_⟩
          refine Dx.p (i := 21) rfl (by kernel_rfl) (nilc rfl) rfl ?_
          refine Dx.p (i := 22) rfl (by kernel_rfl) (fa' fo113_1 rfl) rfl ?_
          refine Dx.one (i := 23) (by kernel_rfl) ?_
          refine Dstep.o0 (i := 23) rfl (stO Tryz.underlying23 sz23 rfl rfl rfl (by simp) rfl) (fun v B' H' hΦ hB => ?_)
          obtain ⟨rfl, rfl⟩ := hΦ; clear hB v
          refine ⟨JOk.edge (JOk.edge (JOk.top) (by kernel_rfl)) (by kernel_rfl), ?_⟩
          refine Dx.done (by kernel_rfl) ?_
          refine Xx.tn (k11 _ _ _ _ ?_)
          refine Cx.seq (fun K12 k12 => ?_)
          refine Cx.region ?_
          refine Lx.y (asg rfl) rfl ?_
          refine Lx.nil ?_
          refine Xx.tn (k12 _ _ _ _ ?_)
          refine Cx.ret ?_
          refine Xx.tr ?_
          exact Xx.ret1 rfl rfl ⟨rfl, .mk b Ak9 ck9 Av9 cv9 Ac cc (ks.take (lb ks k) ++ [k] ++ ks.drop (lb ks k)) (vs.take (lb ks k) ++ [v] ++ vs.drop (lb ks k)) [], rfl, rfl, put_leaf hok hsk hin (hl7 rfl)⟩ (Frag.le_refl _) (by rw [tr_succ]; simp only [nrow, kbuf, vbuf, cbuf, ncells, C.b, C.Ak, C.ck, C.Av, C.cv, C.Ac, C.cc, C.ks, C.vs, C.cs, hm1, hm2]; simp only [List.map_append, List.map_take, List.map_drop, List.map_cons, List.map_nil, Nat.mul_one]; ac_rfl)
        refine Dstep.o (i := 16) rfl (bsl1 Tryz.underlying23 ti9 rfl rfl rfl (by decide)) rfl (fun v B' H' hΦ hB => ?_)
        obtain ⟨b616, rfl, rfl, rfl⟩ := hΦ; clear hB
        refine ⟨JOk.yes (JOk.yes (JOk.top) (ld Tryz.underlying23 rfl rfl rfl)) (ld Tryz.underlying23 rfl rfl rfl), ?_⟩
        refine Dx.one (i := 9) (by kernel_rfl) ?_
        refine Dstep.o (i := 9) rfl (Ox.call rfl rfl rfl (InsS_ct Ak (lb ks k) ks.length ck (ks.map str) b68 9 [str k] _ (by omega) (by rw [List.length_map]; omega) (strs_all _) rfl rfl (by omega)) (pickSB _ _)) rfl (fun v B' H' hΦ hB => ?_)
        obtain ⟨_, rfl, hΦ⟩ := hΦ
        obtain ⟨Ak9, ck9, rfl, hBB, rfl, ⟨_, hAck9⟩, hck9⟩ := hΦ
        subst hBB
        rename Frag => B
        clear hB
        refine ⟨JOk.yes (JOk.edge (JOk.top) (by kernel_rfl)) (ld Tryz.underlying23 rfl rfl rfl), ?_⟩
        refine Dx.one (i := 17) (by kernel_rfl) ?_
        refine Dstep.o (i := 17) rfl (Ox.call rfl rfl rfl (InsS_ct Av (lb ks k) vs.length cv (vs.map str) b616 9 [str v] _ (by omega) (by rw [List.length_map]; omega) (strs_all _) rfl rfl (by omega)) (pickSB _ _)) rfl (fun v B' H' hΦ hB => ?_)
        obtain ⟨_, rfl, hΦ⟩ := hΦ
        obtain ⟨Av9, cv9, rfl, hBB, rfl, ⟨_, hAcv9⟩, hcv9⟩ := hΦ
        subst hBB
        rename Frag => B
        clear hB
        refine ⟨JOk.edge (JOk.yes (JOk.top) (ld Tryz.underlying23 rfl rfl rfl)) (by kernel_rfl), ?_⟩
        refine Dx.p (i := 18) rfl (by kernel_rfl) (nilc rfl) rfl ?_
        refine Dx.p (i := 19) rfl (by kernel_rfl) (fa' fo113_0 rfl) rfl ?_
        refine Dx.one (i := 20) (by kernel_rfl) ?_
        refine Dstep.o0 (i := 20) rfl (stO Tryz.underlying23 sz23 rfl rfl rfl (by simp) rfl) (fun v B' H' hΦ hB => ?_)
        obtain ⟨rfl, rfl⟩ := hΦ; clear hB v
        refine ⟨JOk.edge (JOk.edge (JOk.top) (by kernel_rfl)) (by kernel_rfl), ?_⟩
        refine Dx.p (i := 21) rfl (by kernel_rfl) (nilc rfl) rfl ?_
        refine Dx.p (i := 22) rfl (by kernel_rfl) (fa' fo113_1 rfl) rfl ?_
        refine Dx.one (i := 23) (by kernel_rfl) ?_
        refine Dstep.o0 (i := 23) rfl (stO Tryz.underlying23 sz23 rfl rfl rfl (by simp) rfl) (fun v B' H' hΦ hB => ?_)
        obtain ⟨rfl, rfl⟩ := hΦ; clear hB v
        refine ⟨JOk.edge (JOk.edge (JOk.top) (by kernel_rfl)) (by kernel_rfl), ?_⟩
        refine Dx.done (by kernel_rfl) ?_
        refine Xx.tn (k11 _ _ _ _ ?_)
        refine Cx.seq (fun K13 k13 => ?_)
        refine Cx.region ?_
        refine Lx.y (asg rfl) rfl ?_
        refine Lx.nil ?_
        refine Xx.tn (k13 _ _ _ _ ?_)
        refine Cx.ret ?_
        refine Xx.tr ?_
        exact Xx.ret1 rfl rfl ⟨rfl, .mk b Ak9 ck9 Av9 cv9 Ac cc (ks.take (lb ks k) ++ [k] ++ ks.drop (lb ks k)) (vs.take (lb ks k) ++ [v] ++ vs.drop (lb ks k)) [], rfl, rfl, put_leaf hok hsk hin (hl7 rfl)⟩ (Frag.le_refl _) (by rw [tr_succ]; simp only [nrow, kbuf, vbuf, cbuf, ncells, C.b, C.Ak, C.ck, C.Av, C.cv, C.Ac, C.cc, C.ks, C.vs, C.cs, hm1, hm2]; simp only [List.map_append, List.map_take, List.map_drop, List.map_cons, List.map_nil, Nat.mul_one]; ac_rfl)
      refine Dstep.o (i := 16) rfl (bsl1 Tryz.underlying23 ti9 rfl rfl rfl (by decide)) rfl (fun v B' H' hΦ hB => ?_)
      obtain ⟨b616, rfl, rfl, rfl⟩ := hΦ; clear hB
      refine ⟨JOk.yes (JOk.yes (JOk.top) (ld Tryz.underlying23 rfl rfl rfl)) (ld Tryz.underlying23 rfl rfl rfl), ?_⟩
      refine Dx.one (i := 8) (by kernel_rfl) ?_
      refine Dstep.o (i := 8) rfl (bsl1 Tryz.underlying23 ti9 rfl rfl rfl (by decide)) rfl (fun v B' H' hΦ hB => ?_)
      obtain ⟨b68, rfl, rfl, rfl⟩ := hΦ; clear hB
      refine ⟨JOk.yes (JOk.yes (JOk.top) (ld Tryz.underlying23 rfl rfl rfl)) (ld Tryz.underlying23 rfl rfl rfl), ?_⟩
      refine Dx.one (i := 9) (by kernel_rfl) ?_
      refine Dstep.o (i := 9) rfl (Ox.call rfl rfl rfl (InsS_ct Ak (lb ks k) ks.length ck (ks.map str) b68 9 [str k] _ (by omega) (by rw [List.length_map]; omega) (strs_all _) rfl rfl (by omega)) (pickSB _ _)) rfl (fun v B' H' hΦ hB => ?_)
      obtain ⟨_, rfl, hΦ⟩ := hΦ
      obtain ⟨Ak9, ck9, rfl, hBB, rfl, ⟨_, hAck9⟩, hck9⟩ := hΦ
      subst hBB
      rename Frag => B
      clear hB
      refine ⟨JOk.yes (JOk.edge (JOk.top) (by kernel_rfl)) (ld Tryz.underlying23 rfl rfl rfl), ?_⟩
      refine Dx.one (i := 17) (by kernel_rfl) ?_
      refine Dstep.o (i := 17) rfl (Ox.call rfl rfl rfl (InsS_ct Av (lb ks k) vs.length cv (vs.map str) b616 9 [str v] _ (by omega) (by rw [List.length_map]; omega) (strs_all _) rfl rfl (by omega)) (pickSB _ _)) rfl (fun v B' H' hΦ hB => ?_)
      obtain ⟨_, rfl, hΦ⟩ := hΦ
      obtain ⟨Av9, cv9, rfl, hBB, rfl, ⟨_, hAcv9⟩, hcv9⟩ := hΦ
      subst hBB
      rename Frag => B
      clear hB
      refine ⟨JOk.edge (JOk.yes (JOk.top) (ld Tryz.underlying23 rfl rfl rfl)) (by kernel_rfl), ?_⟩
      refine Dx.p (i := 18) rfl (by kernel_rfl) (nilc rfl) rfl ?_
      refine Dx.p (i := 19) rfl (by kernel_rfl) (fa' fo113_0 rfl) rfl ?_
      refine Dx.one (i := 20) (by kernel_rfl) ?_
      refine Dstep.o0 (i := 20) rfl (stO Tryz.underlying23 sz23 rfl rfl rfl (by simp) rfl) (fun v B' H' hΦ hB => ?_)
      obtain ⟨rfl, rfl⟩ := hΦ; clear hB v
      refine ⟨JOk.edge (JOk.edge (JOk.top) (by kernel_rfl)) (by kernel_rfl), ?_⟩
      refine Dx.p (i := 21) rfl (by kernel_rfl) (nilc rfl) rfl ?_
      refine Dx.p (i := 22) rfl (by kernel_rfl) (fa' fo113_1 rfl) rfl ?_
      refine Dx.one (i := 23) (by kernel_rfl) ?_
      refine Dstep.o0 (i := 23) rfl (stO Tryz.underlying23 sz23 rfl rfl rfl (by simp) rfl) (fun v B' H' hΦ hB => ?_)
      obtain ⟨rfl, rfl⟩ := hΦ; clear hB v
      refine ⟨JOk.edge (JOk.edge (JOk.top) (by kernel_rfl)) (by kernel_rfl), ?_⟩
      refine Dx.done (by kernel_rfl) ?_
      refine Xx.tn (k11 _ _ _ _ ?_)
      refine Cx.seq (fun K14 k14 => ?_)
      refine Cx.region ?_
      refine Lx.y (asg rfl) rfl ?_
      refine Lx.nil ?_
      refine Xx.tn (k14 _ _ _ _ ?_)
      refine Cx.ret ?_
      refine Xx.tr ?_
      exact Xx.ret1 rfl rfl ⟨rfl, .mk b Ak9 ck9 Av9 cv9 Ac cc (ks.take (lb ks k) ++ [k] ++ ks.drop (lb ks k)) (vs.take (lb ks k) ++ [v] ++ vs.drop (lb ks k)) [], rfl, rfl, put_leaf hok hsk hin (hl7 rfl)⟩ (Frag.le_refl _) (by rw [tr_succ]; simp only [nrow, kbuf, vbuf, cbuf, ncells, C.b, C.Ak, C.ck, C.Av, C.cv, C.Ac, C.cc, C.ks, C.vs, C.cs, hm1, hm2]; simp only [List.map_append, List.map_take, List.map_drop, List.map_cons, List.map_nil, Nat.mul_one]; ac_rfl)
    · skip
      have hz := h10
      have hcl2 : cs.length = ks.length + 1 := by rcases hcl with h | h; rw [h] at hz; simp at hz; exact h
      have hci : lb ks k < cs.length := by omega
      obtain ⟨d, rfl⟩ : ∃ d2, d = d2 + 1 := ⟨d - 1, by have hkk := hok.2.2.2 _ (List.getElem_mem hci); cases d with | zero => exact hkk.elim | succ d => rfl⟩
      refine Cx.skip ?_
      refine Xx.tn (k8 _ _ _ _ ?_)
      refine Cx.seq (fun K15 k15 => ?_)
      refine Cx.seq (fun K16 k16 => ?_)
      refine Xx.addrT Ac (by omega) (fun bC hAc hcx hcc => ?_)
      subst hAc
      refine Cx.region ?_
      refine Lx.y (mv rfl) rfl ?_
      refine Lx.y (nilc rfl) rfl ?_
      refine Lx.y (fa' fo113_2 rfl) rfl ?_
      refine Lx.y (ld Tryz.underlying111 rfl rfl rfl) rfl ?_
      refine Lx.y (mv rfl) rfl ?_
      refine Lx.y (ia Tryz.underlying111 sz110 rfl rfl (by first | exact Int.toNat_natCast _ | rfl) (by omega) (by omega)) rfl ?_
      refine Lx.y (ldC Tryz.underlying110 rfl rfl (Cells.buf (m := 1) (kid_at hci) (by rw [List.length_map]; omega))) rfl ?_
      refine Lx.y (nilc rfl) rfl ?_
      refine Lx.y (fa' fo113_0 rfl) rfl ?_
      refine Lx.y (ldC Tryz.underlying23 rfl rfl (under (under (under (under (kid_keys hci)))))) rfl ?_
      refine Lx.y (lenV (ty' := 0) Tryz.underlying23 rfl) rfl ?_
      refine Lx.y (eqI rfl rfl) rfl ?_
      refine Lx.nil ?_
      refine Xx.tn (k16 _ _ _ _ ?_)
      refine Cx.condD rfl (fun h17 => ?_) (fun h17 => ?_)
      · skip
        have h7k := h17
        have h7k : cs[lb ks k].ks.length = 7 := by omega
        refine Cx.seq (fun K18 k18 => ?_)
        refine Cx.region ?_
        refine Lx.y (mv rfl) rfl ?_
        refine Lx.y (mv rfl) rfl ?_
        refine Lx.c rfl rfl rfl (halve_ct N hN d (.mk b Ak ck Av cv (some ⟨bC, 0, none⟩) cc ks vs cs) (lb ks k) hci hok h7k _) (fold_tr) rfl ?_
        rintro v1 B1 H1 ⟨rfl, hBB, c2, rfl, hh⟩ hB1
        subst hBB
        rename Frag => B
        clear hB1
        refine Lx.nil ?_
        refine Xx.tn (k18 _ _ _ _ ?_)
        refine Cx.seq (fun K19 k19 => ?_)
        refine Cx.region ?_
        refine Lx.y (mv rfl) rfl ?_
        refine Lx.y (mv rfl) rfl ?_
        refine Lx.y (mv rfl) rfl ?_
        refine Lx.c rfl rfl rfl (again hci hin h7k c2 hh) (rfl) rfl ?_
        rintro v1 B1 H1 hq hB1
        refine Lx.y (asg rfl) rfl ?_
        refine Lx.nil ?_
        refine Xx.tn (k19 _ _ _ _ ?_)
        refine Cx.ret ?_
        refine Xx.tr ?_
        exact Xx.ret1 rfl rfl hq hB1 rfl
      · skip
        have h7k := h17
        have h7k : cs[lb ks k].ks.length ≠ 7 := by omega
        refine Cx.skip ?_
        refine Xx.tn (k15 _ _ _ _ ?_)
        refine Cx.seq (fun K20 k20 => ?_)
        refine Cx.region ?_
        refine Lx.y (mv rfl) rfl ?_
        refine Lx.y (nilc rfl) rfl ?_
        refine Lx.y (fa' fo113_2 rfl) rfl ?_
        refine Lx.y (ld Tryz.underlying111 rfl rfl rfl) rfl ?_
        refine Lx.y (mv rfl) rfl ?_
        refine Lx.y (ia Tryz.underlying111 sz110 rfl rfl (by first | exact Int.toNat_natCast _ | rfl) (by omega) (by omega)) rfl ?_
        refine Lx.y (ldC Tryz.underlying110 rfl rfl (Cells.buf (m := 1) (kid_at hci) (by rw [List.length_map]; omega))) rfl ?_
        refine Lx.y (mv rfl) rfl ?_
        refine Lx.y (mv rfl) rfl ?_
        obtain ⟨d2, hd2, hput⟩ := ih hci hin h7k
        obtain rfl : d2 = d := by omega
        refine Lx.c rfl rfl rfl (hput) (fold_kid hci) rfl ?_
        rintro v1 B1 H1 ⟨hBB, kid2, rfl, hkb, hkr⟩ hB1
        subst hBB
        rename Frag => B
        clear hB1
        refine Lx.y (asg rfl) rfl ?_
        refine Lx.nil ?_
        refine Xx.tn (k20 _ _ _ _ ?_)
        refine Cx.ret ?_
        exact Xx.ret1 rfl rfl ⟨rfl, .mk b Ak ck Av cv (some ⟨bC, 0, none⟩) cc ks vs (cs.set (lb ks k) kid2), rfl, rfl, put_deep hok ho hin hci hcl2 hkr⟩ (Frag.le_refl _) (by rw [← fold_tr, trs_set _ hci, pts_set hkb, List.length_set]; ac_rfl)
end BtF
end Go.Proofs.YtdidpocakipinaaGreatDoor

/-
  Put into a node, whole.
-/
namespace Go.Proofs.YtdidpocakipinaaGreatDoor
open Go.SL Go.RowKit
set_option linter.unusedVariables false
set_option linter.unusedSimpArgs false
set_option maxRecDepth 100000
open Ke1 Ke3 Ke4 Ke5 Ke6 Ke7 Ke8 Ke9 KeA KeB KeC KeD KeE KeF KeG KeI RgA BtB BtC BtD BtE BtG BtH BtI BtF BtX
namespace BtJ


theorem take_left3 {α : Type} {a b c : List α} {i : Nat} (h : a.length = i) : (a ++ b ++ c).take i = a ∧ (a ++ b ++ c).drop i = b ++ c := by
  subst h; rw [List.append_assoc]; exact ⟨List.take_left, List.drop_left⟩
theorem io_kid7 {d : Nat} {kid L M : C} (hok : Ok1 (d + 1) kid) (h7 : kid.ks.length = 7) (l1 : L.ks = kid.ks.take 3) (l2 : L.vs = kid.vs.take 3) (l3 : L.cs = kid.cs.take 4) (m1 : M.ks = kid.ks.drop 4) (m2 : M.vs = kid.vs.drop 4) (m3 : M.cs = kid.cs.drop 4) :
    io (d + 1) kid = io (d + 1) L ++ (kid.ks.getD 3 [], kid.vs.getD 3 []) :: io (d + 1) M := by
  obtain ⟨hv, _, hc, _⟩ := hok
  have hv7 : kid.vs.length = 7 := by omega
  show ioL (io d) kid.ks kid.vs kid.cs = ioL (io d) L.ks L.vs L.cs ++ _ :: ioL (io d) M.ks M.vs M.cs
  rw [l1, l2, l3, m1, m2, m3, getD3 h7, getD3 hv7]
  rcases hc with hc | hc
  · rw [hc, List.take_nil, List.drop_nil, io_leaf _ _ _ hv, io_leaf _ _ _ (by simp; omega), io_leaf _ _ _ (by simp; omega), zip_cut 3 hv, List.drop_eq_getElem_cons (show 3 < kid.ks.length by omega), List.drop_eq_getElem_cons (show 3 < kid.vs.length by omega)]
    rfl
  · have hc8 : kid.cs.length = 8 := by omega
    rw [io_split (io d) 3 kid.ks kid.vs kid.cs (by omega) hv hc, pos_first (io d) (show 3 < kid.ks.length by omega) (by omega) (by omega)]
    have e1 : ioL (io d) (kid.ks.take 3) (kid.vs.take 3) (kid.cs.take 4) = preL (io d) (kid.ks.take 3) (kid.vs.take 3) (kid.cs.take 3) ++ io d (kid.cs[3]'(by omega)) := by
      rw [io_split (io d) 3 _ _ _ (by simp; omega) (by simp; omega) (by simp; omega)]
      rw [List.take_take, List.take_take, List.take_take, List.getElem_take, List.drop_of_length_le (l := kid.ks.take 3) (by simp; omega)]
      have : posL (io d) [] ((kid.vs.take 3).drop 3) ((kid.cs.take 4).drop (3 + 1)) = [] := by cases (kid.vs.take 3).drop 3 <;> rfl
      rw [this, List.append_nil]; rfl
    have e2 : ioL (io d) (kid.ks.drop 4) (kid.vs.drop 4) (kid.cs.drop 4) = io d (kid.cs[3 + 1]'(by omega)) ++ posL (io d) (kid.ks.drop (3 + 1)) (kid.vs.drop (3 + 1)) (kid.cs.drop (3 + 2)) := by
      rw [List.drop_eq_getElem_cons (show 4 < kid.cs.length by omega)]
      exact io_pos _ _ _ _ _ (by simp; omega) (by simp; omega)
    rw [e1, e2]
    simp
theorem halved_io {N d : Nat} {c c' : C} {i : Nat} (hi : i < c.cs.length) (hok : Ok N (d + 2) c) (hc : c.cs.length = c.ks.length + 1) (h7 : c.cs[i].ks.length = 7) (hh : Halved c i c.cs[i] c') (hfull : c.ks.length < N) : Ok N (d + 2) c' ∧ io (d + 2) c' = io (d + 2) c ∧ c'.b = c.b ∧ c'.cs.length = c'.ks.length + 1 ∧ (∀ j (hj : j < c'.cs.length), j = i ∨ j = i + 1 → c'.cs[j].ks.length = 3) := by
  obtain ⟨L, M, hb, hks, hvs, hcs, lb1, l1, l2, l3, m1, m2, m3⟩ := hh
  have hv := hok.1
  have hkid := hok.2.2.2 _ (List.getElem_mem hi)
  have hio := io_kid7 hkid h7 l1 l2 l3 m1 m2 m3
  obtain ⟨kv, _, kc, kk⟩ := hkid
  have hil : (c.cs.take i).length = i := by simp; omega
  have lk : c'.ks.length = c.ks.length + 1 := by rw [hks]; simp; omega
  have lv : c'.vs.length = c.ks.length + 1 := by rw [hvs]; simp; omega
  have lc : c'.cs.length = c.cs.length + 1 := by rw [hcs]; simp; omega
  have hci : i < c'.cs.length := by omega
  have eL : c'.cs[i] = L := by
    have h9 : c'.cs[i]? = some L := by rw [hcs, List.append_assoc, List.getElem?_append_right (by omega), hil, Nat.sub_self]; rfl
    obtain ⟨_, e⟩ := List.getElem?_eq_some_iff.1 h9; exact e
  have eM : c'.cs[i + 1]'(by omega) = M := by
    have h9 : c'.cs[i + 1]? = some M := by rw [hcs, List.append_assoc, List.getElem?_append_right (by omega), hil, Nat.add_sub_cancel_left]; rfl
    obtain ⟨_, e⟩ := List.getElem?_eq_some_iff.1 h9; exact e
  have okL : Ok1 (d + 1) L := by
    refine ⟨by rw [l1, l2]; simp; omega, by rw [l1]; simp; omega, ?_, fun p hp => kk p (by rw [l3] at hp; exact List.mem_of_mem_take hp)⟩
    rcases kc with h | h
    · left; rw [l3, h]; rfl
    · right; rw [l3, l1]; simp; omega
  have okM : Ok1 (d + 1) M := by
    refine ⟨by rw [m1, m2]; simp; omega, by rw [m1]; simp; omega, ?_, fun p hp => kk p (by rw [m3] at hp; exact List.mem_of_mem_drop hp)⟩
    rcases kc with h | h
    · left; rw [m3, h]; rfl
    · right; rw [m3, m1]; simp; omega
  refine ⟨⟨by omega, by omega, .inr (by omega), fun p hp => ?_⟩, ?_, hb, by omega, fun j hj hji => ?_⟩
  · rw [hcs] at hp
    simp only [List.mem_append, List.mem_cons, List.not_mem_nil, or_false] at hp
    rcases hp with (hp | rfl | rfl) | hp
    · exact hok.2.2.2 p (List.mem_of_mem_take hp)
    · exact okL
    · exact okM
    · exact hok.2.2.2 p (List.mem_of_mem_drop hp)
  · show ioL (io (d + 1)) c'.ks c'.vs c'.cs = ioL (io (d + 1)) c.ks c.vs c.cs
    rw [io_split _ i c'.ks c'.vs c'.cs hci (by omega) (by omega), io_split _ i c.ks c.vs c.cs hi hv hc, eL, hio]
    obtain ⟨a1, a2⟩ := take_left3 (i := i) (a := c.ks.take i) (b := [c.cs[i].ks.getD 3 []]) (c := c.ks.drop i) (by simp; omega)
    obtain ⟨b1, b2⟩ := take_left3 (i := i) (a := c.vs.take i) (b := [c.cs[i].vs.getD 3 []]) (c := c.vs.drop i) (by simp; omega)
    obtain ⟨c1, c2⟩ := take_left3 (i := i) (a := c.cs.take i) (b := [L, M]) (c := c.cs.drop (i + 1)) hil
    have c3 : c'.cs.drop (i + 1) = M :: c.cs.drop (i + 1) := by
      have : c'.cs.drop (i + 1) = (c'.cs.drop i).drop 1 := by rw [List.drop_drop]
      rw [this, hcs, c2]; rfl
    rw [hks, hvs, a1, a2, b1, b2, c3, hcs, c1]
    show preL _ _ _ _ ++ (io (d + 1) L ++ ((c.cs[i].ks.getD 3 [], c.cs[i].vs.getD 3 []) :: (io (d + 1) M ++ posL _ (c.ks.drop i) (c.vs.drop i) (c.cs.drop (i + 1))))) = _
    simp
  · rcases hji with rfl | rfl
    · rw [eL, l1]; simp; omega
    · rw [eM, m1]; simp; omega
theorem lb_halved {ks : List Str8} {k m : Str8} (hs : Srt ks) (hk : k ∉ ks) (hs' : Srt (ks.take (lb ks k) ++ [m] ++ ks.drop (lb ks k))) : lb (ks.take (lb ks k) ++ [m] ++ ks.drop (lb ks k)) k = lb ks k ∨ lb (ks.take (lb ks k) ++ [m] ++ ks.drop (lb ks k)) k = lb ks k + 1 := by
  have hle := lb_le ks k
  obtain ⟨g1, g2⟩ := lb_spec (t := k) hs
  obtain ⟨f1, f2⟩ := lb_spec (t := k) hs'
  have hll := lb_le (ks.take (lb ks k) ++ [m] ++ ks.drop (lb ks k)) k
  have e1 : ∀ j (hj : j < lb ks k) (hj2 : j < ks.length), (ks.take (lb ks k) ++ [m] ++ ks.drop (lb ks k))[j]? = some ks[j] := fun j hj hj2 => by
    rw [List.append_assoc, List.getElem?_append_left (by simp; omega), List.getElem?_take, if_pos hj, List.getElem?_eq_getElem]
  have e2 : ∀ (h : lb ks k < ks.length), (ks.take (lb ks k) ++ [m] ++ ks.drop (lb ks k))[lb ks k + 1]? = some ks[lb ks k] := fun h => by
    rw [List.getElem?_append_right (by simp; omega)]
    simp [Nat.min_eq_left hle, List.getElem?_drop]
  have hlen : (ks.take (lb ks k) ++ [m] ++ ks.drop (lb ks k)).length = ks.length + 1 := by simp; omega
  generalize ks.take (lb ks k) ++ [m] ++ ks.drop (lb ks k) = L at *
  rcases Nat.lt_trichotomy (lb L k) (lb ks k) with h | h | h
  · have a := f2 (by omega)
    obtain ⟨_, e⟩ := List.getElem?_eq_some_iff.1 (e1 _ h (by omega))
    rw [e, g1 _ (by omega) h] at a; cases a
  · exact .inl h
  · rcases Nat.lt_or_ge (lb ks k + 1) (lb L k) with h2 | h2
    · have a := f1 (lb ks k + 1) (by omega) h2
      have hl : lb ks k < ks.length := by omega
      obtain ⟨_, e⟩ := List.getElem?_eq_some_iff.1 (e2 hl)
      rw [e, g2 hl] at a; cases a
    · exact .inr (by omega)
theorem halved_mn {N d : Nat} {c c' : C} {i : Nat} (hi : i < c.cs.length) (hok : Ok N (d + 2) c) (h7 : c.cs[i].ks.length = 7) (hh : Halved c i c.cs[i] c') (hm : Mn (d + 2) c) : Mn (d + 2) c' := by
  obtain ⟨L, M, hb, hks, hvs, hcs, lb, l1, l2, l3, m1, m2, m3⟩ := hh
  have hg := Good.of (hok.2.2.2 _ (List.getElem_mem hi)) (hm.2 _ (List.getElem_mem hi)).2
  have hmk := (hm.2 _ (List.getElem_mem hi)).2
  have hsh : c.cs[i].cs = [] ∨ c.cs[i].cs.length = 8 := by rcases hg.2.2.1 with ⟨_, z⟩ | ⟨_, z⟩; exact .inl z; exact .inr (by omega)
  refine ⟨⟨fun z => by rw [hcs] at z; simp at z, fun z => by simp at z⟩, fun p hp => ?_⟩
  rw [hcs] at hp
  simp only [List.mem_append, List.mem_cons, List.not_mem_nil, or_false] at hp
  rcases hp with (hp | rfl | rfl) | hp
  · exact hm.2 p (List.mem_of_mem_take hp)
  · refine ⟨by rw [l1]; simp; omega, ⟨?_, fun q hq => hmk.2 q (by rw [l3] at hq; exact List.mem_of_mem_take hq)⟩⟩
    rw [l3, ← hmk.1]
    rcases hsh with z | z
    · rw [z]; simp
    · exact ⟨fun w => by have e9 := congrArg List.length w; rw [List.length_take, z] at e9; exact absurd e9 (by decide), fun w => by rw [w] at z; simp at z⟩
  · refine ⟨by rw [m1]; simp; omega, ⟨?_, fun q hq => hmk.2 q (by rw [m3] at hq; exact List.mem_of_mem_drop hq)⟩⟩
    rw [m3, ← hmk.1]
    rcases hsh with z | z
    · rw [z]; simp
    · exact ⟨fun w => by have e9 := congrArg List.length w; rw [List.length_drop, z] at e9; exact absurd e9 (by decide), fun w => by rw [w] at z; simp at z⟩
  · exact hm.2 p (List.mem_of_mem_drop hp)
theorem putc (k v : Str8) : ∀ (d N : Nat) (hN : N ≤ 90) (c : C) (B : Frag), Ok N (d + 1) c → Ord (io (d + 1) c) → c.ks.length < N → PutC N d c k v B := by
  intro d
  induction d with
  | zero =>
    intro N hN c B hok ho h7
    exact put_step N 0 hN c k v B hok ho (srt_of hok ho) (fun _ => h7) (fun h _ _ => (hok.2.2.2 _ (List.getElem_mem h)).elim) (fun h _ _ => (hok.2.2.2 _ (List.getElem_mem h)).elim)
  | succ d ihd =>
    have kids : ∀ (N : Nat) (c : C) (B : Frag), Ok N (d + 2) c → Ord (io (d + 2) c) → ∀ (h : lb c.ks k < c.cs.length), k ∉ c.ks → c.cs[lb c.ks k].ks.length ≠ 7 → ∃ d2, d + 1 = d2 + 1 ∧ PutC 7 d2 c.cs[lb c.ks k] k v B := fun N c B hok ho h hk h7 => by
      have okk := hok.2.2.2 _ (List.getElem_mem h)
      have hc : c.cs.length = c.ks.length + 1 := by rcases hok.2.2.1 with z | z; rw [z] at h; simp at h; exact z
      obtain ⟨e, _, _⟩ := around hok ho hk h hc
      rw [e] at ho
      exact ⟨d, rfl, ihd 7 (by decide) _ B (Ok.of1 okk) (Ord.left (Ord.right ho)) (by have := okk.2.1; omega)⟩
    intro N hN c B hok ho h7
    refine put_step N (d + 1) hN c k v B hok ho (srt_of hok ho) (fun _ => h7) (kids N c B hok ho) ?_
    intro h hk h7k c' hh
    have hc : c.cs.length = c.ks.length + 1 := by rcases hok.2.2.1 with z | z; rw [z] at h; simp at h; exact z
    obtain ⟨ok', io', hb', hc', h3⟩ := halved_io h hok hc h7k hh h7
    have ho' : Ord (io (d + 2) c') := by rw [io']; exact ho
    have hs' := srt_of ok' ho'
    have hmn9 := fun hm => halved_mn h hok h7k hh hm
    obtain ⟨_, _, _, hks, _⟩ := hh
    have hl9 : c'.ks.length = c.ks.length + 1 := by rw [hks]; simp; omega
    have hlb : lb c'.ks k = lb c.ks k ∨ lb c'.ks k = lb c.ks k + 1 := by rw [hks] at hs' ⊢; exact lb_halved (srt_of hok ho) hk hs'
    have hp := put_step N (d + 1) hN c' k v B ok' ho' hs' (fun z => by rw [z] at hc'; simp at hc') (kids N c' B ok' ho') (fun h2 _ h72 => absurd h72 (by rw [h3 _ h2 hlb]; decide))
    rw [← hb']
    refine Ct.mono hp ?_
    rintro r B' H' ⟨hB, c2, hH, hb2, p1, p2, p3, p4, p5⟩
    exact ⟨hB, c2, hH, hb2.trans hb', p1, by rw [p2]; show insP k v (io (d + 2) c') = _; rw [io'], by rw [p3]; show Value.bool (!decide (k ∈ (io (d + 2) c').map (·.1))) = _; rw [io'], fun hm => p4 (hmn9 hm), by omega⟩
end BtJ
end Go.Proofs.YtdidpocakipinaaGreatDoor

/-
  Get.
-/
namespace Go.Proofs.YtdidpocakipinaaGreatDoor
open Go.SL Go.RowKit
set_option linter.unusedVariables false
set_option linter.unusedSimpArgs false
set_option maxRecDepth 100000
open Ke1 Ke3 Ke4 Ke5 Ke6 Ke7 Ke8 Ke9 KeA KeB KeC KeD KeE KeF KeG KeI RgA BtB BtC BtD BtE BtG BtH BtI BtF BtJ
namespace BtK


/-- the value at k -/
def lkp (k : Str8) : List (Str8 × Str8) → Str8
  | [] => []
  | p :: l => if p.1 = k then p.2 else lkp k l
theorem lkp_skip {k : Str8} : ∀ {a l : List (Str8 × Str8)}, (∀ p ∈ a, p.1 ≠ k) → lkp k (a ++ l) = lkp k l := by
  intro a
  induction a with
  | nil => intro l _; rfl
  | cons p a ih => intro l h; show (if p.1 = k then p.2 else lkp k (a ++ l)) = _; rw [if_neg (h p (by simp)), ih fun q hq => h q (by simp [hq])]
theorem lkp_none {k : Str8} : ∀ {l : List (Str8 × Str8)}, (∀ p ∈ l, p.1 ≠ k) → lkp k l = [] := by
  intro l h
  have := lkp_skip (a := l) (l := []) h
  rw [List.append_nil] at this
  exact this
theorem lkp_cut {k : Str8} {a l : List (Str8 × Str8)} (h : ∀ p ∈ l, p.1 ≠ k) : lkp k (a ++ l) = lkp k a := by
  induction a with
  | nil => exact lkp_none h
  | cons p a ih => show (if p.1 = k then p.2 else lkp k (a ++ l)) = if p.1 = k then p.2 else lkp k a; rw [ih]
theorem ne_of_below {k x : Str8} (h : bless x k = true) : x ≠ k := fun e => by rw [e, bless_irrefl] at h; cases h
theorem ne_of_above {k x : Str8} (h : bless k x = true) : x ≠ k := fun e => by rw [e, bless_irrefl] at h; cases h
/-- at a key of the node itself -/
theorem lkp_here {N d : Nat} {c : C} {k : Str8} (hok : Ok N (d + 1) c) (ho : Ord (io (d + 1) c)) (hl : lb c.ks k < c.ks.length) (hat : c.ks[lb c.ks k] = k) (hv : lb c.ks k < c.vs.length) : lkp k (io (d + 1) c) = c.vs[lb c.ks k] ∧ k ∈ (io (d + 1) c).map (·.1) := by
  have hs := srt_of hok ho
  have hvl := hok.1
  refine ⟨?_, (keys_sub (io d) c.ks c.vs c.cs hvl).subset (by rw [← hat]; exact List.getElem_mem hl)⟩
  rcases hok.2.2.1 with hc | hc
  · have e0 : io (d + 1) c = c.ks.zip c.vs := by show ioL _ _ _ c.cs = _; rw [hc]; exact io_leaf (io d) c.ks c.vs hvl
    rw [e0, zip_cut (lb c.ks k) hvl, lkp_skip (fun p hp => ne_of_below (zip_below hs p hp)), List.drop_eq_getElem_cons hl, List.drop_eq_getElem_cons hv]
    show (if c.ks[lb c.ks k] = k then _ else _) = _
    rw [if_pos hat]
  · have e0 := io_split (io d) (lb c.ks k) c.ks c.vs c.cs (by omega) hvl hc
    rw [pos_first (io d) hl hv (by omega), ← List.append_assoc] at e0
    have ho' : Ord (ioL (io d) c.ks c.vs c.cs) := ho
    show lkp k (ioL (io d) c.ks c.vs c.cs) = _
    rw [e0] at ho' ⊢
    rw [lkp_skip (fun p hp => ne_of_below (by have := Ord.cross ho' p hp (c.ks[lb c.ks k], c.vs[lb c.ks k]) (by simp); rw [hat] at this; exact this))]
    show (if c.ks[lb c.ks k] = k then _ else _) = _
    rw [if_pos hat]
/-- in a leaf that has it not -/
theorem lkp_leaf {N d : Nat} {c : C} {k : Str8} (hok : Ok N (d + 1) c) (hk : k ∉ c.ks) (hc : c.cs = []) : lkp k (io (d + 1) c) = [] ∧ k ∉ (io (d + 1) c).map (·.1) := by
  have e0 : io (d + 1) c = c.ks.zip c.vs := by show ioL _ _ _ c.cs = _; rw [hc]; exact io_leaf (io d) c.ks c.vs hok.1
  rw [e0]
  refine ⟨lkp_none fun p hp e => hk (by rw [← e]; exact (List.of_mem_zip (show (p.1, p.2) ∈ _ from hp)).1), by rw [zip_keys hok.1]; exact hk⟩
/-- in the kid -/
theorem lkp_kid {N d : Nat} {c : C} {k : Str8} (hok : Ok N (d + 1) c) (ho : Ord (io (d + 1) c)) (hk : k ∉ c.ks) (hi : lb c.ks k < c.cs.length) : lkp k (io (d + 1) c) = lkp k (io d c.cs[lb c.ks k]) ∧ (k ∈ (io (d + 1) c).map (·.1) ↔ k ∈ (io d c.cs[lb c.ks k]).map (·.1)) ∧ Ok1 d c.cs[lb c.ks k] ∧ Ord (io d c.cs[lb c.ks k]) := by
  have hc : c.cs.length = c.ks.length + 1 := by rcases hok.2.2.1 with z | z; rw [z] at hi; simp at hi; exact z
  obtain ⟨e, hP, hQ⟩ := around hok ho hk hi hc
  have ho' := ho
  rw [e] at ho' ⊢
  refine ⟨?_, ?_, hok.2.2.2 _ (List.getElem_mem hi), Ord.left (Ord.right ho')⟩
  · rw [lkp_skip (fun p hp => ne_of_below (hP p hp)), lkp_cut (fun p hp => ne_of_above (hQ p hp))]
  · simp only [List.map_append, List.mem_append]
    refine ⟨fun h => ?_, fun h => .inr (.inl h)⟩
    rcases h with h | h | h
    · obtain ⟨p, hp, e2⟩ := List.mem_map.1 h; exact absurd e2 (ne_of_below (hP p hp))
    · exact h
    · obtain ⟨p, hp, e2⟩ := List.mem_map.1 h; exact absurd e2 (ne_of_above (hQ p hp))
end BtK
end Go.Proofs.YtdidpocakipinaaGreatDoor
