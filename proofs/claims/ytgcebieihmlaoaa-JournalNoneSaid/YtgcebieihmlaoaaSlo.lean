/-
  More rules: copy, append of a count of zeros, the library's entries (cmpstring, overlaps), min of two numbers, loops that are unrolled.
-/
import Derived.Test.YtgcebieihmlaoaaSln
import Derived.Laws.CopyRow
import Derived.Lib.AppendZeros
import Derived.Lib.Overlaps
import Derived.Lib.Bytealg
import Derived.LoopNIn
namespace Go.SL
open Go.RowKit
set_option linter.unusedVariables false
set_option linter.unusedSimpArgs false

/-! ### A loop, unrolled -/
section
variable {e : Env} {ds : List Deferred} {Q : Exit → Act → World → Prop} {ρ : Sl} {B : Frag} {H : HP}
def Rn (e : Env) (c : Code) (Q : Exit → Act → World → Prop) (m : Nat) (a : Act) (w : World) : Prop := Code.roundsIn (FW e.r) 0 e.P c Q m a w
theorem Cx.unroll {c : Code} (m : Nat) (h : Xx e ds (Rn e c Q m) ρ B H) : Cx e ds (.loop c) Q ρ B H := fun a w f b s => wpIn_loop_rounds m (h a w f b s)
theorem Xx.rn {c : Code} {m : Nat} (h : Cx e ds c (Exit.then (Rn e c Q m) Q) ρ B H) : Xx e ds (Rn e c Q (m + 1)) ρ B H := fun a w f b s => h a w f b s
end
section
variable {P : Program} {ρ : Sl} {S : World → Prop} {ty t t2 : TypeId} {x y : Operand} {v : Value}
/-- A call of an entry of the library's, that only reckons. -/
theorem extc {xs : Array Operand} {ts : Array TypeId} {fi : FuncId} {vs : List Value} (hf : ev ρ x = some (.func (.func fi) #[] #[])) (hx : evl ρ xs.toList = some vs) (h : ∀ w, S w → (callFunc fi vs.toArray).run P w = .ok (.value v) w) :
    Yx P (.call { callee := .value x, args := xs, argTypes := ts }) ty ρ S v := .of (fun _ h => by cases h) fun f w _ _ _ _ he s => by
  have hfv := he _ _ hf
  have hxv : xs.map f = vs.toArray := by
    have := he.map hx
    apply Array.toList_inj.1
    simp [this]
  have h1 := h w s
  simp only [execOp, resolve, hfv, Deferred.ofValue, hxv, Sem.run_bind, Sem.run_pure, Result.andThen, invoke]
  simpa using h1
theorem minI {k : IntKind} {m n : Int} (hx : ev ρ x = some (.int k m)) (hy : ev ρ y = some (.int k n)) : Yx P (.call { callee := .builtin .min, args := #[x, y], argTypes := #[t, t2] }) ty ρ S (.int k (if n < m then n else m)) := .of (fun _ h => by cases h) fun f w _ _ _ _ he _ => by
  simp [execOp, resolve, invoke, builtin, Builtin.min_, Builtin.min2, he _ _ hx, he _ _ hy]
theorem minN {m n : Nat} (hx : ev ρ x = some (i64 m)) (hy : ev ρ y = some (i64 n)) : Yx P (.call { callee := .builtin .min, args := #[x, y], argTypes := #[t, t2] }) ty ρ S (i64 (min m n : Nat)) := by
  have h := minI (P := P) (S := S) (t := t) (t2 := t2) (ty := ty) hx hy
  have e : (if (n : Int) < (m : Int) then (n : Int) else (m : Int)) = ((min m n : Nat) : Int) := by split <;> omega
  rw [e] at h; exact h
theorem run_cmp {f : FuncId} {fn : Func} (hf : P.funcs[f]? = some fn) (hname : (fn.name == "runtime.NumGoroutine") = false) (hb : fn.body.isNone = true) (hn : Extern.findNext fn = none) (he : Extern.find fn = some Extern.BytealgCompare.compare) (a b : List UInt8) (w : World) :
    (callFunc f #[str a, str b]).run P w = .ok (.value (i64 (Lib.compareBytes a b))) w := by
  rw [run_callFunc_extern hf hname hb hn he]
  have := Lib.run_compareString (P := P) ⟨a.toArray⟩ ⟨b.toArray⟩ w
  rw [this]; rfl
end
section
variable {e : Env} {ds : List Deferred} {ρ : Sl} {B : Frag} {H R : HP} {t tx et et' ty tyx : TypeId} {x y : Operand} {size bytes nl nd c nx cx b o ox bx : Nat} {zs xs news cs cs' ncs olds : List Value} {A Ax : Option Addr} {fz : Nat × Nat}

/-- The cells of a source: in whatever state. -/
def SrcH (N0 : Nat) (B : Frag) (H : HP) (Ax : Option Addr) (news : List Value) : Prop :=
  news = [] ∨ ∃ b o, Ax = some ⟨b, o, none⟩ ∧ ∀ w, St N0 B H w → ∀ j v, news[j]? = some v → w.cell? ⟨b, o + j, none⟩ = some v
theorem SrcH.own {N0 : Nat} [hp : PickB H b (.cells cs.toArray et fz) R] (n : Nat) (hx : (cs.drop o).take n = news) : SrcH N0 B H (some ⟨b, o, none⟩) news :=
  .inr ⟨b, o, rfl, fun w s j v hj => by
    have s' : St N0 B (blk b (.cells cs.toArray et fz) * R) w := hp.eq ▸ s
    refine cell_of_heap s'.blk.1 ?_
    rw [← hx] at hj
    simp only [List.getElem?_take, List.getElem?_drop] at hj
    split at hj
    · exact hj
    · cases hj⟩
theorem SrcH.base {N0 : Nat} (n : Nat) (hB : B b = some (.cells cs.toArray et fz)) (hx : (cs.drop o).take n = news) : SrcH N0 B H (some ⟨b, o, none⟩) news :=
  .inr ⟨b, o, rfl, fun w s j v hj => by
    refine cell_of_heap (s.ro b _ hB) ?_
    rw [← hx] at hj
    simp only [List.getElem?_take, List.getElem?_drop] at hj
    split at hj
    · exact hj
    · cases hj⟩
theorem St.src {N0 : Nat} {P : Program} {w : World} (h : SrcH N0 B H Ax news) (hn : news.length = nx * size) (s : St N0 B H w) (len cap : Nat) : (Builtin.firstCells size nx (.slice Ax len cap)).run P w = .ok news.toArray w := by
  rcases h with rfl | ⟨b, o, rfl, h⟩
  · have h0 : nx * size = 0 := by simpa using hn.symm
    cases Ax with
    | none => simp [Builtin.firstCells]
    | some a => exact run_firstCells_some w size nx a len cap [] (by simpa using hn) (fun j v hj => by simp at hj)
  · exact run_firstCells_some w size nx _ len cap news hn fun j v hj => by rw [add_mk]; exact h w s j v hj

/-- copy into a row of one's own. -/
theorem cpO (k : Nat) (ht : e.P.underlying t = some (.slice et')) (hs : (e.P.info? et').map (·.size) = some size) (hx : ev ρ x = some (.slice (some ⟨b, o, none⟩) nd c)) (hy : ev ρ y = some (.slice Ax nx cx))
    [hp : PickB H b (.cells cs.toArray et (0, 0)) R] (hk : Nat.min nx nd = k) (hS : SrcH e.N0 B H Ax news) (hn : news.length = k * size) (h1 : news.all (·.oneCell') = true) (hfit : o + news.length ≤ cs.length) (hr : cs.take o ++ news ++ cs.drop (o + news.length) = cs') :
    Ox e ds (.call { callee := .builtin .copy, args := #[x, y], argTypes := #[t, tx] }) ty ρ B H (fun v B' H' => v = i64 k ∧ B' = B ∧ H' = row b et cs' * R) :=
  .of_run (fun _ h => by cases h) fun f w dst pos after guard he s => by
    subst hr hk
    have s' : St e.N0 B (blk b (.cells cs.toArray et (0, 0)) * R) w := hp.eq ▸ s
    have hfc := St.src (P := e.P) (nx := Nat.min nx nd) hS hn s nx cx
    have hst := run_storeCells_at (P := e.P) b o et news 0 cs.toArray w s'.blk.1 (by simpa using hfit) (by simpa using h1)
    simp only [List.toList_toArray, Nat.add_zero] at hst
    cases hq : e.P.info? et' with
    | none => simp [hq] at hs
    | some i =>
      have hi : i.size = size := by simpa [hq] using hs
      have hcp : (Builtin.copy_ #[t, tx] ty #[.slice (some ⟨b, o, none⟩) nd c, .slice Ax nx cx]).run e.P w = .ok (i64 (Nat.min nx nd : Nat)) (w.setRow b (cs.take o ++ news ++ cs.drop (o + news.length)).toArray) := by
        rw [← hi] at hfc
        simp only [Builtin.copy_, Sem.run_bind, run_underlying ht, Result.andThen, Builtin.lenOf, Sem.run_pure, sizeOf, typeInfo, run_program, hq, hfc, hst, List.getElem?_toArray, List.getElem?_cons_zero, List.getElem?_cons_succ]
        simp [hfc, hst, goInt]
      refine ⟨_, _, B, _, ?_, ⟨rfl, rfl, rfl⟩, Frag.le_refl _, (s'.setRow _).2, (s'.setRow _).1⟩
      simp [execOp, resolve, he _ _ hx, he _ _ hy, invoke, builtin, hcp]

/-- append of so many zeros, where there is no room. -/
theorem amO {k : IntKind} {m : Nat} (ht : e.P.underlying t = some (.slice et)) (htx : e.P.underlying tx = some (.int k)) (hz : TI e.P et zs size bytes) (hx : ev ρ x = some (.slice Ax nl c)) (hy : ev ρ y = some (i64 m))
    (hS : SrcH e.N0 B H Ax olds) (hl : olds.length = nl * size) (hg : c < nl + m) (hb : nl + m ≤ 9223372036854775807) (hbb : (nl + m) * bytes ≤ 140737488355328) :
    Ox e ds (.call { callee := .builtin .append, args := #[x, y], argTypes := #[t, tx] }) ty ρ B H
      (fun v B' H' => ∃ b' c' rest, v = .slice (some ⟨b', 0, none⟩) (nl + m) c' ∧ nl + m ≤ c' ∧ rest.length + nl * size = c' * size ∧ B' = B ∧ H' = row b' et (olds ++ rest) * H) :=
  .of_run (fun _ h => by cases h) fun f w dst pos after guard he s => by
    obtain ⟨i, zv, z1, z2, z3, z4, z5, z6, z7⟩ := hz
    have hfc := St.src (P := e.P) (nx := nl) hS hl s.drew nl c
    rw [← z4] at hfc
    have hcap := nextslicecap_le (need := nl + m) (old := c) hg
    have hge : nl + m ≤ grownCap w (nl + m) c et := by unfold grownCap Question.cut; simp
    have hw : IntKind.i64.wrap (m : Int) = m := by rw [IntKind.wrap_i64]; omega
    have hfit : Builtin.nextslicecap (nl + m) c * i.bytes ≤ 281474976710656 := by
      rw [z5]
      calc Builtin.nextslicecap (nl + m) c * bytes ≤ (2 * (nl + m)) * bytes := Nat.mul_le_mul_right _ hcap
        _ = 2 * ((nl + m) * bytes) := by rw [Nat.mul_assoc]
        _ ≤ 281474976710656 := by omega
    have h63' : ¬ (9223372036854775807 < ((nl : Int) + (m : Int))) := by omega
    have h48' : ¬ (281474976710656 < Builtin.nextslicecap (nl + m) c * i.bytes) := by omega
    have h48i : ¬ (281474976710656 < (m : Int) * (i.bytes : Int)) := by
      rw [← Int.natCast_mul, z5]
      have : m * bytes ≤ (nl + m) * bytes := Nat.mul_le_mul_right _ (by omega)
      omega
    have hneg : ¬ ((m : Int) < 0) := by omega
    have hn : ¬ (nl + m ≤ c) := by omega
    obtain ⟨zm, hzm, hzl⟩ : ∃ zm : List Value, (if m * i.size = 0 then #[] else Builtin.zeroCells zv.cells m) = zm.toArray ∧ zm.length = m * size := by
      by_cases h0 : m * i.size = 0
      · exact ⟨[], by rw [if_pos h0], by rw [z4] at h0; simpa using h0.symm⟩
      · exact ⟨(Builtin.zeroCells zv.cells m).toList, by rw [if_neg h0], by simp [Builtin.zeroCells, z3, z6]⟩
    obtain ⟨sp, hsp, hspl⟩ : ∃ sp : List Value, Builtin.zeroCells zv.cells (grownCap w (nl + m) c et - (nl + m)) = sp.toArray ∧ sp.length = (grownCap w (nl + m) c et - (nl + m)) * size :=
      ⟨(Builtin.zeroCells zv.cells (grownCap w (nl + m) c et - (nl + m))).toList, by simp, by simp [Builtin.zeroCells, z3, z6]⟩
    have hr : (Builtin.append_ #[t, tx] ty #[.slice Ax nl c, i64 m]).run e.P w = .ok (.slice (some ⟨w.heap.size, 0, none⟩) (nl + m) (grownCap w (nl + m) c et)) (w.drew.alloc (.cells (olds ++ (zm ++ sp)).toArray et (0, 0))) := by
      by_cases h0 : m * i.size = 0
      · rw [if_pos h0] at hzm
        have hzm' : zm = [] := by simpa using hzm.symm
        subst hzm'
        simp [Builtin.append_, run_underlying ht, run_underlying htx, sizeOf, typeInfo, zeroValue, z1, z2, asInt, asIntOf, hw, hneg, hn, h0, h63', h48', h48i, Question.forced, hfc, newRow, grownCap]
        have h9 := hsp
        simp [grownCap] at h9
        simp [h9]
      · rw [if_neg h0] at hzm
        simp [Builtin.append_, run_underlying ht, run_underlying htx, sizeOf, typeInfo, zeroValue, z1, z2, asInt, asIntOf, hw, hneg, hn, h0, h63', h48', h48i, Question.forced, hfc, newRow, grownCap]
        have h9 := hsp
        simp [grownCap] at h9
        simp [h9, hzm]
    refine ⟨_, _, B, _, ?_, ⟨_, _, zm ++ sp, rfl, hge, ?_, rfl, rfl⟩, Frag.le_refl _, ((Below.refl _ _).drew).alloc s.sz _, s.drew.alloc _⟩
    · simp [execOp, resolve, he _ _ hx, he _ _ hy, invoke, builtin, hr]
    · have h2 : (grownCap w (nl + m) c et) * size = (grownCap w (nl + m) c et - (nl + m)) * size + (nl + m) * size := by rw [← Nat.add_mul]; congr 1; omega
      simp [hzl, hspl, h2, Nat.add_mul]; omega

/-- slices.overlaps, of a row of one's own and another one. -/
theorem ovP {f : FuncId} {fn : Func} {P : Program} {N0 : Nat} {tS tR eS : TypeId} {na ca nb cb oa ob : Nat} {csa csb : List Value} {ea eb : TypeId} {Ra : HP} (hf : P.funcs[f]? = some fn) (hname : (fn.name == "runtime.NumGoroutine") = false) (hb' : fn.body.isNone = true) (hn : Extern.findNext fn = none) (hfe : Extern.find fn = some (Extern.SlicesOverlaps.overlaps #[tS, tS] #[tR]))
    (ht : P.underlying tS = some (.slice eS)) (hz : (P.info? eS).map (·.size) = some size) (hne : bx ≠ b) (hH : H = row bx ea csa * (row b eb csb * Ra)) (hlb : csb ≠ []) (hoa : oa < csa.length ∨ oa = 0) :
    ∀ w, St N0 B H w → (callFunc f [.slice (some ⟨bx, oa, none⟩) na ca, .slice (some ⟨b, ob, none⟩) nb cb].toArray).run P w = .ok (.value (.bool false)) w := fun w s => by
  have s' : St N0 B (row bx ea csa * (row b eb csb * Ra)) w := hH ▸ s
  have ha := s'.blk.1
  have hbk := s'.drop.blk.1
  rw [run_callFunc_extern hf hname hb' hn hfe]
  have hsz : ∀ w, (Go.sizeOf eS).run P w = .ok size w := fun w => by
    cases hq : P.info? eS with
    | none => simp [hq] at hz
    | some i => have hi : i.size = size := by simpa [hq] using hz
                simp [sizeOf, typeInfo, hq, hi]
  have := Lib.run_overlaps_apart (P := P) w tS tR eS ht size hsz ⟨bx, oa, none⟩ ⟨b, ob, none⟩ na ca nb cb hne ea eb csa.length csb.length (by simp [World.shape?, ha]) (by simp [World.shape?, hbk]) (by simpa using hlb)
    (by simp [World.frozen?, ha]) (by simp [World.frozen?, ha])
  have e9 : (Extern.SlicesOverlaps.overlaps #[tS, tS] #[tR] [.slice (some ⟨bx, oa, none⟩) na ca, .slice (some ⟨b, ob, none⟩) nb cb].toArray).run P w = .ok (.bool false) w := this
  rw [e9]; rfl
end
end Go.SL
