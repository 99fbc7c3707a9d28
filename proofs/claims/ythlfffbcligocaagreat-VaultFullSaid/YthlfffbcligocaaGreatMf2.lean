/-
  Texts of this seat, one behind the other: Slp, Slq, Slr, Sls, Slt, Slu, Slv, Slw, Slx, Slz, SlA, SlB, SlC, SlD, SlE, VhA, VhB.
-/
import Derived.ChangeMaps4
import Derived.Laws.IdiomRangeMap
import Derived.Sort.OwnSortedInts
import Derived.Deep.AppendSrc
import Derived.Lib.UnsafeStr
import Derived.Sort.OwnSorted
import Derived.Test.YthlfffbcligocaaGreatProg
import Derived.Test.YthlfffbcligocaaGreatMf1
set_option linter.unusedSectionVars false
set_option linter.unusedSimpArgs false
set_option linter.unusedVariables false
namespace Go.SL
open Go.RowKit
abbrev CtC (P : Program) (f : FuncId) (args : List Value) (B : Frag) (pre : HP) (v : Value) (post : HP) : Prop := Ct P f args B pre fun v' B' H' => v' = v ∧ B' = B ∧ H' = post
section
variable {e : Env} {ds : List Deferred} {Q : Exit → Act → World → Prop} {ρ : Sl} {B : Frag} {H pre post R : HP} {ops : Array Oper} {rest : List Oper}
theorem Ox.co {x : Operand} {xs : Array Operand} {ts : Array TypeId} {ty : TypeId} {fi : FuncId} {first caps : Array Value} {args vs : List Value} {v : Value}
    (hf : ev ρ x = some (.func (.func fi) first caps)) (hx : evl ρ xs.toList = some vs) (ha : first.toList ++ vs ++ caps.toList = args) (hc : CtC e.P fi args B pre v post) (hH : H = pre * R) :
    Ox e ds (.call { callee := .value x, args := xs, argTypes := ts }) ty ρ B H (fun v' B' H' => v' = v ∧ B' = B ∧ H' = post * R) :=
  ⟨fun _ h => (by cases h), fun a w dst pos after guard K Q f b s k => (Ox.call (ds := ds) hf hx ha hc hH).2 a w dst pos after guard K Q f b s
    fun v' B' H' w' ⟨H1, h1, h2, h3, h4⟩ hB hb hs => k v' B' H' w' ⟨h2, h3, by rw [h1, h4]⟩ hB hb hs⟩
theorem Lx.co {x : Operand} {xs : Array Operand} {ts : Array TypeId} {ty : TypeId} {pos : String} {af : Array Edge} {d : Nat} {fi : FuncId} {first caps : Array Value} {args vs : List Value} {v : Value}
    (hf : ev ρ x = some (.func (.func fi) first caps)) (hx : evl ρ xs.toList = some vs) (ha : first.toList ++ vs ++ caps.toList = args) (hc : CtC e.P fi args B pre v post) (hH : H = pre * R) (hd : Nat.blt d e.nt = true)
    (k : Lx e ds ops Q rest ((d, v) :: ρ) B (post * R)) : Lx e ds ops Q (⟨some d, .call { callee := .value x, args := xs, argTypes := ts }, ty, pos, af, none⟩ :: rest) ρ B H :=
  Lx.o (Ox.co hf hx ha hc hH) hd fun v' B' H' ⟨e1, e2, e3⟩ hB => by subst e1; subst e2; subst e3; exact k
theorem CtC.of {P : Program} {f : FuncId} {args : List Value} {v v' : Value} {post' : HP} (h : CtC P f args B pre v post) (hv : v = v') (hp : post = post') : CtC P f args B pre v' post' := by subst hv; subst hp; exact h
theorem Xx.retA {P : Program} {fn : Func} {N0 nt size : Nat} {w0 : World} {r : Option Nat} {B0 : Frag} {H' R1 : HP} {Φ : Value → Frag → HP → Prop} {t : Tmp} {ty : TypeId} {d : TypeDesc} {vs : List Value} {b : Nat} {et : TypeId} {fz : Nat × Nat}
    (hr : fn.results = #[.cell t ty]) (ht : P.underlying ty = some d) (hd : aggB d = true) (hi : (P.info? ty).map (·.size) = some size) (hv : lk ρ t = some (.pointer (some ⟨b, 0, none⟩))) [hp : PickB H b (.cells vs.toArray et fz) R1] (hl : vs.length = size)
    (hΦ : Φ (.agg vs.toArray) B H') (hB : B0.le B) (hH : R1 = H' * R) : Xx ⟨P, r, N0, w0, nt⟩ [] (bodyPost P fn (Fin N0 w0 R B0 Φ) .ret) ρ B H := fun a w f bl s => by
  have s' : St N0 B (blk b (.cells vs.toArray et fz) * R1) w := hp.eq ▸ s
  have hl := run_loadVar_row (P := P) w b et ty vs.toArray fz d s'.blk.1 ht (by cases d <;> simp_all [aggB]) (by rw [hi]; simp [hl])
  have h1 := f.get t _ hv
  refine ⟨f.defers, .agg vs.toArray, ?_, _, B, H', rfl, hΦ, hB, bl, hH ▸ s'.drop⟩
  simp [results, hr, h1, asAddr, hl]
theorem appN {R1 : HP} {t tx et ty : TypeId} {x y : Operand} {size bytes nl c nx cx b : Nat} {zs xs cs : List Value} {A : Option Addr} {tyx et' : TypeId} {fz : Nat × Nat} (n' : Nat) (news xs' : List Value)
    (ht : e.P.underlying t = some (.slice et)) (htx : e.P.underlying tx = some (.slice tyx)) (hz : TI e.P et zs size bytes)
    (hx : ev ρ x = some (.slice A nl c)) (hy : ev ρ y = some (.slice (some ⟨b, 0, none⟩) nx cx)) [h1 : PickS H A et size nl c xs R1] [h2 : PickB R1 b (.cells cs.toArray et' fz) R] (hl : news.length = nx * size) (hn : (cs.drop 0).take (nx * size) = news) (h1 : news.all (·.oneCell') = true)
    (hb : nl + nx ≤ 9223372036854775807) (hbb : (nl + nx) * bytes ≤ 140737488355328) (hn' : nl + nx = n') (hx' : xs ++ news = xs') :
    Ox e ds (.call { callee := .builtin .append, args := #[x, y], argTypes := #[t, tx] }) ty ρ B H
      (fun v B' H' => ∃ A' c', v = .slice A' n' c' ∧ (0 < n' → ∃ b, A' = some ⟨b, 0, none⟩) ∧ xs.length = nl * size ∧ n' ≤ c' ∧ B' = B ∧ H' = sbuf et size A' n' c' xs' * (blk b (.cells cs.toArray et' fz) * R)) := by
  subst hn' hx'
  exact appR ht htx hz hx hy hl hn h1 hb hbb
end
end Go.SL
namespace Go.SL
open Go.RowKit
theorem St.ne {N0 : Nat} {B : Frag} {a b : Nat} {o u : Obj} {R : HP} {w : World} (h : St N0 B (SL.blk a o * (SL.blk b u * R)) w) : a ≠ b := by
  rintro rfl
  obtain ⟨_, _, k, _, x, y, dj, _, hx, y1, y2, _, hy, h1, _⟩ := h
  have e1 : x = Frag.one a o := hx
  have e2 : y1 = Frag.one a u := h1
  subst e1 e2
  have := dj a
  rw [hy] at this
  simp [Frag.one, Frag.un] at this
section
variable {e : Env} {ds : List Deferred} {ρ : Sl} {B : Frag} {H R : HP} {t tx et et' ty tyx : TypeId} {x y : Operand} {size bytes nl nd n c b o bx : Nat} {m : Int} {k : IntKind} {P : Program} {S : World → Prop}
theorem sl1A {lo : Operand} (j : Nat) (ht : P.underlying t = some (.slice et)) (hs : (P.info? et).map (·.size) = some size) (hx : ev ρ x = some (.slice (some ⟨b, o, none⟩) n c)) (hi : ev ρ lo = some (.int k m)) (hj : m = (j : Nat)) (h1 : j ≤ n) (h2 : j < c) :
    Yx P (.slice t x (some lo) none none) ty ρ S (.slice (some ⟨b, o + j * size, none⟩) (n - j) (c - j)) := by
  subst hj
  have h := sl1V (P := P) (S := S) (ty := ty) ht hs hx hi (j := j) (Int.toNat_natCast j) (by omega) (by omega)
  have e9 : subA (some ⟨b, o, none⟩) c j size = some ⟨b, o + j * size, none⟩ := by
    unfold subA; rw [if_neg (by omega)]; simp [add_mk]
  rw [e9] at h; exact h
theorem ovQ {f : FuncId} {fn : Func} {N0 : Nat} {tS tR eS : TypeId} {na ca nb cb ob : Nat} {csa csb : List Value} {ea eb : TypeId} {Ra : HP} (hf : P.funcs[f]? = some fn) (hname : (fn.name == "runtime.NumGoroutine") = false) (hb' : fn.body.isNone = true) (hn : Extern.findNext fn = none) (hfe : Extern.find fn = some (Extern.SlicesOverlaps.overlaps #[tS, tS] #[tR]))
    (ht : P.underlying tS = some (.slice eS)) (hz : (P.info? eS).map (·.size) = some size) (hH : H = row bx ea csa * (row b eb csb * Ra)) (hlb : csb ≠ []) :
    ∀ w, St N0 B H w → (callFunc f [.slice (some ⟨bx, 0, none⟩) na ca, .slice (some ⟨b, ob, none⟩) nb cb].toArray).run P w = .ok (.value (.bool false)) w := fun w s => by
  have s' : St N0 B (row bx ea csa * (row b eb csb * Ra)) w := hH ▸ s
  exact ovP hf hname hb' hn hfe ht hz s'.ne hH hlb (.inr rfl) w s
end
theorem ins_room {α : Type} {L xs news D : List α} {p s q : Nat} (hp : p ≤ xs.length) (hs : news.length = s) (hL : p + s ≤ L.length) (hx : L.take p = xs.take p) (hD : D = xs.drop p) (hq : q = p + s + D.length) :
    ((L.take (p + s) ++ D ++ L.drop q).take p ++ news ++ (L.take (p + s) ++ D ++ L.drop q).drop (p + news.length)) = xs.take p ++ news ++ xs.drop p ++ L.drop q := by
  have h1 : (L.take (p + s)).length = p + s := by simp; omega
  rw [List.append_assoc (L.take (p + s)), List.take_append_of_le_length (by omega), List.take_take, Nat.min_eq_left (by omega), hx, hs, List.drop_append, h1, Nat.sub_self, List.drop_of_length_le (by omega), hD]
  simp
theorem ins_grow1 {α : Type} {olds rest news : List α} {p s : Nat} (hp : olds.length = p) (hs : news.length = s) (hr : s ≤ rest.length) :
    (olds ++ rest).take p ++ news ++ (olds ++ rest).drop (p + news.length) = olds ++ news ++ rest.drop s := by
  rw [← hp, List.take_left, List.drop_append, hs]
  simp
theorem ins_grow2 {α : Type} {olds news rest D : List α} {p s : Nat} (hp : olds.length = p) (hs : news.length = s) :
    (olds ++ news ++ rest).take (p + s) ++ D ++ (olds ++ news ++ rest).drop (p + s + D.length) = olds ++ news ++ D ++ rest.drop D.length := by
  have h1 : (olds ++ news).length = p + s := by simp [hp, hs]
  rw [← h1, List.take_left, List.drop_append]
  simp
theorem Ct.of_sbuf {P : Program} {f : FuncId} {args : List Value} {B : Frag} {et : TypeId} {size n c : Nat} {A : Option Addr} {xs : List Value} {q : HP} {Φ : Value → Frag → HP → Prop} (hn : 0 < n)
    (h : ∀ b sp, A = some ⟨b, 0, none⟩ → xs.length = n * size → n ≤ c → (xs ++ sp).length = c * size → Ct P f args B (q * row b et (xs ++ sp)) Φ) (he : ∀ args w, (callFunc f args).run P w = .ok (.enter f args) w) : Ct P f args B (sbuf et size A n c xs * q) Φ :=
  ⟨he, fun N0 w R s => by
    rcases (s.of_eq (star_assoc _ _ _)).cases_sbuf with ⟨_, h2, _⟩ | ⟨b, sp, h1, h2, h3, h4, s'⟩
    · omega
    · exact (h b sp h1 h2 h3 h4).2 N0 w R (s'.of_eq (by rw [← star_assoc, star_comm (row b et (xs ++ sp)) q]))⟩
theorem row_sbuf {et : TypeId} {size b n c : Nat} {xs sp : List Value} (h1 : xs.length = n * size) (h2 : n ≤ c) (h3 : (xs ++ sp).length = c * size) {N0 : Nat} {B : Frag} {R : HP} {w : World} (s : St N0 B (row b et (xs ++ sp) * R) w) : St N0 B (sbuf et size (some ⟨b, 0, none⟩) n c xs * R) w := St.of_sbuf h1 h2 h3 s
section
variable {e : Env} {ds : List Deferred} {K : Act → World → Prop} {ρ : Sl} {B : Frag} {H R : HP}
theorem Xx.openT (A : Option Addr) {et : TypeId} {size n c : Nat} {xs : List Value} [hp : PickS H A et size n c xs R] (hn : 0 < n)
    (h : ∀ b sp, A = some ⟨b, 0, none⟩ → xs.length = n * size → n ≤ c → (xs ++ sp).length = c * size → Xx e ds K ρ B (row b et (xs ++ sp) * R)) : Xx e ds K ρ B H :=
  Xx.perm (fun a w f b s => by
    rcases s.cases_sbuf with ⟨_, h2, _⟩ | ⟨bb, sp, h1, h2, h3, h4, s'⟩
    · omega
    · exact h bb sp h1 h2 h3 h4 a w f b s') hp.eq
theorem Xx.closeT (b : Nat) {et : TypeId} {cs : List Value} (xs sp : List Value) (size n c : Nat) [hp : PickB H b (.cells cs.toArray et (0, 0)) R] (hcs : cs = xs ++ sp) (h1 : xs.length = n * size) (h2 : n ≤ c) (h3 : (xs ++ sp).length = c * size)
    (h : Xx e ds K ρ B (sbuf et size (some ⟨b, 0, none⟩) n c xs * R)) : Xx e ds K ρ B H := by
  subst hcs
  exact Xx.perm (fun a w f b s => h a w f b (St.of_sbuf h1 h2 h3 s)) hp.eq
end
end Go.SL
namespace Go.SL
open Go.RowKit
section
variable {e : Env} {ds : List Deferred} {Q : Exit → Act → World → Prop} {ρ : Sl} {B : Frag} {H : HP} {ops : Array Oper} {J : Nat → World → Prop} {fuel : Nat} {listed : Array Bool}
theorem Dx.four {i j l m : Nat} (hr : Region.ready .any ops listed = [i, j, l, m]) (h : Dstep e ds ops Q J fuel listed ρ B H i) (h2 : Dstep e ds ops Q J fuel listed ρ B H j) (h3 : Dstep e ds ops Q J fuel listed ρ B H l) (h4 : Dstep e ds ops Q J fuel listed ρ B H m) : Dx e ds ops Q J (fuel + 1) listed ρ B H :=
  Dx.all hr (by simp) fun k hk => by
    simp at hk
    rcases hk with rfl | rfl | rfl | rfl
    · exact h
    · exact h2
    · exact h3
    · exact h4
end
end Go.SL
namespace Go.SL
open Go.RowKit
def Frag.apart (k B : Frag) : Prop := ∀ b o, k b = some o → B b = Option.none
theorem Frag.un_right {B k : Frag} (h : k.apart B) {b : Nat} {o : Obj} (hb : k b = some o) : Frag.un B k b = some o := by
  simp [Frag.un, h b o hb, hb]
theorem Frag.le_un (B k : Frag) : B.le (Frag.un B k) := fun b o h => by simp [Frag.un, h]
theorem St.lend {N0 : Nat} {B : Frag} {p R : HP} {w : World} (h : St N0 B (p * R) w) :
    ∃ k : Frag, p k ∧ k.apart B ∧ St N0 (Frag.un B k) R w ∧ ∀ R' w', St N0 (Frag.un B k) R' w' → St N0 B (p * R') w' := by
  obtain ⟨hr, hz, f, hf, k, c, d, e, x, y⟩ := h
  have hk : ∀ b o, k b = some o → w.heap[b]? = some o ∧ B b = Option.none ∧ N0 ≤ b := fun b o hb => hf b o (by rw [e]; simp [Frag.un, hb])
  have hc : ∀ b o, c b = some o → k b = Option.none := fun b o hb => by
    rcases d b with z | z
    · exact z
    · rw [z] at hb; cases hb
  have hap : k.apart B := fun b o hb => (hk b o hb).2.1
  refine ⟨k, x, hap, ⟨fun b o hb => ?_, hz, c, fun b o hb => ?_, y⟩, fun R' w' s => ?_⟩
  · simp only [Frag.un] at hb
    cases hB : B b with
    | some u => rw [hB] at hb; simp at hb; subst hb; exact hr b u hB
    | none => rw [hB] at hb; simp at hb; exact (hk b o hb).1
  · have h1 := hf b o (by rw [e]; simp [Frag.un, hc b o hb, hb])
    exact ⟨h1.1, by simp [Frag.un, h1.2.1, hc b o hb], h1.2.2⟩
  · obtain ⟨hr', hz', f', hf', y'⟩ := s
    have hd : ∀ b o, f' b = some o → k b = Option.none := fun b o hb => by
      have := (hf' b o hb).2.1
      simp only [Frag.un, Option.or_eq_none_iff] at this
      exact this.2
    refine ⟨fun b o hb => hr' b o (Frag.le_un B k b o hb), hz', Frag.un k f', fun b o hb => ?_, k, f', fun b => ?_, rfl, x, y'⟩
    · simp only [Frag.un] at hb
      cases hkb : k b with
      | some u =>
        rw [hkb] at hb; simp at hb; subst hb
        exact ⟨hr' b u (Frag.un_right hap hkb), (hk b u hkb).2⟩
      | none =>
        rw [hkb] at hb; simp at hb
        obtain ⟨g1, g2, g3⟩ := hf' b o hb
        simp only [Frag.un, Option.or_eq_none_iff] at g2
        exact ⟨g1, g2.1, g3⟩
    · cases hfb : f' b with
      | none => exact .inr rfl
      | some u => exact .inl (hd b u hfb)
theorem CtC.lend {P : Program} {f : FuncId} {args : List Value} {B : Frag} {p : HP} {v : Value} (he : ∀ args w, (callFunc f args).run P w = .ok (.enter f args) w)
    (h : ∀ k : Frag, p k → k.apart B → CtP P f args (Frag.un B k) v) : CtC P f args B p v p :=
  ⟨he, fun N0 w R s => by
    obtain ⟨k, hk, hap, s', back⟩ := s.lend
    refine ((h k hk hap).2 N0 w R s').mono ?_
    rintro x w' ⟨v', B', hx, ⟨rfl, rfl⟩, _, hb, s2⟩
    exact ⟨v', B, p, hx, ⟨rfl, rfl, rfl⟩, Fl _, hb, back R w' s2⟩⟩
theorem Ct.lend {P : Program} {f : FuncId} {args : List Value} {B : Frag} {p q : HP} {Φ : Value → HP → Prop} (he : ∀ args w, (callFunc f args).run P w = .ok (.enter f args) w)
    (h : ∀ k : Frag, p k → k.apart B → Ct P f args (Frag.un B k) q (fun v B' H' => B' = Frag.un B k ∧ Φ v H')) : Ct P f args B (p * q) (fun v B' H' => B' = B ∧ ∃ H0, Φ v H0 ∧ H' = p * H0) :=
  ⟨he, fun N0 w R s => by
    obtain ⟨k, hk, hap, s', back⟩ := (s.of_eq (star_assoc _ _ _)).lend
    refine ((h k hk hap).2 N0 w R s').mono ?_
    rintro x w' ⟨v', B', H', hx, ⟨rfl, hΦ⟩, _, hb, s2⟩
    exact ⟨v', B, _, hx, ⟨rfl, H', hΦ, rfl⟩, Fl _, hb, (back _ w' s2).of_eq (star_assoc _ _ _).symm⟩⟩
theorem sbuf_ro {B k : Frag} {et : TypeId} {size n c : Nat} {A : Option Addr} {xs : List Value} (h : sbuf et size A n c xs k) (ha : k.apart B) : RoS (Frag.un B k) size A n xs ∧ n ≤ c := by
  rcases h with ⟨e1, e2, e3, e4, e5⟩ | ⟨b, sp, e1, e2, e3, e4, e5⟩
  · subst e1 e2 e3 e4; exact ⟨RoS.nil _ _, Nat.le_refl _⟩
  · subst e5
    refine ⟨⟨e2, .inr ⟨b, 0, xs ++ sp, et, (0, 0), e1, ?_, ?_⟩⟩, e3⟩
    · exact Frag.un_right ha (by simp [Frag.one])
    · rw [List.drop_zero, ← e2, List.take_left]
section
variable {e : Env} {ds : List Deferred} {K : Act → World → Prop} {ρ : Sl} {B : Frag} {H R : HP}
theorem Xx.addrT (A : Option Addr) {et : TypeId} {size n c : Nat} {xs : List Value} [hp : PickS H A et size n c xs R] (hn : 0 < n)
    (h : ∀ b, A = some ⟨b, 0, none⟩ → xs.length = n * size → n ≤ c → Xx e ds K ρ B H) : Xx e ds K ρ B H := fun a w f b s => by
  have s' := s.of_eq hp.eq
  rcases s'.cases_sbuf with ⟨_, h2, _⟩ | ⟨bb, sp, h1, h2, h3, _, _⟩
  · omega
  · exact h bb h1 h2 h3 a w f b s
theorem Xx.factT (A : Option Addr) {et : TypeId} {size n c : Nat} {xs : List Value} [hp : PickS H A et size n c xs R]
    (h : xs.length = n * size → n ≤ c → Xx e ds K ρ B H) : Xx e ds K ρ B H := fun a w f b s => by
  have s' := s.of_eq hp.eq
  rcases s'.cases_sbuf with ⟨_, h2, h3, h4, _⟩ | ⟨bb, sp, h1, h2, h3, _, _⟩
  · exact h (by simp [h2, h4]) (by omega) a w f b s
  · exact h h2 h3 a w f b s
theorem Cells.buf {N0 b n c size m o : Nat} {xs vs : List Value} {et : TypeId} [hp : PickS H (some ⟨b, 0, none⟩) et size n c xs R] (hv : (xs.drop o).take m = vs) (hm : o + m ≤ xs.length) : Cells N0 B H b o vs := by
  intro w s j v hj
  have s' := s.of_eq hp.eq
  rcases s'.cases_sbuf with ⟨h1, _⟩ | ⟨bb, sp, h1, h2, h3, h4, s2⟩
  · cases h1
  · injection h1 with h1
    injection h1 with h1
    subst h1
    have hv2 : ((xs ++ sp).drop o).take m = vs := by rw [List.drop_append_of_le_length (by omega), List.take_append_of_le_length (by rw [List.length_drop]; omega)]; exact hv
    exact Co (H := blk b (.cells (xs ++ sp).toArray et (0, 0)) * R) rfl hv2 w s2 j v hj
theorem pickSB (A : Option Addr) (b : Nat) {et : TypeId} {size n c : Nat} {xs : List Value} {R1 : HP} {o : Obj} [h1 : PickS H A et size n c xs R1] [h2 : PickB R1 b o R] : H = (sbuf et size A n c xs * blk b o) * R := by
  rw [PickS.eq (H := H) (A := A), h2.eq, star_assoc]
theorem pickS (A : Option Addr) {et : TypeId} {size n c : Nat} {xs : List Value} [h1 : PickS H A et size n c xs R] : H = sbuf et size A n c xs * R := h1.eq
end
end Go.SL
namespace Go.SL
open Go.RowKit
def LKd (e : Env) (I : Nat → List Deferred → Sl → Frag → HP → Prop) (m : Nat) (a : Act) (w : World) : Prop :=
  ∃ m' ds ρ B H, m' < m ∧ I m' ds ρ B H ∧ Fr ρ e.nt ds a ∧ Below e.N0 e.w0 w ∧ St e.N0 B H w
section
variable {e : Env} {ds : List Deferred} {Q : Exit → Act → World → Prop} {ρ ρ' : Sl} {B : Frag} {H : HP}
open Classical in
abbrev KD (σ : Sl) (I : Nat → List Nat → Sl → Frag → HP → Prop) : Nat → List Deferred → Sl → Frag → HP → Prop :=
  fun m ds ρ B H => ∃ Ds ρ', ds = List.map mark Ds ∧ ρ = ρ' ++ σ ∧ I m Ds ρ' B H
theorem Xx.eM {P : Program} {r : Option Nat} {N0 nt : Nat} {w0 : World} {B0 : Frag} {H' R : HP} {fn : Func} {Φ : Value → Frag → HP → Prop} {v : Value} (Ds : List Nat) (hds : ds = List.map mark Ds) (hr : ∀ a w, Fr ρ nt ds a → St N0 B (H' * R) w → (results fn a.tmps).run P w = .ok v w)
    (hΦ : Φ v B H') (hB : B0.le B) (hH : H = marks Ds * (H' * R)) : Xx ⟨P, r, N0, w0, nt⟩ ds (bodyPostM (FW none) 0 P fn (Fin N0 w0 R B0 Φ) .normal) ρ B H := by
  subst hds
  exact Xx.rM hr hΦ hB hH
theorem marks_cons (D : Nat) (l : List Nat) : marks (D :: l) = blk D dfr * marks l := rfl
theorem marks_nil : marks [] = 1 := rfl
end
section
variable {e : Env} {ds : List Deferred} {ρ : Sl} {B : Frag} {H R : HP} {t tx et et' ty tyx : TypeId} {x y : Operand} {size bytes nl nx c cx b o : Nat} {zs news cs cs' : List Value} {Ax : Option Addr}
theorem apR (ht : e.P.underlying t = some (.slice et)) (htx : e.P.underlying tx = some (.slice tyx)) (hz : TI e.P et zs size bytes)
    (hx : ev ρ x = some (.slice (some ⟨b, o, none⟩) nl c)) (hy : ev ρ y = some (.slice Ax nx cx)) [hp : PickB H b (.cells cs.toArray et (0, 0)) R]
    (hS : SrcH e.N0 B H Ax news) (hl : news.length = nx * size) (h1 : news.all (·.oneCell') = true) (hroom : nl + nx ≤ c) (hfit : o + nl * size + news.length ≤ cs.length) (hr : cs.take (o + nl * size) ++ news ++ cs.drop (o + nl * size + news.length) = cs') :
    Ox e ds (.call { callee := .builtin .append, args := #[x, y], argTypes := #[t, tx] }) ty ρ B H (fun v B' H' => v = .slice (some ⟨b, o, none⟩) (nl + nx) c ∧ B' = B ∧ H' = row b et cs' * R) :=
  .of_run (fun _ h => by cases h) fun f w dst pos after guard he s => by
    subst hr
    obtain ⟨i, zv, z1, z2, z3, z4, z5, z6, z7⟩ := hz
    have s' : St e.N0 B (blk b (.cells cs.toArray et (0, 0)) * R) w := hp.eq ▸ s
    have hfc := St.src (P := e.P) (nx := nx) hS hl s nx cx
    have hst := run_storeCells_at (P := e.P) b (o + nl * size) et news 0 cs.toArray w s'.blk.1 (by simpa using hfit) (by simpa using h1)
    simp only [List.toList_toArray, Nat.add_zero] at hst
    have hap : (Builtin.append_ #[t, tx] ty #[.slice (some ⟨b, o, none⟩) nl c, .slice Ax nx cx]).run e.P w = .ok (.slice (some ⟨b, o, none⟩) (nl + nx) c) (w.setRow b (cs.take (o + nl * size) ++ news ++ cs.drop (o + nl * size + news.length)).toArray) := by
      simp only [Builtin.append_, Sem.run_bind, Sem.run_pure, Result.andThen, run_underlying ht, run_underlying htx, sizeOf, typeInfo, run_program, z1, z4, Builtin.lenOf, hroom, if_true, hfc, add_mk, hst, List.getElem?_toArray, List.getElem?_cons_zero, List.getElem?_cons_succ]
      simp [hroom, hfc, hst]
    refine ⟨_, _, B, _, ?_, ⟨rfl, rfl, rfl⟩, Fl _, (s'.setRow _).2, (s'.setRow _).1⟩
    simp [execOp, resolve, he _ _ hx, he _ _ hy, invoke, builtin, hap]
theorem sl4V {P : Program} {S : World → Prop} {A : Option Addr} {n : Nat} {lo hi mx : Operand} {k1 k2 k3 : IntKind} {m z q : Int} (ht : P.underlying t = some (.slice et)) (hs : (P.info? et).map (·.size) = some size) (hx : ev ρ x = some (.slice A n c))
    (hl : ev ρ lo = some (.int k1 m)) (hh : ev ρ hi = some (.int k2 z)) (hm : ev ρ mx = some (.int k3 q)) (h0 : 0 ≤ m) (h1 : m ≤ z) (h2 : z ≤ q) (h3 : q ≤ c) :
    Yx P (.slice t x (some lo) (some hi) (some mx)) ty ρ S (.slice (subA A q.toNat m.toNat size) (z.toNat - m.toNat) (q.toNat - m.toNat)) := .of (fun _ h => by cases h) fun f w _ _ _ _ he _ => by
  have g1 : m ≤ (z.toNat : Int) := by omega
  have g2 : z ≤ (q.toNat : Int) := by omega
  have g3 : 0 ≤ z := by omega
  have g4 : 0 ≤ q := by omega
  have hb : (Instr.sliceBounds true n c (some (.int k1 m)) (some (.int k2 z)) (some (.int k3 q))).run P w = .ok (m.toNat, z.toNat, q.toNat) w := by
    simp [Instr.sliceBounds, Instr.sliceBound, asIntOf, h0, h1, h2, h3, g1, g2, g3, g4]
    rw [show max q 0 = q by omega, show max z 0 = z by omega, if_pos h2, if_pos h1]
  cases hq : P.info? et with
  | none => simp [hq] at hs
  | some i =>
    have hi' : i.size = size := by simpa [hq] using hs
    have : (Instr.sliceAt t (.slice A n c) (some (.int k1 m)) (some (.int k2 z)) (some (.int k3 q))).run P w = .ok (.slice (subA A q.toNat m.toNat size) (z.toNat - m.toNat) (q.toNat - m.toNat)) w := by
      simp only [Instr.sliceAt, Sem.run_bind, run_underlying ht, Result.andThen, Instr.slice, hb, sizeOf, typeInfo, run_program, hq, hi', Sem.run_pure, subA]
    simp only [execOp, Option.map_some, he _ _ hx, he _ _ hl, he _ _ hh, he _ _ hm, Sem.run_bind, this, Result.andThen, Sem.run_pure]
theorem SrcH.sub {N0 j n : Nat} {xs sp : List Value} {fz : Nat × Nat} [hp : PickB H b (.cells (xs ++ sp).toArray et fz) R] (hx : xs.length = n * size) (hj : j ≤ n) (hn : n ≤ c) : SrcH N0 B H (subA (some ⟨b, 0, none⟩) c j size) (xs.drop (j * size)) := by
  by_cases e : c = j
  · exact .inl (List.drop_of_length_le (by rw [hx]; exact Nat.mul_le_mul_right _ (by omega)))
  · have e9 : subA (some ⟨b, 0, none⟩) c j size = some ⟨b, 0 + j * size, none⟩ := by
      unfold subA; rw [if_neg e]; simp [add_mk]
    rw [e9]
    have hle : j * size ≤ n * size := Nat.mul_le_mul_right _ hj
    refine SrcH.own (n * size - j * size) ?_
    rw [Nat.zero_add, List.drop_append_of_le_length (by omega), List.take_append_of_le_length (by rw [List.length_drop]; omega), List.take_of_length_le (by rw [List.length_drop]; omega)]
theorem sl3A {P : Program} {S : World → Prop} {n : Nat} {lo hi : Operand} {k1 k2 : IntKind} {m z : Int} (i j : Nat) (ht : P.underlying t = some (.slice et)) (hs : (P.info? et).map (·.size) = some size) (hx : ev ρ x = some (.slice (some ⟨b, o, none⟩) n c)) (hl : ev ρ lo = some (.int k1 m)) (hh : ev ρ hi = some (.int k2 z)) (hi' : m = (i : Nat)) (hj : z = (j : Nat)) (h1 : i ≤ j) (h2 : j ≤ c) (h3 : i < c) :
    Yx P (.slice t x (some lo) (some hi) none) ty ρ S (.slice (some ⟨b, o + i * size, none⟩) (j - i) (c - i)) := by
  subst hi' hj
  have h := sl3V (P := P) (S := S) (ty := ty) ht hs hx hl hh (i := i) (j := j) (Int.toNat_natCast i) (Int.toNat_natCast j) (by omega) (by omega) (by omega)
  have e9 : subA (some ⟨b, o, none⟩) c i size = some ⟨b, o + i * size, none⟩ := by
    unfold subA; rw [if_neg (by omega)]; simp [add_mk]
  rw [e9] at h; exact h
theorem clO {k : Nat} (ht : e.P.underlying t = some (.slice et)) (hz : TI e.P et zs size bytes) (hx : ev ρ x = some (.slice (some ⟨b, o, none⟩) k c)) [hp : PickB H b (.cells cs.toArray et (0, 0)) R]
    (hk : 0 < k) (h1 : zs.all (·.oneCell') = true) (hfit : o + k * size ≤ cs.length) :
    Ox e ds (.call { callee := .builtin .clear, args := #[x], argTypes := #[t] }) ty ρ B H (fun v B' H' => v = .tuple #[] ∧ B' = B ∧ ∃ zz : List Value, zz.length = k * size ∧ H' = row b et (cs.take o ++ zz ++ cs.drop (o + k * size)) * R) :=
  .of_run (fun _ h => by cases h) fun f w dst pos after guard he s => by
    obtain ⟨i, zv, z1, z2, z3, z4, z5, z6, z7⟩ := hz
    have s' : St e.N0 B (blk b (.cells cs.toArray et (0, 0)) * R) w := hp.eq ▸ s
    obtain ⟨zz, hzz, hzl, hz1⟩ : ∃ zz : List Value, (Builtin.zeroCells zv.cells k).toList = zz ∧ zz.length = k * size ∧ zz.all (·.oneCell') = true := by
      refine ⟨_, rfl, by simp [Builtin.zeroCells, z3, z6], ?_⟩
      rw [List.all_eq_true] at h1 ⊢
      intro v hv
      simp only [Builtin.zeroCells, z3] at hv
      simp at hv
      obtain ⟨q, _, rfl⟩ := hv
      have hq : q % zs.length < zs.length := Nat.mod_lt _ (by omega)
      rw [List.getElem?_eq_getElem hq]
      exact h1 _ (List.getElem_mem hq)
    have hst := run_storeCells_at (P := e.P) b o et zz 0 cs.toArray w s'.blk.1 (by rw [hzl]; simpa using hfit) (by simpa using hz1)
    simp only [List.toList_toArray, Nat.add_zero, hzl] at hst
    obtain ⟨k, rfl⟩ : ∃ k', k = k' + 1 := ⟨k - 1, by omega⟩
    have hcl : (Builtin.clear_ #[t] ty #[.slice (some ⟨b, o, none⟩) (k + 1) c]).run e.P w = .ok (.tuple #[]) (w.setRow b (cs.take o ++ zz ++ cs.drop (o + (k + 1) * size)).toArray) := by
      simp [Builtin.clear_, run_underlying ht, zeroValue, typeInfo, z1, z2, hzz, hst]
    refine ⟨_, _, B, _, ?_, ⟨rfl, rfl, zz, hzl, rfl⟩, Fl _, (s'.setRow _).2, (s'.setRow _).1⟩
    simp [execOp, resolve, he _ _ hx, invoke, builtin, hcl]
theorem bslZ (ht : e.P.underlying t = some (.slice et)) (hz : TI e.P et zs size bytes) :
    Ox e ds (.buildSlice t 0 #[]) ty ρ B H (fun v B' H' => ∃ b, v = .slice (some ⟨b, 0, none⟩) 0 0 ∧ B' = B ∧ H' = sbuf et size (some ⟨b, 0, none⟩) 0 0 [] * H) :=
  have h := bslO (e := e) (ds := ds) (ρ := ρ) (B := B) (H := H) (ty := ty) (parts := #[]) (vs := []) (len := 0) ht hz rfl rfl (fun v hv => by cases hv) (by omega)
  ⟨h.1, fun a w dst pos after guard K Q f b s k => h.2 a w dst pos after guard K Q f b s fun v B' H' w' ⟨b1, e1, e2, e3⟩ hB hb hs => k v B' _ w' ⟨b1, e1, e2, rfl⟩ hB hb (by
    subst e3
    exact St.of_sbuf (xs := []) (sp := []) (by simp) (Nat.le_refl _) (by simp) hs)⟩
theorem appB {A : Option Addr} {xs : List Value} (n' : Nat) (xs' : List Value) (ht : e.P.underlying t = some (.slice et)) (htx : e.P.underlying tx = some (.slice tyx)) (hz : TI e.P et zs size bytes)
    (hx : ev ρ x = some (.slice A nl c)) (hy : ev ρ y = some (.slice Ax nx cx)) [hp : PickS H A et size nl c xs R] (hs : RoS B size Ax nx news) (h1 : news.all (·.oneCell') = true)
    (hb : nl + nx ≤ 9223372036854775807) (hbb : (nl + nx) * bytes ≤ 140737488355328) (hn : nl + nx = n') (hxs : xs ++ news = xs') :
    Ox e ds (.call { callee := .builtin .append, args := #[x, y], argTypes := #[t, tx] }) ty ρ B H
      (fun v B' H' => ∃ A' c', v = .slice A' n' c' ∧ (0 < n' → ∃ b, A' = some ⟨b, 0, none⟩) ∧ n' ≤ c' ∧ B' = B ∧ H' = sbuf et size A' n' c' xs' * R) := by
  subst hn hxs
  have h := appO (e := e) (ds := ds) (ρ := ρ) (B := B) (H := H) (ty := ty) (R := R) (p := 1) ht htx hz hx hy (hs.src 1) h1 (by rw [one_star]; exact hp.eq) hb hbb
  exact ⟨h.1, fun a w dst pos after guard K Q f b s k => h.2 a w dst pos after guard K Q f b s fun v B' H' w' ⟨A', c', e1, e2, e3, e4, e5, e6⟩ hB hb hs => k v B' _ w' ⟨A', c', e1, e2, e4, e5, rfl⟩ hB hb (by rw [e6, one_star] at hs; exact hs)⟩
theorem RoS.take {B : Frag} {n j : Nat} {A : Option Addr} {xs : List Value} (h : RoS B size A n xs) (hj : j ≤ n) : RoS B size A j (xs.take (j * size)) := by
  have hle : j * size ≤ n * size := Nat.mul_le_mul_right _ hj
  obtain ⟨h1, ⟨h2, h3⟩ | ⟨b2, o, cs, et, fz, h3, h4, h5⟩⟩ := h
  · exact ⟨by rw [List.length_take]; omega, .inl ⟨h2, by omega⟩⟩
  · exact ⟨by rw [List.length_take]; omega, .inr ⟨b2, o, cs, et, fz, h3, h4, by rw [← h5, List.take_take, Nat.min_eq_left hle]⟩⟩
end
end Go.SL
namespace Go.SL
open Go.RowKit
open Go.ChangeMaps (setBlock)
abbrev Me := Int × Value × Nat
def me (t : Me) : MapEntry := ⟨.int .i64 t.1, t.2.1, t.2.2⟩
def Stp (T : List Me) (c : Nat) : Prop := (T.map fun t => t.2.2).Nodup ∧ ∀ t ∈ T, t.2.2 < c
def kvs (T : List Me) : List (Int × Value) := T.map fun t => (t.1, t.2.1)
abbrev mapObj (T : List Me) (c : Nat) : Obj := .map (T.map me).toArray c
def imap (b : Nat) (l : List (Int × Value)) : HP := fun h => ∃ T c, Stp T c ∧ kvs T = l ∧ blk b (mapObj T c) h
def mget (k : Int) : List (Int × Value) → Option Value
  | [] => none
  | (j, v) :: l => if k = j then some v else mget k l
def mset (k : Int) (v : Value) : List (Int × Value) → List (Int × Value)
  | [] => [(k, v)]
  | (j, u) :: l => if k = j then (k, v) :: l else (j, u) :: mset k v l
def mdel (k : Int) : List (Int × Value) → List (Int × Value)
  | [] => []
  | (j, u) :: l => if k = j then l else (j, u) :: mdel k l
def mix (k : Int) : List Me → Option (Nat × Value)
  | [] => none
  | t :: T => if k = t.1 then some (0, t.2.1) else (mix k T).map fun p => (p.1 + 1, p.2)
theorem mix_get (k : Int) (T : List Me) : (mix k T).map (·.2) = mget k (kvs T) := by
  induction T with
  | nil => rfl
  | cons t T ih =>
    show _ = mget k ((t.1, t.2.1) :: kvs T)
    simp only [mix, mget]
    split
    · rfl
    · rw [← ih, Option.map_map]; rfl
theorem find_me (k : Int) : ∀ (T : List Me) (i : Nat), Instr.findNow (.int .i64) (.int .i64 k) (T.map me) i = some ((mix k T).map fun p => (i + p.1, p.2)) := by
  intro T
  induction T with
  | nil => intro i; rfl
  | cons t T ih =>
    intro i
    show (match Instr.sameNow (.int .i64) (.int .i64 k) (.int .i64 t.1) with | some true => some (some (i, t.2.1)) | some false => Instr.findNow (.int .i64) (.int .i64 k) (T.map me) (i + 1) | none => none) = _
    have e : Instr.sameNow (.int .i64) (.int .i64 k) (.int .i64 t.1) = some (k == t.1) := by simp [Instr.sameNow]
    rw [e]
    by_cases h : k = t.1
    · rw [beq_iff_eq.2 h]
      simp [mix, h]
    · rw [beq_eq_false_iff_ne.2 h]
      simp only [mix, if_neg h, ih, Option.map_map]
      congr 2
      funext p
      simp only [Function.comp_apply, Prod.mk.injEq, and_true]
      omega
section
variable {P : Program} {w : World} {t kt et : TypeId} {b c : Nat} {T : List Me} {k : Int}
theorem run_find (hk : P.underlying kt = some (.int .i64)) : (Instr.findKey kt (.int .i64 k) (T.map me)).run P w = .ok (mix k T) w := by
  simp only [Instr.findKey, Sem.run_bind, run_underlying hk, Result.andThen, find_me, Sem.run_pure]
  simp
theorem run_check (hk : P.underlying kt = some (.int .i64)) (e : Bool) : (Instr.checkKey e 10000 kt (.int .i64 k)).run P w = .ok () w := by
  have h : ∀ n, (Instr.checkKey e (n + 1) kt (.int .i64 k)).run P w = .ok () w := fun n => by simp [Instr.checkKey, run_underlying hk, Result.andThen]
  exact h 9999
theorem run_look (ht : P.underlying t = some (.map kt et)) (hk : P.underlying kt = some (.int .i64)) (hb : w.heap[b]? = some (mapObj T c)) {z : Value} (hz : (zeroValue et).run P w = .ok z w) (ok : Bool) :
    (Instr.lookup t (.map (some b)) (.int .i64 k) ok).run P w = .ok (if ok then .tuple #[(mget k (kvs T)).getD z, .bool (mget k (kvs T)).isSome] else (mget k (kvs T)).getD z) w := by
  rw [← mix_get]
  cases h : mix k T with
  | none => simp [Instr.lookup, run_underlying ht, MapKept.run_getObj_map hb, run_check hk, run_find hk, h, hz, Result.andThen]
  | some p => simp [Instr.lookup, run_underlying ht, MapKept.run_getObj_map hb, run_check hk, run_find hk, h, Result.andThen]
theorem mix_at : ∀ {T : List Me} {p : Nat × Value}, mix k T = some p → ∃ t, T[p.1]? = some t ∧ t.1 = k ∧ t.2.1 = p.2 := by
  intro T
  induction T with
  | nil => intro p h; cases h
  | cons t T ih =>
    intro p h
    simp only [mix] at h
    split at h
    · rename_i e
      cases h
      exact ⟨t, rfl, e.symm, rfl⟩
    · obtain ⟨q, hq, rfl⟩ := Option.map_eq_some_iff.1 h
      obtain ⟨u, h1, h2, h3⟩ := ih hq
      exact ⟨u, by simpa using h1, h2, h3⟩
def newV (k : Int) (v : Value) (t : Me) : Me := (k, v, t.2.2)
theorem kvs_mod {v : Value} : ∀ {T : List Me} {p : Nat × Value}, mix k T = some p → kvs (T.modify p.1 (newV k v)) = mset k v (kvs T) := by
  intro T
  induction T with
  | nil => intro p h; cases h
  | cons t T ih =>
    intro p h
    show _ = mset k v ((t.1, t.2.1) :: kvs T)
    simp only [mix] at h
    split at h
    · rename_i e
      cases h
      simp only [mset, if_pos e]
      rfl
    · rename_i e
      obtain ⟨q, hq, rfl⟩ := Option.map_eq_some_iff.1 h
      simp only [mset, if_neg e, ← ih hq]
      rfl
theorem kvs_push {v : Value} : ∀ {T : List Me}, mix k T = none → kvs (T ++ [(k, v, c)]) = mset k v (kvs T) := by
  intro T
  induction T with
  | nil => intro h; rfl
  | cons t T ih =>
    intro h
    show (t.1, t.2.1) :: kvs (T ++ [(k, v, c)]) = mset k v ((t.1, t.2.1) :: kvs T)
    simp only [mix] at h
    split at h
    · cases h
    · rename_i e
      simp only [mset, if_neg e]
      rw [ih (by simpa using h)]
theorem map_modify {α β : Type} (f : α → β) (g : α → α) (g' : β → β) (h : ∀ x, f (g x) = g' (f x)) : ∀ (l : List α) (j : Nat), (l.modify j g).map f = (l.map f).modify j g' := by
  intro l
  induction l with
  | nil => intro j; simp
  | cons x l ih =>
    intro j
    cases j with
    | zero => simp [h]
    | succ j => simp [ih]
theorem Stp.push {v : Value} (h : Stp T c) : Stp (T ++ [(k, v, c)]) (c + 1) := by
  obtain ⟨h1, h2⟩ := h
  refine ⟨?_, fun t ht => ?_⟩
  · rw [List.map_append, List.nodup_append]
    refine ⟨h1, by simp, fun a ha b hb => ?_⟩
    obtain ⟨t, ht, rfl⟩ := List.mem_map.1 ha
    have := h2 t ht
    simp at hb
    omega
  · rcases List.mem_append.1 ht with ht | ht
    · have := h2 t ht; omega
    · simp at ht; subst ht; exact Nat.lt_succ_self _
theorem Stp.stamps {T' : List Me} (h : Stp T c) (e : T'.map (fun t => t.2.2) = T.map fun t => t.2.2) : Stp T' c := by
  refine ⟨by rw [e]; exact h.1, fun t ht => ?_⟩
  have : t.2.2 ∈ T'.map (fun t => t.2.2) := List.mem_map.2 ⟨t, ht, rfl⟩
  rw [e] at this
  obtain ⟨u, hu, e2⟩ := List.mem_map.1 this
  rw [← e2]; exact h.2 u hu
theorem Stp.mod {v : Value} {j : Nat} (h : Stp T c) : Stp (T.modify j (newV k v)) c := h.stamps (by
  rw [map_modify (fun t : Me => t.2.2) (newV k v) id (fun x => rfl)]
  induction T.map (fun t : Me => t.2.2) generalizing j with
  | nil => simp
  | cons x l ih => cases j with
    | zero => simp
    | succ j => simp [ih])
theorem run_mset (ht : P.underlying t = some (.map kt et)) (hk : P.underlying kt = some (.int .i64)) (hb : w.heap[b]? = some (mapObj T c)) (hs : Stp T c) (v : Value) :
    ∃ T' c', (Instr.mapUpdate t (.map (some b)) (.int .i64 k) v).run P w = .ok () (setBlock w b (mapObj T' c')) ∧ Stp T' c' ∧ kvs T' = mset k v (kvs T) := by
  cases h : mix k T with
  | none =>
    refine ⟨T ++ [(k, v, c)], c + 1, ?_, hs.push, kvs_push h⟩
    have e : ((T ++ [(k, v, c)]).map me).toArray = (T.map me).toArray.push ⟨.int .i64 k, v, c⟩ := by
      apply Array.toList_inj.1; simp [me]
    unfold mapObj
    rw [e]
    simp [Instr.mapUpdate, run_underlying ht, MapKept.run_getObj_map hb, run_check hk, run_find hk, h, MapKept.run_setObj_map _ hb, Result.andThen, setBlock]
  | some p =>
    refine ⟨T.modify p.1 (newV k v), c, ?_, hs.mod, kvs_mod h⟩
    obtain ⟨u, hu, hk1, hk2⟩ := mix_at h
    have e : ((T.modify p.1 (newV k v)).map me).toArray = (T.map me).toArray.modify p.1 (fun e => { e with key := .int .i64 k, val := v }) := by
      apply Array.toList_inj.1
      rw [map_modify me (newV k v) (fun e => { e with key := .int .i64 k, val := v }) (fun x => rfl)]
      simp
    have hst : (Instr.keyThatStays (.int .i64 k) (.int .i64 k)).run P w = .ok (.int .i64 k) w := by
      simp [Instr.keyThatStays, Instr.sameBits]
    have hkey : (((T.map me)[p.1]?).map (·.key)).getD (.int .i64 k) = .int .i64 k := by
      rw [List.getElem?_map, hu]; simp [me, hk1]
    unfold mapObj
    rw [e]
    simp only [Instr.mapUpdate, Sem.run_bind, run_underlying ht, MapKept.run_getObj_map hb, run_check hk, run_find hk, h, Result.andThen, List.getElem?_toArray, hkey, hst, MapKept.run_setObj_map _ hb]
    rfl
end
class PickM (H : HP) (b : Nat) (l : outParam (List (Int × Value))) (R : outParam HP) : Prop where
  eq : H = imap b l * R
instance (b : Nat) (l : List (Int × Value)) (R : HP) : PickM (imap b l * R) b l R := ⟨rfl⟩
instance (y H : HP) (b : Nat) (l : List (Int × Value)) (R : HP) [h : PickM H b l R] : PickM (y * H) b l (y * R) := ⟨by rw [h.eq, star_left]⟩
theorem St.imap {N0 b : Nat} {B : Frag} {R : HP} {w : World} {l : List (Int × Value)} (s : St N0 B (SL.imap b l * R) w) : ∃ T c, Stp T c ∧ kvs T = l ∧ St N0 B (SL.blk b (mapObj T c) * R) w := by
  obtain ⟨ro, sz, k, hk, h1, h2, d, e, ⟨T, c, hs, hl, hb⟩, y⟩ := s
  exact ⟨T, c, hs, hl, ro, sz, k, hk, h1, h2, d, e, hb, y⟩
theorem St.of_imap {N0 b c : Nat} {B : Frag} {R : HP} {w : World} {T : List Me} (hs : Stp T c) (s : St N0 B (SL.blk b (mapObj T c) * R) w) : St N0 B (SL.imap b (kvs T) * R) w := by
  obtain ⟨ro, sz, k, hk, h1, h2, d, e, hb, y⟩ := s
  exact ⟨ro, sz, k, hk, h1, h2, d, e, ⟨T, c, hs, rfl, hb⟩, y⟩
theorem heap_setBlock_ne (w : World) (b : Nat) (o : Obj) (j : Nat) (h : j ≠ b) : (setBlock w b o).heap[j]? = w.heap[j]? := by
  simp only [setBlock, Array.getElem?_setIfInBounds]
  rw [if_neg (by omega)]
theorem St.setBlk {N0 b : Nat} {B : Frag} {R : HP} {w : World} {o : Obj} (h : St N0 B (SL.blk b o * R) w) (o' : Obj) : St N0 B (SL.blk b o' * R) (setBlock w b o') ∧ Below N0 w (setBlock w b o') := by
  obtain ⟨h1, h2, h3⟩ := h.blk
  have hlt : b < w.heap.size := (Array.getElem?_eq_some_iff.1 h1).1
  refine ⟨h.put (by simp [setBlock, hlt]) (fun j hj => heap_setBlock_ne _ _ _ _ hj) (by simp [setBlock]), ⟨rfl, rfl, rfl, by simp [setBlock], fun j hj => heap_setBlock_ne _ _ _ _ (by omega)⟩⟩
section
variable {e : Env} {ds : List Deferred} {ρ : Sl} {B : Frag} {H R : HP} {t kt et ty tk : TypeId} {x y z : Operand} {b : Nat} {l : List (Int × Value)} {k : Int} {v zv : Value}
theorem mkM : Ox e ds (.makeMap t none) ty ρ B H (fun v B' H' => ∃ b, v = .map (some b) ∧ B' = B ∧ H' = imap b [] * H) :=
  .of_run (fun _ h => by cases h) fun f w dst pos after guard he s => by
    refine ⟨.map (some w.heap.size), w.alloc (mapObj [] 0), B, _, ?_, ⟨w.heap.size, rfl, rfl, rfl⟩, Fl _, Below.alloc (Below.refl _ w) s.sz _, St.of_imap (T := []) ⟨by simp, fun t h => by cases h⟩ (s.alloc _)⟩
    simp [execOp, Instr.makeMap, Result.andThen]
    rfl
theorem lkM {P : Program} {N0 : Nat} (ht : P.underlying t = some (.map kt et)) (hk : P.underlying kt = some (.int .i64)) (hz : ∀ w, (zeroValue et).run P w = .ok zv w) (hx : ev ρ x = some (.map (some b))) (hy : ev ρ y = some (.int .i64 k)) [hp : PickM H b l R] (hv : (mget k l).getD zv = v) :
    Yx P (.lookup t x y false) ty ρ (St N0 B H) v := .of (fun _ h => by cases h) fun f w _ _ _ _ he s => by
  subst hv
  have s' : St N0 B (imap b l * R) w := hp.eq ▸ s
  obtain ⟨T, c, hs, rfl, s2⟩ := s'.imap
  simp [execOp, he _ _ hx, he _ _ hy, run_look ht hk s2.blk.1 (hz w), Result.andThen]
theorem stM (ht : e.P.underlying t = some (.map kt et)) (hk : e.P.underlying kt = some (.int .i64)) (hx : ev ρ x = some (.map (some b))) (hy : ev ρ y = some (.int .i64 k)) (hz : ev ρ z = some v) [hp : PickM H b l R] :
    Ox e ds (.mapUpdate t x y z) ty ρ B H (fun _ B' H' => B' = B ∧ H' = imap b (mset k v l) * R) :=
  .of_skip (fun _ h => by cases h) fun f w _ _ _ _ he s => by
    have s' : St e.N0 B (imap b l * R) w := hp.eq ▸ s
    obtain ⟨T, c, hs, rfl, s2⟩ := s'.imap
    obtain ⟨T', c', hr, hs', hl'⟩ := run_mset ht hk s2.blk.1 hs v
    refine ⟨setBlock w b (mapObj T' c'), B, _, ?_, ⟨rfl, rfl⟩, Fl _, (s2.setBlk _).2, by rw [← hl']; exact St.of_imap hs' (s2.setBlk _).1⟩
    simp [execOp, he _ _ hx, he _ _ hy, he _ _ hz, hr, Result.andThen]
theorem Xx.openM {K : Act → World → Prop} (b : Nat) [hp : PickM H b l R] (h : ∀ T c, Stp T c → kvs T = l → Xx e ds K ρ B (blk b (mapObj T c) * R)) : Xx e ds K ρ B H := fun a w f bl s => by
  have s' : St e.N0 B (imap b l * R) w := hp.eq ▸ s
  obtain ⟨T, c, hs, hl, s2⟩ := s'.imap
  exact h T c hs hl a w f bl s2
theorem Xx.closeM {K : Act → World → Prop} (b : Nat) {T : List Me} {c : Nat} [hp : PickB H b (mapObj T c) R] (hs : Stp T c) (h : Xx e ds K ρ B (imap b (kvs T) * R)) : Xx e ds K ρ B H := fun a w f bl s => by
  have s' : St e.N0 B (blk b (mapObj T c) * R) w := hp.eq ▸ s
  exact h a w f bl (St.of_imap hs s')
abbrev itObj (b c : Nat) (done : List Me) : Obj := .mapIter (some b) c (done.map fun t => t.2.2).toArray c
def Vis (T done : List Me) : Prop := (∀ t ∈ done, t ∈ T) ∧ (done.map fun t => t.2.2).Nodup
theorem nodup_of_map {α β : Type} (f : α → β) : ∀ {l : List α}, (l.map f).Nodup → l.Nodup := by
  intro l
  induction l with
  | nil => intro _; exact List.nodup_nil
  | cons x l ih =>
    intro h
    rw [List.map_cons, List.nodup_cons] at h
    exact List.nodup_cons.2 ⟨fun hx => h.1 (List.mem_map.2 ⟨x, hx, rfl⟩), ih h.2⟩
theorem nodup_len {α : Type} : ∀ (l m : List α), l.Nodup → (∀ x ∈ l, x ∈ m) → l.length ≤ m.length := by
  classical
  intro l
  induction l with
  | nil => intro m _ _; simp
  | cons x l ih =>
    intro m hn hm
    rw [List.nodup_cons] at hn
    have hx := hm x (by simp)
    have := ih (m.erase x) hn.2 fun y hy => (List.mem_erase_of_ne (fun e => hn.1 (by rw [← e]; exact hy))).2 (hm y (by simp [hy]))
    rw [List.length_erase_of_mem hx] at this
    have := List.length_pos_of_mem hx
    simp; omega
theorem rgM {T : List Me} {c : Nat} (ht : e.P.underlying t = some (.map kt et)) (hx : ev ρ x = some (.map (some b))) [hp : PickB H b (mapObj T c) R] :
    Ox e ds (.range t x) ty ρ B H (fun v B' H' => ∃ i, v = .pointer (some ⟨i, 0, none⟩) ∧ B' = B ∧ H' = blk i (itObj b c []) * H) :=
  .of_run (fun _ h => by cases h) fun f w dst pos after guard he s => by
    have s' : St e.N0 B (blk b (mapObj T c) * R) w := hp.eq ▸ s
    have hr := run_range_map (P := e.P) w t kt et b _ _ ht s'.blk.1
    refine ⟨_, w.alloc (itObj b c []), B, _, ?_, ⟨w.heap.size, rfl, rfl, rfl⟩, Fl _, Below.alloc (Below.refl _ w) s.sz _, s.alloc _⟩
    simp [execOp, he _ _ hx, hr, Result.andThen]
    rfl
def nx : Option Me → Array Value
  | none => #[.bool false]
  | some t => #[.bool true, .int .i64 t.1, t.2.1]
theorem nx0 (o : Option Me) : (nx o)[0]? = some (.bool o.isSome) := by cases o <;> rfl
def After (T done : List Me) (done' : List Me) : Option Me → Prop
  | none => done' = done ∧ ∀ t ∈ T, t.2.2 ∈ done.map fun t => t.2.2
  | some t => done' = done ++ [t] ∧ t ∈ T ∧ t.2.2 ∉ done.map fun t => t.2.2
end
theorem run_nextM {P : Program} {w : World} {ty : TypeId} {b c i : Nat} {T done : List Me} (hs : Stp T c) (hb : w.heap[b]? = some (mapObj T c)) (hi : w.heap[i]? = some (itObj b c done)) (hT : ∀ t ∈ done, t ∈ T) :
    ∃ o done' w', (Instr.next (.pointer (some ⟨i, 0, none⟩)) false ty).run P w = .ok (.tuple (nx o)) w' ∧ After T done done' o ∧ ((w' = w ∧ done' = done) ∨ ∃ w1 : World, (w1 = w ∨ w1 = w.drew) ∧ w' = setBlock w1 i (itObj b c done')) := by
  have hold : ∀ x ∈ (T.map me).toArray.toList, x.born < c := fun x hx => by
    simp at hx
    obtain ⟨a, b', c', hm, rfl⟩ := hx
    exact hs.2 _ hm
  simp only [Instr.next, getObj, Sem.run_bind, Sem.run, hi, hb, Result.andThen, next_test_false _ _ c c hold (Nat.le_refl _), Bool.false_eq_true, if_false]
  have hmem : ∀ x ∈ ((T.map me).toArray.filter (fun e => !((done.map fun t => t.2.2).toArray).contains e.born)).toList, ∃ t ∈ T, t.2.2 ∉ (done.map fun t => t.2.2) ∧ x = me t := fun x hx => by
    simp at hx
    obtain ⟨⟨a, b', c', hm, rfl⟩, hn⟩ := hx
    exact ⟨(a, b', c'), hm, by simpa [me] using hn, rfl⟩
  have hnone : ((T.map me).toArray.filter (fun e => !((done.map fun t => t.2.2).toArray).contains e.born)) = #[] → ∀ t ∈ T, t.2.2 ∈ done.map fun t => t.2.2 := fun h t ht => by
    rw [Array.filter_eq_empty_iff] at h
    have := h (me t) (by simp; exact ⟨_, _, _, ht, rfl⟩)
    simpa [me] using this
  generalize ((T.map me).toArray.filter (fun e => !((done.map fun t => t.2.2).toArray).contains e.born)) = L at hmem hnone ⊢
  have e1 : L.filter (fun x => decide (x.born < c)) = L := Array.filter_eq_self.2 (fun x hx => by
    obtain ⟨t, ht, _, rfl⟩ := hmem x (by simpa using hx)
    have := hs.2 t ht
    exact decide_eq_true this)
  have e2 : L.filter (fun x => decide (x.born ≥ c)) = #[] := by
    rw [Array.filter_eq_empty_iff]
    intro x hx
    obtain ⟨t, ht, _, rfl⟩ := hmem x (by simpa using hx)
    have := hs.2 t ht
    simp [me]
    omega
  simp only [e1, e2, Array.append_empty]
  by_cases h0 : L.size = 0
  · have hL : L = #[] := Array.eq_empty_of_size_eq_zero h0
    refine ⟨none, done, w, ?_, ⟨rfl, hnone hL⟩, .inl ⟨rfl, rfl⟩⟩
    subst hL
    simp [choose, Sem.run, Question.forced, nx]
  · have hne : L.isEmpty = false := by simp [Array.isEmpty, h0]
    simp only [hne, Bool.false_eq_true, if_false, Array.empty_append, Array.size_map]
    have hch : ∃ (j : Nat) (w1 : World), j < L.size ∧ (w1 = w ∨ w1 = w.drew) ∧ (choose (Question.mapNext L.size)).run P w = .ok j w1 := by
      by_cases hf : L.size ≤ 1
      · exact ⟨0, w, by omega, .inl rfl, by simp [choose, Sem.run, Question.forced, hf]⟩
      · exact ⟨_, w.drew, Nat.mod_lt _ (by omega), .inr rfl, by
          simp only [choose, Sem.run, Question.forced, decide_eq_true_eq, hf, if_false, Question.cut]
          rfl⟩
    obtain ⟨j, w1, hj, hal, hrun⟩ := hch
    obtain ⟨t, ht, hn, hx⟩ := hmem L[j] (by simp)
    refine ⟨some t, done ++ [t], setBlock w1 i (itObj b c (done ++ [t])), ?_, ⟨rfl, ht, hn⟩, .inr ⟨w1, hal, rfl⟩⟩
    have hi1 : w1.heap[i]? = some (itObj b c done) := by rcases hal with rfl | rfl <;> exact hi
    have hset : (setObj i (.mapIter (some b) c ((done.map fun t => t.2.2).toArray.push (L[j]).born) c)).run P w1 = .ok () (setBlock w1 i (itObj b c (done ++ [t]))) := by
      have e9 : itObj b c (done ++ [t]) = .mapIter (some b) c ((done.map fun t => t.2.2).toArray.push (L[j]).born) c := by
        unfold itObj
        rw [hx]
        congr 1
        apply Array.toList_inj.1
        simp [me]
      rw [e9]
      simp only [setObj, Sem.run, hi1]
      rfl
    simp only [hrun, Array.getElem?_map, Array.getElem?_eq_getElem hj, Option.map_some, Sem.run_bind, hset, Result.andThen]
    rw [hx]
    rfl
section
variable {e : Env} {ds : List Deferred} {ρ : Sl} {B : Frag} {H R R2 : HP} {ty : TypeId} {x : Operand} {b i c : Nat} {T done : List Me}
theorem nxM (hs : Stp T c) (hv : Vis T done) (hx : ev ρ x = some (.pointer (some ⟨i, 0, none⟩))) [h1 : PickB H i (itObj b c done) R] [h2 : PickB R b (mapObj T c) R2] :
    Ox e ds (.next x false) ty ρ B H (fun v B' H' => ∃ o done', v = .tuple (nx o) ∧ After T done done' o ∧ B' = B ∧ H' = blk i (itObj b c done') * R) :=
  .of_run (fun _ h => by cases h) fun f w dst pos after guard he s => by
    have s1 : St e.N0 B (blk i (itObj b c done) * R) w := h1.eq ▸ s
    have s2 : St e.N0 B (blk b (mapObj T c) * R2) w := h2.eq ▸ s1.drop
    obtain ⟨o, done', w', hr, ha, hw⟩ := run_nextM (P := e.P) (ty := ty) hs s2.blk.1 s1.blk.1 hv.1
    refine ⟨_, w', B, _, ?_, ⟨o, done', rfl, ha, rfl, rfl⟩, Fl _, ?_⟩
    · simp [execOp, he _ _ hx, hr, Result.andThen]
    · rcases hw with ⟨rfl, rfl⟩ | ⟨w1, hal, rfl⟩
      · exact ⟨Below.refl _ _, s1⟩
      · have s3 : St e.N0 B (blk i (itObj b c done) * R) w1 := by
          rcases hal with rfl | rfl
          · exact s1
          · exact s1.drew
        have hb1 : Below e.N0 w w1 := by
          rcases hal with rfl | rfl
          · exact Below.refl _ _
          · exact ⟨rfl, rfl, rfl, Nat.le_refl _, fun _ _ => rfl⟩
        exact ⟨hb1.trans (s3.setBlk _).2, (s3.setBlk _).1⟩
end
end Go.SL
namespace Go.SL
open Go.RowKit
open Go.ChangeMaps (setBlock)
open Go.Sort Go.Proofs
def ItA (P : Program) (gf : FuncId) (caps : List Value) {α : Type} (enc : α → List Value) (Adm Fn : List α → Prop) (B : Frag) (own : HP) : Prop :=
  (∀ args w, (callFunc gf args).run P w = .ok (.enter gf args) w) ∧
  ∀ (l : Nat) (J Jx : List α → Frag → HP → Prop),
    (∀ pre x B1 H1, Adm (pre ++ [x]) → B.le B1 → J pre B1 H1 → Yd P l (enc x) B1 H1 fun t B' H' => (t = true ∧ J (pre ++ [x]) B' H') ∨ (t = false ∧ Jx (pre ++ [x]) B' H')) →
    ∀ B1 H1, B.le B1 → J [] B1 H1 → Ct P gf (.func (.yield l) #[] #[] :: caps) B1 (own * H1) fun v B' H' => ∃ H2, H' = own * H2 ∧ ((∃ xs, Fn xs ∧ J xs B' H2) ∨ ∃ pre, Jx pre B' H2)
section
variable {e : Env} {ds : List Deferred} {Q : Exit → Act → World → Prop} {ρ ρ' : Sl} {B B' B0 B1 : Frag} {H H' R : HP} {K : Act → World → Prop} {P : Program} {α : Type}
theorem Cx.rangeAF {g : Operand} {ps : Array Tmp} {assign body : Code} {gf : FuncId} {caps : List Value} {enc : α → List Value} {Adm Fn : List α → Prop} {own H1 R : HP}
    (hr : e.r = none) (hg : ev ρ g = some (.func (.func gf) #[] caps.toArray)) (hIt : ItA e.P gf caps enc Adm Fn B own) (hH : H = own * (H1 * R)) (hnt : ps.toList.all (fun p => Nat.blt p e.nt) = true) (hps : ∀ x, (enc x).length = ps.size)
    (J : List α → Frag → HP → Prop) (Jx : Code → List α → Frag → HP → Prop) (AS : List α → α → Frag → Sl → Frag → HP → Prop) (h0 : J [] B H1)
    (hassign : ∀ (l N0 : Nat) (w0 : World) pre x B1 H1 (F : HP) (K : Act → World → Prop), Adm (pre ++ [x]) → B.le B1 → J pre B1 H1 →
      (∀ ρ' B' H', AS pre x B1 ρ' B' H' → B1.le B' → Xx ⟨e.P, some l, N0, w0, e.nt⟩ [] K ρ' B' (H' * F)) →
      Cx ⟨e.P, some l, N0, w0, e.nt⟩ [] assign (Exit.then K (fun _ _ _ => False)) (asgn ps.toList (enc x) ρ) B1 (H1 * F))
    (hbody : ∀ (l N0 : Nat) (w0 : World) pre x B1 (F : HP) ρ' B' H', Adm (pre ++ [x]) → B.le B1 → B1.le B' → AS pre x B1 ρ' B' H' → Cx ⟨e.P, some l, N0, w0, e.nt⟩ [] body (RQ N0 w0 B1 J Jx (pre ++ [x]) F) ρ' B' (H' * F))
    (hdone : ∀ D xs B' H', Fn xs → B.le B' → J xs B' H' → Xx e (mark D :: ds) (Q .normal) ρ B' (H' * (blk D dfr * (own * R))))
    (hstop : ∀ D c pre B' H', B.le B' → Jx c pre B' H' → Cx e (mark D :: ds) c Q ρ B' (H' * (blk D dfr * (own * R)))) :
    Cx e ds (.rangeFunc g ps assign body) Q ρ B H := by
  intro a w f b s
  refine wpIn_rangeFunc ?_
  intro fn _
  have hgv := f.ev _ _ hg
  have s1 := (s.alloc dfr).alloc (.loop (mkRec fn a.tmps ps assign body w.heap.size .ready none))
  have b1 : Below e.N0 e.w0 ((w.alloc dfr).alloc (.loop (mkRec fn a.tmps ps assign body w.heap.size .ready none))) := (b.alloc s.sz _).alloc (s.alloc dfr).sz _
  rw [World.size_alloc, hH] at s1
  generalize hl : w.heap.size + 1 = l at *
  generalize hD : w.heap.size = D at *
  generalize hw1 : (w.alloc dfr).alloc (.loop (mkRec fn a.tmps ps assign body D .ready none)) = w1 at *
  have s2 : St e.N0 B ((own * (H1 * (blk l (.loop (mkRec fn a.tmps ps assign body D .ready none)) * blk D dfr))) * R) w1 := by
    exact s1.of_eq (by ac_rfl)
  have heg := hIt.1 #[.func (.yield l) #[] #[], ] w1
  let J' : List α → Frag → HP → Prop := fun pre B' H' => ∃ H1, H' = H1 * (blk l (.loop (mkRec fn a.tmps ps assign body D .ready none)) * blk D dfr) ∧ J pre B' H1
  let Jx' : List α → Frag → HP → Prop := fun pre B' H' => ∃ c H1, H' = H1 * (blk l (.loop (mkRec fn a.tmps ps assign body D .done (some c))) * blk D dfr) ∧ Jx c pre B' H1
  have hct := hIt.2 l J' Jx' ?round B _ (Fl _) ⟨H1, rfl, h0⟩
  case round =>
    rintro pre x B1 _ hxs hB1 ⟨H2, rfl, hJ⟩ N0 wy Rf sy
    have hrl : wy.heap[l]? = some (.loop (mkRec fn a.tmps ps assign body D .ready none)) := by
      have : St N0 B1 (blk l (.loop (mkRec fn a.tmps ps assign body D .ready none)) * (H2 * (blk D dfr * Rf))) wy := sy.of_eq (by ac_rfl)
      exact this.blk.1
    have hy := run_yield (P := e.P) (args := (enc x).toArray) hrl (by simpa using hps x)
    refine ⟨fn, _, assign, body, hy, roundIn_of_wpIn trivial ?_⟩
    have hfr := asgn_fr (nt := e.nt) ps.toList (enc x) ρ a.tmps hnt ⟨f.size, f.get, rfl⟩
    have hzip : (ps.zip (enc x).toArray).foldl (fun tmps (t, a) => tmps.setIfInBounds t a) a.tmps = (ps.toList.zip (enc x)).foldl (fun t (y : Tmp × Value) => t.setIfInBounds y.1 y.2) a.tmps := by
      rw [← Array.foldl_toList, Array.toList_zip]
    show Code.wpIn (FW (some l)) 0 e.P assign _ { tmps := (ps.zip (enc x).toArray).foldl (fun tmps (t, a) => tmps.setIfInBounds t a) a.tmps, defers := [] } wy
    rw [hzip]
    refine hassign l N0 wy pre x B1 H2 ((blk l (.loop (mkRec fn a.tmps ps assign body D .ready none)) * blk D dfr) * Rf) _ hxs hB1 hJ ?_ _ wy hfr (Below.refl _ _) (by rw [← star_assoc]; exact sy)
    intro ρ' B' H' hAS hB' a1 wa fa ba sa
    have sa' : St N0 B' (blk l (.loop (mkRec fn a.tmps ps assign body D .ready none)) * (H' * (blk D dfr * Rf))) wa := sa.of_eq (by ac_rfl)
    have hbr := run_beginRound (P := e.P) sa'.blk.1 rfl
    refine ⟨_, hbr, ?_⟩
    have sb := sa'.putObj (o' := .loop { mkRec fn a.tmps ps assign body D .ready none with state := .busy })
    have sb2 : St N0 B' (H' * ((blk l (.loop { mkRec fn a.tmps ps assign body D .ready none with state := .busy }) * blk D dfr) * Rf)) (wa.putObj l (.loop { mkRec fn a.tmps ps assign body D .ready none with state := .busy })) := sb.1.of_eq (by ac_rfl)
    refine wpIn_mono (hbody l N0 wy pre x B1 _ ρ' B' H' hxs hB1 hB' hAS a1 _ fa (ba.trans sb.2) sb2) ?_
    have fin : ∀ (jump : Option Code) (w3 : World) B3 H3, St N0 B3 (H3 * ((blk l (.loop { mkRec fn a.tmps ps assign body D .ready none with state := .busy }) * blk D dfr) * Rf)) w3 →
        (Instr.endRound l jump).run e.P w3 = .ok (.bool jump.isNone) (w3.putObj l (.loop (mkRec fn a.tmps ps assign body D (if jump.isNone then .ready else .done) jump))) ∧ Below N0 w3 (w3.putObj l (.loop (mkRec fn a.tmps ps assign body D (if jump.isNone then .ready else .done) jump))) ∧
        St N0 B3 ((H3 * (blk l (.loop (mkRec fn a.tmps ps assign body D (if jump.isNone then .ready else .done) jump)) * blk D dfr)) * Rf) (w3.putObj l (.loop (mkRec fn a.tmps ps assign body D (if jump.isNone then .ready else .done) jump))) := by
      intro jump w3 B3 H3 s3
      have s3' : St N0 B3 (blk l (.loop { mkRec fn a.tmps ps assign body D .ready none with state := .busy }) * (H3 * (blk D dfr * Rf))) w3 := s3.of_eq (by ac_rfl)
      have h1 := run_endRound (P := e.P) jump s3'.blk.1
      have h2 := s3'.putObj (o' := .loop (mkRec fn a.tmps ps assign body D (if jump.isNone then .ready else .done) jump))
      refine ⟨h1, h2.2, h2.1.of_eq (by ac_rfl)⟩
    rintro x3 a3 w3 hp
    cases x3 with
    | normal =>
      obtain ⟨B3, H3, hJ3, hB3, b3, s3⟩ := hp
      obtain ⟨h1, h2, h3⟩ := fin none w3 B3 H3 s3
      exact ⟨_, _, h1, true, B3, _, rfl, .inl ⟨rfl, H3, rfl, hJ3⟩, hB3, b3.trans h2, h3⟩
    | ret =>
      obtain ⟨B3, H3, hJ3, hB3, b3, s3⟩ := hp
      obtain ⟨h1, h2, h3⟩ := fin (some .ret) w3 B3 H3 s3
      exact ⟨_, _, h1, false, B3, _, rfl, .inr ⟨rfl, _, H3, rfl, hJ3⟩, hB3, b3.trans h2, h3⟩
    | exit id =>
      obtain ⟨B3, H3, hJ3, hB3, b3, s3⟩ := hp
      obtain ⟨h1, h2, h3⟩ := fin (some (.exit id)) w3 B3 H3 s3
      exact ⟨_, _, h1, false, B3, _, rfl, .inr ⟨rfl, _, H3, rfl, hJ3⟩, hB3, b3.trans h2, h3⟩
    | goto t => exact hp.elim
    | panic ch => exact hp.elim
    | outgrown => exact hp.elim
  refine ⟨l, [mark D], w1, { target := .fn (.func gf) caps.toArray, args := #[.func (.yield l) #[] #[]] }, w1, gf, (.func (.yield l) #[] #[] :: caps).toArray, w1, ?_, ?_, fun _ _ => trivial, ?_, fun h => by simp [FW] at h, ?_⟩
  · have : (FW e.r).round = none := hr
    rw [this, ← hw1, ← hl]
    have := run_enterLoop_outer (P := e.P) (w := w) fn a.tmps ps assign body
    rw [hD] at this
    exact this
  · simp only [resolve, hgv, Deferred.ofValue]
    simp [Act.eval]
  · simp only [invoke]
    have := hIt.1 (#[.func (.yield l) #[] #[]] ++ caps.toArray) w1
    simpa using this
  · refine callsIn_FW.2 ((hct.2 e.N0 w1 R s2).mono ?_)
    rintro y w2 ⟨v, B', _, rfl, ⟨H2, rfl, (⟨xs, hxs, H3, rfl, hJ⟩ | ⟨pre, c, H3, rfl, hJ⟩)⟩, hB', b2, s3⟩
    · have s3' : St e.N0 B' (blk l (.loop (mkRec fn a.tmps ps assign body D .ready none)) * (H3 * (blk D dfr * (own * R)))) w2 := s3.of_eq (by ac_rfl)
      have h1 := run_endLoop (P := e.P) s3'.blk.1 (by simp)
      have h2 := s3'.putObj (o' := .loop { mkRec fn a.tmps ps assign body D .ready none with state := .exhausted })
      refine ⟨none, _, h1, ?_⟩
      exact hdone D xs B' H3 hxs hB' hJ _ _ ⟨f.size, f.get, by simp [f.defers]⟩ ((b1.trans b2).trans h2.2) h2.1.drop
    · have s3' : St e.N0 B' (blk l (.loop (mkRec fn a.tmps ps assign body D .done (some c))) * (H3 * (blk D dfr * (own * R)))) w2 := s3.of_eq (by ac_rfl)
      have h1 := run_endLoop (P := e.P) s3'.blk.1 (by simp)
      have h2 := s3'.putObj (o' := .loop { mkRec fn a.tmps ps assign body D .done (some c) with state := .exhausted })
      refine ⟨some c, _, h1, ?_⟩
      exact hstop D c pre B' H3 hB' hJ _ _ ⟨f.size, f.get, by simp [f.defers]⟩ ((b1.trans b2).trans h2.2) h2.1.drop
theorem Cx.rangeA {g : Operand} {ps : Array Tmp} {assign body : Code} {gf : FuncId} {caps : List Value} {enc : α → List Value} {Adm Fn : List α → Prop} {own H1 R : HP} {σ : Sl} (hσ : Sub ρ σ)
    (hr : e.r = none) (hg : ev ρ g = some (.func (.func gf) #[] caps.toArray)) (hIt : ItA e.P gf caps enc Adm Fn B own) (hH : H = own * (H1 * R)) (hnt : ps.toList.all (fun p => Nat.blt p e.nt) = true) (hps : ∀ x, (enc x).length = ps.size)
    (J : List α → Frag → HP → Prop) (Jx : Code → List α → Frag → HP → Prop) (AS : List α → α → Frag → Sl → Frag → HP → Prop) (h0 : J [] B H1)
    (hassign : ∀ (l N0 : Nat) (w0 : World) pre x B1 H1 (F : HP) (K : Act → World → Prop), Adm (pre ++ [x]) → B.le B1 → J pre B1 H1 →
      (∀ ρ' B' H', AS pre x B1 ρ' B' H' → B1.le B' → Xx ⟨e.P, some l, N0, w0, e.nt⟩ [] K (ρ' ++ σ) B' (H' * F)) →
      Cx ⟨e.P, some l, N0, w0, e.nt⟩ [] assign (Exit.then K (fun _ _ _ => False)) (asgn ps.toList (enc x) ρ) B1 (H1 * F))
    (hbody : ∀ (l N0 : Nat) (w0 : World) pre x B1 (F : HP) ρ' B' H', Adm (pre ++ [x]) → B.le B1 → B1.le B' → AS pre x B1 ρ' B' H' → Cx ⟨e.P, some l, N0, w0, e.nt⟩ [] body (RQ N0 w0 B1 J Jx (pre ++ [x]) F) (ρ' ++ σ) B' (H' * F))
    (hdone : ∀ D xs B' H', Fn xs → B.le B' → J xs B' H' → Xx e (mark D :: ds) (Q .normal) ρ B' (H' * (blk D dfr * (own * R))))
    (hstop : ∀ D c pre B' H', B.le B' → Jx c pre B' H' → Cx e (mark D :: ds) c Q ρ B' (H' * (blk D dfr * (own * R)))) :
    Cx e ds (.rangeFunc g ps assign body) Q ρ B H :=
  Cx.rangeAF hr hg hIt hH hnt hps J Jx (fun pre x B1 ρ' B' H' => ∃ ρ'', ρ' = ρ'' ++ σ ∧ AS pre x B1 ρ'' B' H') h0
    (fun l N0 w0 pre x B1 H1 F K hxs hB1 hJ hK => hassign l N0 w0 pre x B1 H1 F K hxs hB1 hJ fun ρ' B' H' hAS hB' => hK _ B' H' ⟨ρ', rfl, hAS⟩ hB')
    (fun l N0 w0 pre x B1 F ρ' B' H' hxs hB1 hB' ⟨ρ'', h1, hAS⟩ => by subst h1; exact hbody l N0 w0 pre x B1 F ρ'' B' H' hxs hB1 hB' hAS) hdone hstop
end
section
variable {α : Type} {kv : α → Int × Value}
def mz (kv : α → Int × Value) (z : α × Nat) : Me := ((kv z.1).1, (kv z.1).2, z.2)
theorem zip_of {T : List Me} {fs : List α} (h : kvs T = fs.map kv) : ∃ Z : List (α × Nat), T = Z.map (mz kv) ∧ Z.map (·.1) = fs := by
  induction T generalizing fs with
  | nil =>
    cases fs with
    | nil => exact ⟨[], rfl, rfl⟩
    | cons f fs => cases h
  | cons t T ih =>
    cases fs with
    | nil => cases h
    | cons f fs =>
      injection h with h1 h2
      obtain ⟨Z, rfl, rfl⟩ := ih h2
      refine ⟨(f, t.2.2) :: Z, ?_, rfl⟩
      rw [List.map_cons]
      congr 1
      unfold mz
      rw [← h1]
def VisF (Z dz : List (α × Nat)) : Prop := (∀ z ∈ dz, z ∈ Z) ∧ (dz.map fun z => z.2).Nodup
theorem VisF.nil (Z : List (α × Nat)) : VisF Z [] := ⟨fun t h => absurd h List.not_mem_nil, List.nodup_nil⟩
def AfterF (Z dz dz' : List (α × Nat)) : Option (α × Nat) → Prop
  | none => dz' = dz ∧ ∀ z ∈ Z, z.2 ∈ dz.map fun z => z.2
  | some z => dz' = dz ++ [z] ∧ z ∈ Z ∧ z.2 ∉ dz.map fun z => z.2
theorem mz_stamps (Z : List (α × Nat)) : (Z.map (mz kv)).map (fun t => t.2.2) = Z.map fun z => z.2 := by rw [List.map_map]; rfl
theorem VisF.vis {Z dz : List (α × Nat)} (h : VisF Z dz) : Vis (Z.map (mz kv)) (dz.map (mz kv)) :=
  ⟨fun t ht => by obtain ⟨z, hz, rfl⟩ := List.mem_map.1 ht; exact List.mem_map.2 ⟨z, h.1 z hz, rfl⟩, by rw [mz_stamps]; exact h.2⟩
theorem VisF.step {Z dz : List (α × Nat)} {z : α × Nat} (h : VisF Z dz) (hz : z ∈ Z) (hn : z.2 ∉ dz.map fun z => z.2) : VisF Z (dz ++ [z]) := by
  refine ⟨fun u hu => ?_, ?_⟩
  · rcases List.mem_append.1 hu with hu | hu
    · exact h.1 u hu
    · rw [List.mem_singleton.1 hu]; exact hz
  · rw [List.map_append, List.nodup_append]
    refine ⟨h.2, by simp, fun a ha b hb => ?_⟩
    simp at hb
    subst hb
    exact fun e => hn (e ▸ ha)
theorem VisF.len {Z dz : List (α × Nat)} (h : VisF Z dz) : dz.length ≤ Z.length := nodup_len _ _ (nodup_of_map _ h.2) h.1
theorem stampF_inj : ∀ {Z : List (α × Nat)}, (Z.map fun z => z.2).Nodup → ∀ {a b : α × Nat}, a ∈ Z → b ∈ Z → a.2 = b.2 → a = b := by
  intro Z
  induction Z with
  | nil => intro _ a b ha; cases ha
  | cons t T ih =>
    intro hn a b ha hb e
    rw [List.map_cons, List.nodup_cons] at hn
    rcases List.mem_cons.1 ha with h1 | ha
    · rcases List.mem_cons.1 hb with h2 | hb
      · rw [h1, h2]
      · exact absurd (List.mem_map.2 ⟨b, hb, by rw [← e, h1]⟩) hn.1
    · rcases List.mem_cons.1 hb with h2 | hb
      · exact absurd (List.mem_map.2 ⟨a, ha, by rw [e, h2]⟩) hn.1
      · exact ih hn.2 ha hb e
theorem VisF.all {Z dz : List (α × Nat)} {c : Nat} (h : VisF Z dz) (hs : Stp (Z.map (mz kv)) c) (hall : ∀ z ∈ Z, z.2 ∈ dz.map fun z => z.2) : (dz.map (·.1)).Perm (Z.map (·.1)) := by
  have hs1 := hs.1
  rw [mz_stamps] at hs1
  refine List.Perm.map _ ((List.perm_ext_iff_of_nodup (nodup_of_map _ h.2) (nodup_of_map _ hs1)).2 fun t => ⟨fun ht => h.1 t ht, fun ht => ?_⟩)
  obtain ⟨u, hu, e⟩ := List.mem_map.1 (hall t ht)
  rw [← stampF_inj hs1 (h.1 u hu) ht e]; exact hu
end
section
variable {e : Env} {ds : List Deferred} {ρ : Sl} {B : Frag} {H R R2 : HP} {t kt et ty : TypeId} {x : Operand} {b i c : Nat} {α : Type} {kv : α → Int × Value} {Z dz : List (α × Nat)}
theorem Xx.openF {K : Act → World → Prop} {fs : List α} (b : Nat) [hp : PickM H b (fs.map kv) R] (h : ∀ (Z : List (α × Nat)) c, Stp (Z.map (mz kv)) c → Z.map (·.1) = fs → Xx e ds K ρ B (blk b (mapObj (Z.map (mz kv)) c) * R)) : Xx e ds K ρ B H :=
  Xx.openM b fun T c hs hl => by
    obtain ⟨Z, rfl, hZ⟩ := zip_of hl
    exact h Z c hs hZ
theorem Xx.closeF {K : Act → World → Prop} {fs : List α} (b : Nat) {c : Nat} [hp : PickB H b (mapObj (Z.map (mz kv)) c) R] (hs : Stp (Z.map (mz kv)) c) (hZ : Z.map (·.1) = fs) (h : Xx e ds K ρ B (imap b (fs.map kv) * R)) : Xx e ds K ρ B H :=
  Xx.closeM b hs (by
    have e9 : kvs (Z.map (mz kv)) = fs.map kv := by
      rw [← hZ]; unfold kvs; rw [List.map_map, List.map_map]; rfl
    rw [e9]; exact h)
theorem nxF (hs : Stp (Z.map (mz kv)) c) (hv : VisF Z dz) (hx : ev ρ x = some (.pointer (some ⟨i, 0, none⟩))) [h1 : PickB H i (itObj b c (dz.map (mz kv))) R] [h2 : PickB R b (mapObj (Z.map (mz kv)) c) R2] :
    Ox e ds (.next x false) ty ρ B H (fun v B' H' => ∃ o dz', v = .tuple (nx (o.map (mz kv))) ∧ AfterF Z dz dz' o ∧ B' = B ∧ H' = blk i (itObj b c (dz'.map (mz kv))) * R) := by
  have h := nxM (e := e) (ds := ds) (B := B) (ty := ty) hs (hv.vis (kv := kv)) hx (H := H) (R := R) (R2 := R2)
  refine ⟨h.1, fun a w dst pos after guard K Q f b s k => h.2 a w dst pos after guard K Q f b s fun v B' H' w' ⟨o, done', e1, e2, e3, e4⟩ hB hb hs => k v B' H' w' ?_ hB hb hs⟩
  cases o with
  | none =>
    obtain ⟨rfl, hall⟩ := e2
    refine ⟨none, dz, e1, ⟨rfl, fun z hz => ?_⟩, e3, e4⟩
    have := hall (mz kv z) (List.mem_map.2 ⟨z, hz, rfl⟩)
    rw [mz_stamps] at this
    exact this
  | some t =>
    obtain ⟨rfl, ht, hn⟩ := e2
    obtain ⟨z, hz, rfl⟩ := List.mem_map.1 ht
    rw [mz_stamps] at hn
    exact ⟨some z, dz ++ [z], e1, ⟨rfl, hz, hn⟩, e3, by rw [e4, List.map_append]; rfl⟩
theorem entF {P : Program} {N0 : Nat} {z : α × Nat} (hs : Stp (Z.map (mz kv)) c) (hz : z ∈ Z) (hx : ev ρ x = some (.pointer (some ⟨i, 0, none⟩))) [h1 : PickB H i (itObj b c ((dz ++ [z]).map (mz kv))) R] [h2 : PickB R b (mapObj (Z.map (mz kv)) c) R2] :
    Yx P (.entry x) ty ρ (St N0 B H) (.tuple #[.int .i64 (kv z.1).1, (kv z.1).2]) := .of (fun _ h => by cases h) fun f w _ _ _ _ he s => by
  have s1 : St N0 B (blk i (itObj b c ((dz ++ [z]).map (mz kv))) * R) w := h1.eq ▸ s
  have s2 : St N0 B (blk b (mapObj (Z.map (mz kv)) c) * R2) w := h2.eq ▸ s1.drop
  have hi := s1.blk.1
  have hb := s2.blk.1
  have hbk : (((dz ++ [z]).map (mz kv)).map fun t => t.2.2).toArray.back? = some z.2 := by
    rw [mz_stamps]; simp
  have hf : ((Z.map (mz kv)).map me).toArray.find? (fun e => e.born == z.2) = some (me (mz kv z)) := by
    have := find_born (me (mz kv z)) ((Z.map (mz kv)).map me) (by
      rw [List.map_map]
      exact hs.1) (List.mem_map.2 ⟨_, List.mem_map.2 ⟨z, hz, rfl⟩, rfl⟩)
    rw [List.find?_toArray]
    exact this
  have hr : (Instr.entry (.pointer (some ⟨i, 0, none⟩))).run P w = .ok (.tuple #[.int .i64 (kv z.1).1, (kv z.1).2]) w := by
    simp only [Instr.entry, getObj, Sem.run_bind, Sem.run, hi, hb, Result.andThen, hbk, bne_self_eq_false, Bool.false_eq_true, if_false, hf]
    rfl
  simp [execOp, he _ _ hx, hr, Result.andThen]
end
theorem St.putG {N0 : Nat} {B : Frag} {b : Nat} {o o' : Obj} {R : HP} {w w' : World} (h : St N0 B (SL.blk b o * R) w) (hb : w'.heap[b]? = some o') (hs : ∀ k, k < w.heap.size → k ≠ b → w'.heap[k]? = w.heap[k]?)
    (hz' : w.heap.size ≤ w'.heap.size) : St N0 B (SL.blk b o' * R) w' := by
  have hlt : ∀ {b : Nat} {u : Obj}, w.heap[b]? = some u → b < w.heap.size := fun h => (Array.getElem?_eq_some_iff.1 h).1
  obtain ⟨_, hB, hN⟩ := h.blk
  obtain ⟨hr, hz, k, hk, a, c, d, e, x, y⟩ := h
  have hx : a = Frag.one b o := x
  subst hx
  refine ⟨fun i u hi => ?_, Nat.le_trans hz hz', (Frag.one b o').un c, fun i u hi => ?_, Frag.one b o', c, fun i => ?_, rfl, rfl, y⟩
  · rw [hs i (hlt (hr i u hi)) (fun e => by subst e; rw [hB] at hi; cases hi)]; exact hr i u hi
  · by_cases e2 : i = b
    · subst e2
      simp [Frag.un, Frag.one] at hi
      subst hi
      exact ⟨hb, hB, hN⟩
    · have h2 : (Frag.un (Frag.one b o) c) i = some u := by
        simp [Frag.un, Frag.one, e2] at hi ⊢; exact hi
      rw [← e] at h2
      rw [hs i (hlt (hk i u h2).1) e2]
      exact hk i u h2
  · rcases d i with z | z
    · left
      simp only [Frag.one] at z ⊢
      split at z
      · cases z
      · rename_i hne; simp [hne]
    · exact .inr z
abbrev ints (zs : List Int) : List Value := zs.map (Value.int .i64)
abbrev sortI (zs : List Int) : List Int := zs.mergeSort fun x y => decide (x ≤ y)
theorem Ct.of_sort {P : Program} {f : FuncId} (he : ∀ args w, (callFunc f args).run P w = .ok (.enter f args) w)
    (h1 : ∀ (blk off cap : Nat) (zs : List Int) (w : World), Holds (Value.int .i64) w blk off zs.toArray → blk < w.heap.size → zs.length < 4611686018427387904 →
      Calls P f #[.slice (some ⟨blk, off, none⟩) zs.length cap] w fun e w' => e = .returned (.tuple #[]) ∧ ∃ n os, w' = grow (putRow (Value.int .i64) (Sort.ahead w n) blk off (sortI zs).toArray) os)
    (h0 : ∀ (p : Option Addr) (cap : Nat) (w : World), Calls P f #[.slice p 0 cap] w fun e w' => e = .returned (.tuple #[]) ∧ w' = w)
    (zs : List Int) (A : Option Addr) (c : Nat) (et : TypeId) (B : Frag) (hz : zs.length < 4611686018427387904) :
    Ct P f [.slice A zs.length c] B (sbuf et 1 A zs.length c (ints zs)) (fun v B' H' => B' = B ∧ v = .tuple #[] ∧ H' = sbuf et 1 A zs.length c (ints (sortI zs))) :=
  ⟨he, fun N0 w R s => by
    have hln : (sortI zs).length = zs.length := List.length_mergeSort _
    rcases s.cases_sbuf with ⟨e1, e2, e3, e4, s'⟩ | ⟨b, sp, e1, e2, e3, e4, s'⟩
    · have e5 : zs = [] := by simpa using e4
      subst e5 e1 e3
      refine (h0 none 0 w).mono ?_
      rintro x w' ⟨rfl, rfl⟩
      refine ⟨_, B, _, rfl, ⟨rfl, rfl, rfl⟩, Fl _, Below.refl _ _, ?_⟩
      have : sortI [] = [] := by simp [sortI]
      rw [this]; exact s
    · subst e1
      have hb := s'.blk.1
      have hlt : b < w.heap.size := (Array.getElem?_eq_some_iff.1 hb).1
      have hH : Holds (Value.int .i64) w b 0 zs.toArray := holds_of_blockI hb (by simp [ints])
      refine (h1 b 0 c zs w hH hlt hz).mono ?_
      rintro x w' ⟨rfl, n, os, rfl⟩
      have hg := grownBy_sortedI (w := w) (g := b) (n := n) (os := os) (sortI zs).toArray
      have hp := heap_sortedI (n := n) (os := os) (sortI zs).toArray hb
      have s2 := s'.putG hp (fun k hk hne => hg.block k hk (fun e => hne (Option.some.inj e))) hg.size
      have hcells : putCells (Value.int .i64) 0 (sortI zs).toArray (ints zs ++ sp).toArray = (ints (sortI zs) ++ sp).toArray := by
        have t1 := take_putCellsI (ints zs ++ sp).toArray (sortI zs) (by simp [ints, hln])
        apply Array.toList_inj.1
        apply List.ext_getElem?
        intro j
        by_cases hj : j < (sortI zs).length
        · rw [← List.getElem?_take_of_lt hj, t1, List.getElem?_append_left (by simpa [ints] using hj)]
        · rw [List.getElem?_append_right (by simp [ints]; omega)]
          simp only [Array.getElem?_toList, putCells, Array.getElem?_mapIdx, List.getElem?_toArray]
          rw [List.getElem?_append_right (by simp [ints]; omega)]
          simp only [ints, List.length_map, hln]
          have : ¬ (0 ≤ j ∧ j < 0 + (sortI zs).toArray.size) := by simp; omega
          cases sp[j - zs.length]? <;> simp [this]
          intro h; omega
      rw [hcells] at s2
      refine ⟨_, B, _, rfl, ⟨rfl, rfl, rfl⟩, Fl _, ⟨hg.os, hg.tape, hg.output, hg.size, fun k hk => hg.block k (by have := s'.blk.2.2; have := s.sz; omega) (fun e => ?_)⟩, St.of_sbuf (by simp [ints, hln]) e3 (by simpa [ints, hln] using e4) s2⟩
      have h9 := s'.blk.2.2
      have := Option.some.inj e
      omega⟩
end Go.SL
namespace Go.SL
open Go.RowKit
section
variable {P : Program} {ρ : Sl} {S : World → Prop} {ty t t2 : TypeId} {x y : Operand} {v : Value}
theorem maxI {k : IntKind} {m n : Int} (hx : ev ρ x = some (.int k m)) (hy : ev ρ y = some (.int k n)) : Yx P (.call { callee := .builtin .max, args := #[x, y], argTypes := #[t, t2] }) ty ρ S (.int k (if n > m then n else m)) := .of (fun _ h => by cases h) fun f w _ _ _ _ he _ => by
  simp [execOp, resolve, invoke, builtin, Builtin.max_, Builtin.max2, he _ _ hx, he _ _ hy]
end
theorem zero_cells (z : Value) (n : Nat) : Builtin.zeroCells #[z] n = (List.replicate n z).toArray := by
  apply Array.toList_inj.1
  apply List.ext_getElem?
  intro i
  by_cases h : i < n
  · simp [Builtin.zeroCells, h, Nat.mod_one]
  · simp [Builtin.zeroCells, h]
section
variable {e : Env} {ds : List Deferred} {ρ : Sl} {B : Frag} {H R : HP} {t tx et et' ty tyx : TypeId} {x y : Operand} {nl nd c nx cx : Nat} {xs news : List Value} {A Ax : Option Addr} {z : Value} {bytes : Nat}
theorem amS {k : IntKind} {m : Nat} (ht : e.P.underlying t = some (.slice et)) (htx : e.P.underlying tx = some (.int k)) (hz : TI e.P et [z] 1 bytes) (hx : ev ρ x = some (.slice A nl c)) (hy : ev ρ y = some (i64 m)) [hp : PickS H A et 1 nl c xs R]
    (hm : 0 < m) (h1 : z.oneCell' = true) (hb : nl + m ≤ 9223372036854775807) (hbb : (nl + m) * bytes ≤ 140737488355328) :
    Ox e ds (.call { callee := .builtin .append, args := #[x, y], argTypes := #[t, tx] }) ty ρ B H
      (fun v B' H' => ∃ A' c', v = .slice A' (nl + m) c' ∧ nl + m ≤ c' ∧ B' = B ∧ H' = sbuf et 1 A' (nl + m) c' (xs ++ List.replicate m z) * R) :=
  .of_run (fun _ h => by cases h) fun f w dst pos after guard he s => by
    have s0 := s.of_eq hp.eq
    obtain ⟨i, zv, z1, z2, z3, z4, z5, z6, z7⟩ := hz
    have z3' : zv.cells = #[z] := z3
    have hw : IntKind.i64.wrap (m : Int) = m := by rw [IntKind.wrap_i64]; omega
    have hneg : ¬ ((m : Int) < 0) := by omega
    have h48i : ¬ (281474976710656 < (m : Int) * (i.bytes : Int)) := by
      rw [← Int.natCast_mul, z5]
      have : m * bytes ≤ (nl + m) * bytes := Nat.mul_le_mul_right _ (by omega)
      omega
    have hm0 : ¬ (m * i.size = 0) := by rw [z4]; omega
    have grow : ∀ (olds : List Value), olds = xs → olds.length = nl → (Builtin.firstCells i.size nl (.slice A nl c)).run e.P w.drew = .ok olds.toArray w.drew → c < nl + m → St e.N0 B R w →
        ∃ v w' B' H', (execOp f ⟨dst, .call { callee := .builtin .append, args := #[x, y], argTypes := #[t, tx] }, ty, pos, after, guard⟩).run e.P w = .ok (.value v) w' ∧
          (∃ A' c', v = .slice A' (nl + m) c' ∧ nl + m ≤ c' ∧ B' = B ∧ H' = sbuf et 1 A' (nl + m) c' (xs ++ List.replicate m z) * R) ∧ B.le B' ∧ Below e.N0 w w' ∧ St e.N0 B' H' w' := by
      intro olds heq hol hfc hlt sR
      have hcap := nextslicecap_le (need := nl + m) (old := c) hlt
      have hge : nl + m ≤ grownCap w (nl + m) c et := by unfold grownCap Question.cut; simp
      have hfit : Builtin.nextslicecap (nl + m) c * i.bytes ≤ 281474976710656 := by
        rw [z5]
        calc Builtin.nextslicecap (nl + m) c * bytes ≤ (2 * (nl + m)) * bytes := Nat.mul_le_mul_right _ hcap
          _ = 2 * ((nl + m) * bytes) := by rw [Nat.mul_assoc]
          _ ≤ 281474976710656 := by omega
      have h63' : ¬ (9223372036854775807 < ((nl : Int) + (m : Int))) := by omega
      have h48' : ¬ (281474976710656 < Builtin.nextslicecap (nl + m) c * i.bytes) := by omega
      have hn : ¬ (nl + m ≤ c) := by omega
      have hr : (Builtin.append_ #[t, tx] ty #[.slice A nl c, i64 m]).run e.P w = .ok (.slice (some ⟨w.heap.size, 0, none⟩) (nl + m) (grownCap w (nl + m) c et)) (w.drew.alloc (.cells (olds ++ List.replicate m z ++ List.replicate (grownCap w (nl + m) c et - (nl + m)) z).toArray et (0, 0))) := by
        simp [Builtin.append_, run_underlying ht, run_underlying htx, sizeOf, typeInfo, zeroValue, z1, z2, asInt, asIntOf, hw, hneg, hn, hm0, h63', h48', h48i, Question.forced, hfc, newRow, grownCap, z3', zero_cells]
        congr 2
        apply Array.toList_inj.1
        simp
      refine ⟨.slice (some ⟨w.heap.size, 0, none⟩) (nl + m) (grownCap w (nl + m) c et), w.drew.alloc (.cells (olds ++ List.replicate m z ++ List.replicate (grownCap w (nl + m) c et - (nl + m)) z).toArray et (0, 0)), B, _, ?_, ⟨_, _, rfl, hge, rfl, rfl⟩, Fl _, ((Below.refl _ _).drew).alloc s.sz _, ?_⟩
      · simp [execOp, resolve, he _ _ hx, he _ _ hy, invoke, builtin, hr]
      · subst heq
        exact St.of_sbuf (sp := List.replicate (grownCap w (nl + m) c et - (nl + m)) z) (by simp [hol]) hge (by simp [hol]; omega) (sR.drew.alloc _)
    rcases s0.cases_sbuf with ⟨e1, e2, e3, e4, s'⟩ | ⟨b, sp, e1, e2, e3, e4, s'⟩
    · subst e1; subst e2; subst e3; subst e4
      exact grow [] rfl rfl (by simp [Builtin.firstCells]) (by omega) s'
    · subst e1
      have hxl : xs.length = nl := by omega
      rw [List.length_append] at e4
      by_cases hroom : nl + m ≤ c
      · have hst := run_storeCells_at (P := e.P) b (0 + nl * 1) et (List.replicate m z) 0 (xs ++ sp).toArray w s'.blk.1 (by simp; omega) (by intro v hv; rw [List.eq_of_mem_replicate hv]; exact h1)
        simp only [List.toList_toArray, Nat.add_zero] at hst
        have hcs : (xs ++ sp).take (0 + nl * 1) ++ List.replicate m z ++ (xs ++ sp).drop (0 + nl * 1 + (List.replicate m z).length) = xs ++ List.replicate m z ++ sp.drop m := by
          rw [List.length_replicate, show 0 + nl * 1 = xs.length by omega, List.take_left, List.drop_append, List.drop_of_length_le (by omega), List.nil_append, show xs.length + m - xs.length = m by omega]
        rw [hcs] at hst
        have hap : (Builtin.append_ #[t, tx] ty #[.slice (some ⟨b, 0, none⟩) nl c, i64 m]).run e.P w = .ok (.slice (some ⟨b, 0, none⟩) (nl + m) c) (w.setRow b (xs ++ List.replicate m z ++ sp.drop m).toArray) := by
          simp [Builtin.append_, run_underlying ht, run_underlying htx, sizeOf, typeInfo, zeroValue, z1, z2, z4, asInt, asIntOf, hw, hneg, hroom, h48i, z3', zero_cells, add_mk]
          have hm1 : ¬ m = 0 := by omega
          simp at hst
          simp [hm1, hst]
        refine ⟨_, _, B, _, ?_, ⟨_, _, rfl, hroom, rfl, rfl⟩, Fl _, (s'.setRow _).2, St.of_sbuf (sp := sp.drop m) (by simp [hxl]) hroom (by simp [hxl]; omega) (s'.setRow _).1⟩
        simp [execOp, resolve, he _ _ hx, he _ _ hy, invoke, builtin, hap]
      · have hfc : (Builtin.firstCells i.size nl (.slice (some ⟨b, 0, none⟩) nl c)).run e.P w.drew = .ok xs.toArray w.drew :=
          run_firstCells_some w.drew i.size nl _ nl c xs (by rw [z4]; omega) fun j v hj => by
            rw [add_mk]
            refine cell_of_heap s'.drew.blk.1 ?_
            rw [Nat.zero_add, List.getElem?_append_left (List.getElem?_eq_some_iff.1 hj).1]
            exact hj
        exact grow xs rfl hxl hfc (by omega) s'.drop
theorem SrcH.buf {N0 n b f m : Nat} [hp : PickS H (some ⟨b, 0, none⟩) et 1 n c xs R] (hx : xs.length = n) (hm : f + m ≤ n) (hn : n ≤ c) : SrcH N0 B H (subA (some ⟨b, 0, none⟩) c f 1) ((xs.drop f).take m) := by
  by_cases h0 : m = 0
  · subst h0; exact .inl (by simp)
  have e9 : subA (some ⟨b, 0, none⟩) c f 1 = some ⟨b, 0 + f * 1, none⟩ := by
    unfold subA; rw [if_neg (by omega)]; simp [add_mk]
  rw [e9]
  refine .inr ⟨b, 0 + f * 1, rfl, fun w s j v hj => ?_⟩
  rw [show 0 + f * 1 = f by omega]
  exact Cells.buf (b := b) (o := f) (m := m) rfl (by omega) w s j v hj
theorem cpS {n k : Nat} (cnt : Nat) (xs' : List Value) (ht : e.P.underlying t = some (.slice et)) (hs : (e.P.info? et).map (·.size) = some 1) (hx : ev ρ x = some (.slice (subA A c k 1) (n - k) (c - k))) (hy : ev ρ y = some (.slice Ax nx cx)) [hp : PickS H A et 1 n c xs R]
    (hk : k ≤ n) (hc : Nat.min nx (n - k) = cnt) (hn : news.length = cnt) (hS : SrcH e.N0 B H Ax news) (h1 : news.all (·.oneCell') = true) (hr : xs.take k ++ news ++ xs.drop (k + cnt) = xs') :
    Ox e ds (.call { callee := .builtin .copy, args := #[x, y], argTypes := #[t, tx] }) ty ρ B H (fun v B' H' => v = i64 cnt ∧ B' = B ∧ H' = sbuf et 1 A n c xs' * R) :=
  .of_run (fun _ h => by cases h) fun f w dst pos after guard he s => by
    subst hc hr
    have s0 := s.of_eq hp.eq
    have hfc := St.src (P := e.P) (nx := Nat.min nx (n - k)) (size := 1) hS (by omega) s nx cx
    cases hq : e.P.info? et with
    | none => simp [hq] at hs
    | some i =>
      have hi : i.size = 1 := by simpa [hq] using hs
      by_cases h0 : news = []
      · subst h0
        have hm0 : Nat.min nx (n - k) = 0 := by simpa using hn.symm
        have hcp : (Builtin.copy_ #[t, tx] ty #[.slice (subA A c k 1) (n - k) (c - k), .slice Ax nx cx]).run e.P w = .ok (i64 (Nat.min nx (n - k) : Nat)) w := by
          rw [← hi] at hfc
          simp only [Builtin.copy_, Sem.run_bind, run_underlying ht, Result.andThen, Builtin.lenOf, Sem.run_pure, sizeOf, typeInfo, run_program, hq, hfc, List.getElem?_toArray, List.getElem?_cons_zero, List.getElem?_cons_succ]
          cases subA A c k 1 <;> simp [hfc, goInt, storeCells]
        refine ⟨_, w, B, _, ?_, ⟨rfl, rfl, rfl⟩, Fl _, Below.refl _ _, ?_⟩
        · simp [execOp, resolve, he _ _ hx, he _ _ hy, invoke, builtin, hcp]
        · rw [hm0, List.append_nil, Nat.add_zero, List.take_append_drop]; exact s0
      · have hpos : 0 < Nat.min nx (n - k) := by rw [← hn]; exact List.length_pos_iff.2 h0
        have hle : Nat.min nx (n - k) ≤ n - k := Nat.min_le_right _ _
        rcases s0.cases_sbuf with ⟨_, h2, _⟩ | ⟨b, sp, e1, e2, e3, e4, s'⟩
        · omega
        · subst e1
          have e9 : subA (some ⟨b, 0, none⟩) c k 1 = some ⟨b, k, none⟩ := by
            unfold subA; rw [if_neg (by omega)]; simp [add_mk]
          rw [e9] at hx
          rw [List.length_append] at e4
          have hst := run_storeCells_at (P := e.P) b (k) et news 0 (xs ++ sp).toArray w s'.blk.1 (by simp; omega) (by simpa using h1)
          simp only [List.toList_toArray, Nat.add_zero] at hst
          have hcs : (xs ++ sp).take (k) ++ news ++ (xs ++ sp).drop (k + news.length) = xs.take k ++ news ++ xs.drop (k + Nat.min nx (n - k)) ++ sp := by
            rw [List.take_append_of_le_length (by omega), List.drop_append_of_le_length (by omega), hn, List.append_assoc, List.append_assoc, List.append_assoc]
          rw [hcs] at hst
          have hcp : (Builtin.copy_ #[t, tx] ty #[.slice (some ⟨b, k, none⟩) (n - k) (c - k), .slice Ax nx cx]).run e.P w = .ok (i64 (Nat.min nx (n - k) : Nat)) (w.setRow b (xs.take k ++ news ++ xs.drop (k + Nat.min nx (n - k)) ++ sp).toArray) := by
            rw [← hi] at hfc
            simp only [Builtin.copy_, Sem.run_bind, run_underlying ht, Result.andThen, Builtin.lenOf, Sem.run_pure, sizeOf, typeInfo, run_program, hq, hfc, hst, List.getElem?_toArray, List.getElem?_cons_zero, List.getElem?_cons_succ]
            simp [hfc, hst, goInt]
          have hl : (xs.take k ++ news ++ xs.drop (k + Nat.min nx (n - k))).length = n := by
            simp only [List.length_append, List.length_take, List.length_drop, hn]; omega
          refine ⟨_, _, B, _, ?_, ⟨rfl, rfl, rfl⟩, Fl _, (s'.setRow _).2, St.of_sbuf (sp := sp) (by omega) e3 (by rw [List.length_append]; omega) (s'.setRow _).1⟩
          simp [execOp, resolve, he _ _ hx, he _ _ hy, invoke, builtin, hcp]
end
end Go.SL
namespace Go.SL
open Go.RowKit
section
variable {e : Env} {ds : List Deferred} {ρ : Sl} {B : Frag} {H R : HP} {t tx et ty : TypeId} {x y : Operand}
theorem appT0 {et : TypeId} {size bytes nl c nx : Nat} {zs xs news : List Value} {A : Option Addr} {p : HP} {sv : ByteArray}
    (ht : e.P.underlying t = some (.slice et)) (htx : e.P.underlying tx = some .string) (hz : TI e.P et zs size bytes)
    (hx : ev ρ x = some (.slice A nl c)) (hy : ev ρ y = some (.string sv)) (hsr : ∀ w, Src e.P size tx (.string sv) nx news w) (hnl0 : news.length = nx * size) (h1 : news.all (·.oneCell') = true)
    (hH : H = sbuf et size A nl c xs * (p * R)) (hb : nl + nx ≤ 9223372036854775807) (hbb : (nl + nx) * bytes ≤ 140737488355328) :
    Ox e ds (.call { callee := .builtin .append, args := #[x, y], argTypes := #[t, tx] }) ty ρ B H
      (fun v B' H' => ∃ A' c', v = .slice A' (nl + nx) c' ∧ (0 < nl + nx → ∃ b, A' = some ⟨b, 0, none⟩) ∧ xs.length = nl * size ∧ nl + nx ≤ c' ∧ B' = B ∧ H' = sbuf et size A' (nl + nx) c' (xs ++ news) * (p * R)) :=
  .of_run (fun _ h => by cases h) fun f w dst pos after guard he s => by
    subst hH
    obtain ⟨i, zv, z1, z2, z3, z4, z5, z6, z7⟩ := hz
    have h1' : ∀ u ∈ news, u.oneCell' = true := by simpa using h1
    have hsrc : Src e.P i.size tx (.string sv) nx news w := by rw [z4]; exact hsr w
    have hrunE : ∀ {r w'}, (Builtin.append_ #[t, tx] ty #[.slice A nl c, .string sv]).run e.P w = .ok r w' → (execOp f ⟨dst, .call { callee := .builtin .append, args := #[x, y], argTypes := #[t, tx] }, ty, pos, after, guard⟩).run e.P w = .ok (.value r) w' := by
      intro r w' hr
      simp [execOp, resolve, he _ _ hx, he _ _ hy, invoke, builtin, hr]
    have hnl : news.length = nx * size := hnl0
    have grow : ∀ (olds : List Value), olds.length = nl * size → (Builtin.firstCells i.size nl (.slice A nl c)).run e.P w.drew = .ok olds.toArray w.drew → c < nl + nx → olds = xs → St e.N0 B (p * R) w →
        ∃ v w' B' H', (execOp f ⟨dst, .call { callee := .builtin .append, args := #[x, y], argTypes := #[t, tx] }, ty, pos, after, guard⟩).run e.P w = .ok (.value v) w' ∧
          (∃ A' c', v = .slice A' (nl + nx) c' ∧ (0 < nl + nx → ∃ b, A' = some ⟨b, 0, none⟩) ∧ xs.length = nl * size ∧ nl + nx ≤ c' ∧ B' = B ∧ H' = sbuf et size A' (nl + nx) c' (xs ++ news) * (p * R)) ∧ B.le B' ∧ Below e.N0 w w' ∧ St e.N0 B' H' w' := by
      intro olds hol hold hlt heq s0
      have hcap := nextslicecap_le (need := nl + nx) (old := c) hlt
      have hr := run_append_grow_src (P := e.P) w t tx ty et i zv ht z1 z2 A nl c olds hold (.string sv) nx news hsrc hlt (by omega) (by
        rw [z5]
        calc Builtin.nextslicecap (nl + nx) c * bytes ≤ (2 * (nl + nx)) * bytes := Nat.mul_le_mul_right _ hcap
          _ = 2 * ((nl + nx) * bytes) := by rw [Nat.mul_assoc]
          _ ≤ 281474976710656 := by omega)
      have hge : nl + nx ≤ grownCap w (nl + nx) c et := by
        unfold grownCap Question.cut; simp
      obtain ⟨sp, hsp⟩ : ∃ sp : List Value, (olds ++ news).toArray ++ Builtin.zeroCells zv.cells (grownCap w (nl + nx) c et - (nl + nx)) = (olds ++ news ++ sp).toArray ∧ sp.length = (grownCap w (nl + nx) c et - (nl + nx)) * size := by
        refine ⟨(Builtin.zeroCells zv.cells (grownCap w (nl + nx) c et - (nl + nx))).toList, by apply Array.toList_inj.1; simp, ?_⟩
        simp [Builtin.zeroCells, z3, z6]
      subst heq
      rw [hsp.1] at hr
      refine ⟨_, _, B, _, hrunE hr, ⟨_, _, rfl, fun _ => ⟨_, rfl⟩, hol, hge, rfl, rfl⟩, Fl _, ((Below.refl _ _).drew).alloc s.sz _, ?_⟩
      have := s0.drew.alloc (.cells (olds ++ news ++ sp).toArray et (0, 0))
      refine St.of_sbuf (sp := sp) (by simp [hol, hnl, Nat.add_mul]) hge ?_ this
      have : (grownCap w (nl + nx) c et) * size = (grownCap w (nl + nx) c et - (nl + nx)) * size + (nl + nx) * size := by
        rw [← Nat.add_mul]; congr 1; omega
      simp [hol, hnl, hsp.2, this, Nat.add_mul]; omega
    rcases s.cases_sbuf with ⟨e1, e2, e3, e4, s'⟩ | ⟨b, sp, e1, e2, e3, e4, s'⟩
    · subst e1; subst e2; subst e3; subst e4
      by_cases h0 : nx = 0
      · subst h0
        have hn : news = [] := by simpa using hnl
        subst hn
        refine ⟨.slice none 0 0, w, B, _, hrunE ?_, ⟨none, 0, rfl, fun h => by omega, by simp, Nat.le_refl _, rfl, rfl⟩, Fl _, Below.refl _ _, by simpa using s⟩
        have hfc := hsrc.cells
        have hlen := hsrc.len w
        simp [Builtin.append_, run_underlying ht, run_underlying htx, sizeOf, typeInfo, z1, hlen, hfc]
      · exact grow [] (by simp) (by simp [Builtin.firstCells]) (by omega) rfl s'
    · subst e1
      by_cases hroom : nl + nx ≤ c
      · have hspl : (nl + nx) * size ≤ c * size := Nat.mul_le_mul_right _ hroom
        have hlen1 : xs.length + sp.length = c * size := by simpa using e4
        have hh := s'.blk.1
        have hst := run_storeCells_at (P := e.P) b (nl * size) et news 0 (xs ++ sp).toArray w hh (by simp; rw [Nat.add_mul] at hspl; omega) h1'
        have hl2 : (xs ++ sp).take (nl * size + 0) ++ news ++ (xs ++ sp).drop (nl * size + 0 + news.length) = (xs ++ news) ++ sp.drop news.length := by
          simp only [Nat.add_zero]
          rw [List.take_append_of_le_length (by omega), ← e2, List.take_length, List.drop_append]
          simp
        simp only [List.toList_toArray] at hst
        rw [hl2] at hst
        have hlen := hsrc.len w
        have hfc := hsrc.cells
        rw [z4] at hfc
        have hr : (Builtin.append_ #[t, tx] ty #[.slice (some ⟨b, 0, none⟩) nl c, .string sv]).run e.P w = .ok (.slice (some ⟨b, 0, none⟩) (nl + nx) c) (w.setRow b ((xs ++ news) ++ sp.drop news.length).toArray) := by
          simp only [Builtin.append_, Sem.run_bind, Sem.run_pure, Result.andThen, run_underlying ht, run_underlying htx, sizeOf, typeInfo, run_program, z1, z4, hlen, hroom, if_true, hfc, add_mk, Nat.zero_add, hst, List.getElem?_toArray, List.getElem?_cons_zero, List.getElem?_cons_succ]
          simp [hlen, hroom, hfc, hst]
        refine ⟨_, _, B, _, hrunE hr, ⟨_, _, rfl, fun _ => ⟨_, rfl⟩, e2, hroom, rfl, rfl⟩, Fl _, (s'.setRow _).2, ?_⟩
        refine St.of_sbuf (sp := sp.drop news.length) (by simp [e2, hnl, Nat.add_mul]) hroom ?_ (s'.setRow _).1
        simp
        rw [Nat.add_mul] at hspl
        omega
      · exact grow xs e2 (by
          have := run_firstCells_some (P := e.P) w.drew i.size nl ⟨b, 0, none⟩ nl c xs (by rw [z4]; exact e2) (fun j u hj => by
            rw [add_mk, Nat.zero_add]
            refine cell_of_heap s'.drew.blk.1 ?_
            rw [List.getElem?_append_left (List.getElem?_eq_some_iff.1 hj).1]; exact hj)
          exact this) (by omega) rfl s'.drop
theorem byteCells_str (l : List UInt8) : byteCells ⟨l.toArray⟩ = u8s l := by simp [byteCells, u8s]
theorem appT {A : Option Addr} {xs zs : List Value} {nl c bytes : Nat} {l : List UInt8} (n' : Nat) (xs' : List Value) (ht : e.P.underlying t = some (.slice et)) (htx : e.P.underlying tx = some .string) (hz : TI e.P et zs 1 bytes)
    (hx : ev ρ x = some (.slice A nl c)) (hy : ev ρ y = some (str l)) [hp : PickS H A et 1 nl c xs R] (hb : nl + l.length ≤ 9223372036854775807) (hbb : (nl + l.length) * bytes ≤ 140737488355328) (hn : nl + l.length = n') (hxs : xs ++ u8s l = xs') :
    Ox e ds (.call { callee := .builtin .append, args := #[x, y], argTypes := #[t, tx] }) ty ρ B H
      (fun v B' H' => ∃ A' c', v = .slice A' n' c' ∧ (0 < n' → ∃ b, A' = some ⟨b, 0, none⟩) ∧ n' ≤ c' ∧ B' = B ∧ H' = sbuf et 1 A' n' c' xs' * R) := by
  subst hn hxs
  have h := appT0 (e := e) (ds := ds) (ρ := ρ) (B := B) (H := H) (ty := ty) (R := R) (p := 1) (nx := l.length) (news := u8s l) (sv := ⟨l.toArray⟩) ht htx hz hx hy (fun w => by
    have := Src.ofString (P := e.P) (w := w) htx ⟨l.toArray⟩
    rw [byteCells_str] at this
    exact this) (by rw [u8s_len, Nat.mul_one]) (by rw [List.all_eq_true]; intro v hv; obtain ⟨x, _, rfl⟩ := List.mem_map.1 hv; rfl) (by rw [one_star]; exact hp.eq) hb hbb
  exact ⟨h.1, fun a w dst pos after guard K Q f b s k => h.2 a w dst pos after guard K Q f b s fun v B' H' w' ⟨A', c', e1, e2, e3, e4, e5, e6⟩ hB hb hs => k v B' H' w' ⟨A', c', e1, e2, e4, e5, by rw [e6, one_star]⟩ hB hb hs⟩
end
section
variable {e : Env} {ds : List Deferred} {ρ : Sl} {B : Frag} {H R : HP} {t tx et et' ty tyx : TypeId} {x y : Operand} {nl nd c : Nat} {xs news : List Value} {A : Option Addr} {l : List UInt8}
end
end Go.SL
namespace Go.SL
open Go.RowKit
section
variable {P : Program} {ρ : Sl} {S : World → Prop} {ty t t2 et : TypeId} {x y : Operand} {A : Option Addr} {n c : Nat}
theorem usD (hx : ev ρ x = some (.slice A n c)) (hz : A = none ∨ c ≠ 0) : Yx P (.call { callee := .builtin .unsafeSliceData, args := #[x], argTypes := #[t] }) ty ρ S (.pointer A) := .of (fun _ h => by cases h) fun f w _ _ _ _ he _ => by
  have h : (Builtin.unsafeSliceData_ #[t] ty #[.slice A n c]).run P w = .ok (.pointer A) w := by
    cases A with
    | none => exact Lib.run_unsafeSliceData_nil _ _ _ _ _
    | some a => exact Lib.run_unsafeSliceData_row _ _ _ _ _ _ (hz.resolve_left (fun h => by cases h))
  simp [execOp, resolve, he _ _ hx, invoke, builtin, h]
theorem St.letgo {N0 : Nat} {B : Frag} {b : Nat} {o o' : Obj} {R : HP} {w w' : World} (h : St N0 B (SL.blk b o * R) w) (hb : w'.heap[b]? = some o') (hs : ∀ k, k ≠ b → w'.heap[k]? = w.heap[k]?)
    (hz' : w.heap.size ≤ w'.heap.size) : St N0 B R w' := (h.put hb hs hz').drop
variable {e : Env} {ds : List Deferred} {B : Frag} {H R : HP} {l : List UInt8}
theorem usS {pt it : TypeId} (hpt : e.P.underlying pt = some (.pointer et)) (hc : e.P.cellsOf et = 1) (hx : ev ρ x = some (.pointer A)) (hy : ev ρ y = some (i64 (n : Int))) [hp : PickS H A et 1 n c (u8s l) R] (hl : l.length = n) (hn : n ≤ 9223372036854775807) :
    Ox e ds (.call { callee := .builtin .unsafeString, args := #[x, y], argTypes := #[pt, it] }) ty ρ B H (fun v B' H' => v = str l ∧ B' = B ∧ H' = R) :=
  .of_run (fun _ h => by cases h) fun f w dst pos after guard he s => by
    subst hl
    have s0 := s.of_eq hp.eq
    by_cases h0 : l = []
    · subst h0
      refine ⟨_, w, B, R, ?_, ⟨rfl, rfl, rfl⟩, Fl _, Below.refl _ _, s0.drop⟩
      have hr := Lib.run_unsafeString_none (P := e.P) (w := w) pt it ty A
      simp [execOp, resolve, he _ _ hx, he _ _ hy, invoke, builtin]
      rw [hr]; rfl
    · rcases s0.cases_sbuf with ⟨_, h2, _⟩ | ⟨g, sp, e1, e2, e3, e4, s'⟩
      · exact absurd (List.length_eq_zero_iff.1 h2) h0
      · subst e1
        obtain ⟨hg, hB, hN⟩ := s'.blk
        have hcs : (u8s l ++ sp).length = c := by rw [e4, Nat.mul_one]
        have hr := Lib.run_unsafeString_row (P := e.P) w pt it ty et hpt hc g c (by simp [World.shape?, hg, hcs]) l h0 (by omega) hn (fun j x hx => by
          have h1 : w.cell? ⟨g, j, none⟩ = some (.int .u8 x.toNat) := cell_of_heap hg (by
            rw [List.getElem?_append_left (by rw [u8s_len]; exact (List.getElem?_eq_some_iff.1 hx).1)]
            simp [u8s, hx])
          rw [add_mk, Nat.zero_add]; exact h1)
        refine ⟨_, w.freeze ⟨g, 0, none⟩ l.length, B, R, ?_, ⟨rfl, rfl, rfl⟩, Fl _, Lib.below_freeze (p := ⟨g, 0, none⟩) (Below.refl _ _) hN _, ?_⟩
        · simp [execOp, resolve, he _ _ hx, he _ _ hy, invoke, builtin]
          rw [hr]; rfl
        · have hlz : ¬ l.length = 0 := fun h => h0 (List.length_eq_zero_iff.1 h)
          unfold World.freeze
          rw [if_neg hlz]
          refine s'.letgo (o' := .cells (u8s l ++ sp).toArray et (0, l.length)) ?_ (fun k hk => ?_) (by simp)
          · rw [Array.getElem?_modify, if_pos rfl, hg]; simp
          · rw [Array.getElem?_modify, if_neg (fun h => hk h.symm)]
end
theorem Xx.retC {P : Program} {B : Frag} {H R : HP} {ρ : Sl} {fn : Func} {N0 nt size : Nat} {w0 : World} {r : Option Nat} {B0 : Frag} {H' R1 : HP} {Φ : Value → Frag → HP → Prop} {t u : Tmp} {x : Value} {ty : TypeId} {d : TypeDesc} {vs : List Value} {b : Nat} {et : TypeId} {fz : Nat × Nat}
    (hr : fn.results = #[.cell t ty, .tmp u]) (ht : P.underlying ty = some d) (hd : aggB d = true) (hi : (P.info? ty).map (·.size) = some size) (hv : lk ρ t = some (.pointer (some ⟨b, 0, none⟩))) [hp : PickB H b (.cells vs.toArray et fz) R1] (hl : vs.length = size) (hx : lk ρ u = some x)
    (hΦ : Φ (.tuple #[.agg vs.toArray, x]) B H') (hB : B0.le B) (hH : R1 = H' * R) : Xx ⟨P, r, N0, w0, nt⟩ [] (bodyPost P fn (Fin N0 w0 R B0 Φ) .ret) ρ B H := fun a w f bl s => by
  have s' : St N0 B (blk b (.cells vs.toArray et fz) * R1) w := hp.eq ▸ s
  have hl := run_loadVar_row (P := P) w b et ty vs.toArray fz d s'.blk.1 ht (by cases d <;> simp_all [aggB]) (by rw [hi]; simp [hl])
  have h1 := f.get t _ hv
  have h2 := f.get u _ hx
  refine ⟨f.defers, .tuple #[.agg vs.toArray, x], ?_, _, B, H', rfl, hΦ, hB, bl, hH ▸ s'.drop⟩
  simp [results, hr, h1, h2, Sem.run_bind, asAddr, hl]
theorem Xx.dropT {e : Env} {ds : List Deferred} {K : Act → World → Prop} {ρ : Sl} {B : Frag} {H R : HP} (A : Option Addr) {et : TypeId} {size n c : Nat} {xs : List Value} [hp : PickS H A et size n c xs R] (h : Xx e ds K ρ B R) : Xx e ds K ρ B H := Xx.perm (Xx.drop h) hp.eq
theorem pickTwo {H p q R1 R2 : HP} [h1 : Pick H p R1] [h2 : Pick R1 q R2] : H = (p * q) * R2 := by rw [h1.eq, h2.eq, star_assoc]
end Go.SL
namespace Go.SL
open Go.RowKit
open Go.ChangeMaps (setBlock)
class MKey (κ : Type) [DecidableEq κ] where
  enc : κ → Value
  key : Program → TypeId → Prop
  chk : ∀ (P : Program) (w : World) (kt : TypeId) (e : Bool) (k : κ), key P kt → (Instr.checkKey e 10000 kt (enc k)).run P w = .ok () w
  find : ∀ (P : Program) (kt : TypeId), key P kt → ∃ d, P.underlying kt = some d ∧ ((∀ a b : κ, Instr.sameNow d (enc a) (enc b) = some (decide (a = b))) ∨ ((∀ a b : κ, Instr.sameNow d (enc a) (enc b) = none) ∧ ∀ (w : World) (a b : κ), (Op.equal kt (enc a) (enc b)).run P w = .ok (decide (a = b)) w))
  bits : ∀ k : κ, Instr.sameBits 10000 (enc k) (enc k) = true
theorem u64_same (a b : BitVec 64) : (((a.toNat : Nat) : Int) == ((b.toNat : Nat) : Int)) = decide (a = b) := by
  by_cases h : a = b
  · subst h; simp
  · rw [decide_eq_false h, beq_eq_false_iff_ne]
    exact fun e => h (BitVec.eq_of_toNat_eq (Int.ofNat.inj e))
instance : MKey (BitVec 64) where
  enc x := u64 x
  key P kt := P.underlying kt = some (.int .u64)
  chk P w kt e k hk := by
    have h : ∀ n, (Instr.checkKey e (n + 1) kt (u64 k)).run P w = .ok () w := fun n => by simp [Instr.checkKey, run_underlying hk, Result.andThen]
    exact h 9999
  find P kt hk := ⟨_, hk, .inl fun a b => by
    simp only [Instr.sameNow, if_pos]
    congr 1
    exact u64_same a b⟩
  bits k := by simp [Instr.sameBits]
instance : MKey (List UInt8) where
  enc x := str x
  key P kt := P.underlying kt = some .string
  chk P w kt e k hk := by
    have h : ∀ n, (Instr.checkKey e (n + 1) kt (str k)).run P w = .ok () w := fun n => by simp [Instr.checkKey, run_underlying hk, Result.andThen]
    exact h 9999
  find P kt hk := ⟨_, hk, .inl fun a b => by
    simp only [Instr.sameNow]
    congr 1
    show ((a.toArray == b.toArray) : Bool) = _
    by_cases h : a = b
    · subst h; simp
    · rw [decide_eq_false h, beq_eq_false_iff_ne]
      exact fun e => h (by simpa using e)⟩
  bits k := by
    show ((k.toArray == k.toArray) : Bool) = true
    simp
abbrev Plc := BitVec 64 × Int
instance : MKey Plc where
  enc p := .agg #[u64 p.1, i64 p.2]
  key P kt := ∃ f g : Field, P.underlying kt = some (.struct #[f, g]) ∧ P.stoodInHeld kt = false ∧ f.name ≠ "_" ∧ g.name ≠ "_" ∧ P.underlying f.type = some (.int .u64) ∧ P.underlying g.type = some (.int .i64) ∧ f.offset = 0 ∧ g.offset = 1
  chk P w kt e k hk := by
    obtain ⟨f, g, h1, _, h2, h3, h4, h5, h6, h7⟩ := hk
    have hf : ∀ n v, (Instr.checkKey e (n + 1) f.type (.int .u64 v)).run P w = .ok () w := fun n v => by simp [Instr.checkKey, run_underlying h4, Result.andThen]
    have hg : ∀ n v, (Instr.checkKey e (n + 1) g.type (.int .i64 v)).run P w = .ok () w := fun n v => by simp [Instr.checkKey, run_underlying h5, Result.andThen]
    have h : ∀ n, (Instr.checkKey e (n + 2) kt (.agg #[u64 k.1, i64 k.2])).run P w = .ok () w := fun n => by
      rw [Instr.checkKey]
      simp [run_underlying h1, Result.andThen, h2, h3, part, isAgg, run_underlying h4, run_underlying h5, h6, h7, hf, hg]
    exact h 9998
  find P kt hk := by
    obtain ⟨f, g, h1, h0, h2, h3, h4, h5, h6, h7⟩ := hk
    refine ⟨_, h1, .inr ⟨fun a b => rfl, fun w a b => ?_⟩⟩
    have hf : ∀ n u v, (Op.equalIn (n + 1) f.type (.int .u64 u) (.int .u64 v)).run P w = .ok (u == v) w := fun n u v => by simp [Op.equalIn, run_underlying h4, Result.andThen]
    have hg : ∀ n u v, (Op.equalIn (n + 1) g.type (.int .i64 u) (.int .i64 v)).run P w = .ok (u == v) w := fun n u v => by simp [Op.equalIn, run_underlying h5, Result.andThen]
    have h : ∀ n, (Op.equalIn (n + 2) kt (.agg #[u64 a.1, i64 a.2]) (.agg #[u64 b.1, i64 b.2])).run P w = .ok (decide (a = b)) w := fun n => by
      have ha : decide (a = b) = (decide (a.1 = b.1) && decide (a.2 = b.2)) := by rw [← Bool.decide_and, decide_eq_decide]; exact Prod.ext_iff
      rw [ha, ← u64_same]
      rw [Op.equalIn]
      by_cases e1 : ((a.1.toNat : Int) == (b.1.toNat : Int)) = true
      · by_cases e2 : (a.2 == b.2) = true
        · simp [run_underlying h1, Result.andThen, h0, h2, h3, part, isAgg, run_underlying h4, run_underlying h5, h6, h7, hf, hg, e1, e2]
          simpa using e2
        · simp [run_underlying h1, Result.andThen, h0, h2, h3, part, isAgg, run_underlying h4, run_underlying h5, h6, h7, hf, hg, e1, e2]
          simpa using e2
      · simp [run_underlying h1, Result.andThen, h0, h2, h3, part, isAgg, run_underlying h4, run_underlying h5, h6, h7, hf, hg, e1]
    exact h 9998
  bits k := by simp [Instr.sameBits]
abbrev Ge (κ : Type) := κ × Value × Nat
variable {κ : Type} [DecidableEq κ] [MKey κ]
def ge (t : Ge κ) : MapEntry := ⟨MKey.enc t.1, t.2.1, t.2.2⟩
def GStp (T : List (Ge κ)) (c : Nat) : Prop := (T.map fun t => t.2.2).Nodup ∧ ∀ t ∈ T, t.2.2 < c
def gkvs (T : List (Ge κ)) : List (κ × Value) := T.map fun t => (t.1, t.2.1)
abbrev gObj (T : List (Ge κ)) (c : Nat) : Obj := .map (T.map ge).toArray c
def gmap (b : Nat) (l : List (κ × Value)) : HP := fun h => ∃ T c, GStp T c ∧ gkvs T = l ∧ blk b (gObj T c) h
def gget (k : κ) : List (κ × Value) → Option Value
  | [] => none
  | (j, v) :: l => if k = j then some v else gget k l
def gset (k : κ) (v : Value) : List (κ × Value) → List (κ × Value)
  | [] => [(k, v)]
  | (j, u) :: l => if k = j then (k, v) :: l else (j, u) :: gset k v l
def gdel (k : κ) : List (κ × Value) → List (κ × Value)
  | [] => []
  | (j, u) :: l => if k = j then l else (j, u) :: gdel k l
def gix (k : κ) : List (Ge κ) → Option (Nat × Value)
  | [] => none
  | t :: T => if k = t.1 then some (0, t.2.1) else (gix k T).map fun p => (p.1 + 1, p.2)
theorem gix_get (k : κ) (T : List (Ge κ)) : (gix k T).map (·.2) = gget k (gkvs T) := by
  induction T with
  | nil => rfl
  | cons t T ih =>
    show _ = gget k ((t.1, t.2.1) :: gkvs T)
    simp only [gix, gget]
    split
    · rfl
    · rw [← ih, Option.map_map]; rfl
theorem find_ge {d : TypeDesc} (hd : ∀ a b : κ, Instr.sameNow d (MKey.enc a) (MKey.enc b) = some (decide (a = b))) (k : κ) : ∀ (T : List (Ge κ)) (i : Nat), Instr.findNow d (MKey.enc k) (T.map ge) i = some ((gix k T).map fun p => (i + p.1, p.2)) := by
  intro T
  induction T with
  | nil => intro i; rfl
  | cons t T ih =>
    intro i
    show (match Instr.sameNow d (MKey.enc k) (MKey.enc t.1) with | some true => some (some (i, t.2.1)) | some false => Instr.findNow d (MKey.enc k) (T.map ge) (i + 1) | none => none) = _
    rw [hd]
    by_cases h : k = t.1
    · rw [decide_eq_true h]
      simp [gix, h]
    · rw [decide_eq_false h]
      simp only [gix, if_neg h, ih, Option.map_map]
      congr 2
      funext p
      simp only [Function.comp_apply, Prod.mk.injEq, and_true]
      omega
theorem ask_ge {P : Program} {w : World} {kt : TypeId} (hE : ∀ a b : κ, (Op.equal kt (MKey.enc a) (MKey.enc b)).run P w = .ok (decide (a = b)) w) (k : κ) : ∀ (T : List (Ge κ)) (i : Nat), (Instr.findAsking kt (MKey.enc k) (T.map ge) i).run P w = .ok ((gix k T).map fun p => (i + p.1, p.2)) w := by
  intro T
  induction T with
  | nil => intro i; simp [Instr.findAsking, gix]
  | cons t T ih =>
    intro i
    have e := hE k t.1
    by_cases h : k = t.1
    · rw [decide_eq_true h] at e
      simp only [List.map_cons, Instr.findAsking, Sem.run_bind]
      rw [show (ge t).key = MKey.enc t.1 from rfl, e]
      simp [Result.andThen, gix, h, ge]
    · rw [decide_eq_false h] at e
      simp only [List.map_cons, Instr.findAsking, Sem.run_bind]
      rw [show (ge t).key = MKey.enc t.1 from rfl, e]
      simp only [Result.andThen, Bool.false_eq_true, if_false, ih, gix, if_neg h, Option.map_map]
      congr 2
      funext p
      simp only [Function.comp_apply, Prod.mk.injEq, and_true]
      omega
section
variable {P : Program} {w : World} {t kt et : TypeId} {b c : Nat} {T : List (Ge κ)} {k : κ}
theorem run_gfind (hk : MKey.key κ P kt) : (Instr.findKey kt (MKey.enc k) (T.map ge)).run P w = .ok (gix k T) w := by
  obtain ⟨d, hu, hd | ⟨hn, hE⟩⟩ := MKey.find (κ := κ) P kt hk
  · simp only [Instr.findKey, Sem.run_bind, run_underlying hu, Result.andThen, find_ge hd, Sem.run_pure]
    simp
  · cases T with
    | nil =>
      simp only [Instr.findKey, Sem.run_bind, run_underlying hu, Result.andThen]
      simp [Instr.findNow, gix]
    | cons t T =>
      have e : Instr.findNow d (MKey.enc k) ((t :: T).map ge) 0 = none := by
        show (match Instr.sameNow d (MKey.enc k) (MKey.enc t.1) with | some true => some (some (0, t.2.1)) | some false => Instr.findNow d (MKey.enc k) (T.map ge) (0 + 1) | none => none) = _
        rw [hn]
      simp only [Instr.findKey, Sem.run_bind, run_underlying hu, Result.andThen, e, ask_ge (hE w)]
      simp
theorem run_gcheck (hk : MKey.key κ P kt) (e : Bool) : (Instr.checkKey e 10000 kt (MKey.enc k)).run P w = .ok () w := MKey.chk P w kt e k hk
theorem run_glook (ht : P.underlying t = some (.map kt et)) (hk : MKey.key κ P kt) (hb : w.heap[b]? = some (gObj T c)) {z : Value} (hz : (zeroValue et).run P w = .ok z w) (ok : Bool) :
    (Instr.lookup t (.map (some b)) (MKey.enc k) ok).run P w = .ok (if ok then .tuple #[(gget k (gkvs T)).getD z, .bool (gget k (gkvs T)).isSome] else (gget k (gkvs T)).getD z) w := by
  rw [← gix_get]
  cases h : gix k T with
  | none => simp [Instr.lookup, run_underlying ht, MapKept.run_getObj_map hb, run_gcheck hk, run_gfind hk, h, hz, Result.andThen]
  | some p => simp [Instr.lookup, run_underlying ht, MapKept.run_getObj_map hb, run_gcheck hk, run_gfind hk, h, Result.andThen]
theorem gix_at : ∀ {T : List (Ge κ)} {p : Nat × Value}, gix k T = some p → ∃ t, T[p.1]? = some t ∧ t.1 = k ∧ t.2.1 = p.2 := by
  intro T
  induction T with
  | nil => intro p h; cases h
  | cons t T ih =>
    intro p h
    simp only [gix] at h
    split at h
    · rename_i e
      cases h
      exact ⟨t, rfl, e.symm, rfl⟩
    · obtain ⟨q, hq, rfl⟩ := Option.map_eq_some_iff.1 h
      obtain ⟨u, h1, h2, h3⟩ := ih hq
      exact ⟨u, by simpa using h1, h2, h3⟩
def gnewV (k : κ) (v : Value) (t : Ge κ) : Ge κ := (k, v, t.2.2)
theorem gkvs_mod {v : Value} : ∀ {T : List (Ge κ)} {p : Nat × Value}, gix k T = some p → gkvs (T.modify p.1 (gnewV k v)) = gset k v (gkvs T) := by
  intro T
  induction T with
  | nil => intro p h; cases h
  | cons t T ih =>
    intro p h
    show _ = gset k v ((t.1, t.2.1) :: gkvs T)
    simp only [gix] at h
    split at h
    · rename_i e
      cases h
      simp only [gset, if_pos e]
      rfl
    · rename_i e
      obtain ⟨q, hq, rfl⟩ := Option.map_eq_some_iff.1 h
      simp only [gset, if_neg e, ← ih hq]
      rfl
theorem gkvs_push {v : Value} : ∀ {T : List (Ge κ)}, gix k T = none → gkvs (T ++ [(k, v, c)]) = gset k v (gkvs T) := by
  intro T
  induction T with
  | nil => intro h; rfl
  | cons t T ih =>
    intro h
    show (t.1, t.2.1) :: gkvs (T ++ [(k, v, c)]) = gset k v ((t.1, t.2.1) :: gkvs T)
    simp only [gix] at h
    split at h
    · cases h
    · rename_i e
      simp only [gset, if_neg e]
      rw [ih (by simpa using h)]
theorem GStp.push {v : Value} (h : GStp T c) : GStp (T ++ [(k, v, c)]) (c + 1) := by
  obtain ⟨h1, h2⟩ := h
  refine ⟨?_, fun t ht => ?_⟩
  · rw [List.map_append, List.nodup_append]
    refine ⟨h1, by simp, fun a ha b hb => ?_⟩
    obtain ⟨t, ht, rfl⟩ := List.mem_map.1 ha
    have := h2 t ht
    simp at hb
    omega
  · rcases List.mem_append.1 ht with ht | ht
    · have := h2 t ht; omega
    · simp at ht; subst ht; exact Nat.lt_succ_self _
theorem GStp.stamps {T' : List (Ge κ)} (h : GStp T c) (e : T'.map (fun t => t.2.2) = T.map fun t => t.2.2) : GStp T' c := by
  refine ⟨by rw [e]; exact h.1, fun t ht => ?_⟩
  have : t.2.2 ∈ T'.map (fun t => t.2.2) := List.mem_map.2 ⟨t, ht, rfl⟩
  rw [e] at this
  obtain ⟨u, hu, e2⟩ := List.mem_map.1 this
  rw [← e2]; exact h.2 u hu
theorem GStp.mod {v : Value} {j : Nat} (h : GStp T c) : GStp (T.modify j (gnewV k v)) c := h.stamps (by
  rw [map_modify (fun t : Ge κ => t.2.2) (gnewV k v) id (fun x => rfl)]
  induction T.map (fun t : Ge κ => t.2.2) generalizing j with
  | nil => simp
  | cons x l ih => cases j with
    | zero => simp
    | succ j => simp [ih])
theorem run_gset (ht : P.underlying t = some (.map kt et)) (hk : MKey.key κ P kt) (hb : w.heap[b]? = some (gObj T c)) (hs : GStp T c) (v : Value) :
    ∃ T' c', (Instr.mapUpdate t (.map (some b)) (MKey.enc k) v).run P w = .ok () (setBlock w b (gObj T' c')) ∧ GStp T' c' ∧ gkvs T' = gset k v (gkvs T) := by
  cases h : gix k T with
  | none =>
    refine ⟨T ++ [(k, v, c)], c + 1, ?_, hs.push, gkvs_push h⟩
    have e : ((T ++ [(k, v, c)]).map ge).toArray = (T.map ge).toArray.push ⟨MKey.enc k, v, c⟩ := by
      apply Array.toList_inj.1; simp [ge]
    unfold gObj
    rw [e]
    simp [Instr.mapUpdate, run_underlying ht, MapKept.run_getObj_map hb, run_gcheck hk, run_gfind hk, h, MapKept.run_setObj_map _ hb, Result.andThen, setBlock]
  | some p =>
    refine ⟨T.modify p.1 (gnewV k v), c, ?_, hs.mod, gkvs_mod h⟩
    obtain ⟨u, hu, hk1, hk2⟩ := gix_at h
    have e : ((T.modify p.1 (gnewV k v)).map ge).toArray = (T.map ge).toArray.modify p.1 (fun e => { e with key := MKey.enc k, val := v }) := by
      apply Array.toList_inj.1
      rw [map_modify ge (gnewV k v) (fun e => { e with key := MKey.enc k, val := v }) (fun x => rfl)]
      simp
    have hst : (Instr.keyThatStays (MKey.enc k) (MKey.enc k)).run P w = .ok (MKey.enc k) w := by
      simp [Instr.keyThatStays, MKey.bits]
    have hkey : (((T.map ge)[p.1]?).map (·.key)).getD (MKey.enc k) = MKey.enc k := by
      rw [List.getElem?_map, hu]; simp [ge, hk1]
    unfold gObj
    rw [e]
    simp only [Instr.mapUpdate, Sem.run_bind, run_underlying ht, MapKept.run_getObj_map hb, run_gcheck hk, run_gfind hk, h, Result.andThen, List.getElem?_toArray, hkey, hst, MapKept.run_setObj_map _ hb]
    rfl
end
class PickG (H : HP) (b : Nat) (l : outParam (List (κ × Value))) (R : outParam HP) : Prop where
  eq : H = gmap b l * R
instance (b : Nat) (l : List (κ × Value)) (R : HP) : PickG (gmap b l * R) b l R := ⟨rfl⟩
instance (y H : HP) (b : Nat) (l : List (κ × Value)) (R : HP) [h : PickG H b l R] : PickG (y * H) b l (y * R) := ⟨by rw [h.eq, star_left]⟩
theorem St.gmap {N0 b : Nat} {B : Frag} {R : HP} {w : World} {l : List (κ × Value)} (s : St N0 B (SL.gmap b l * R) w) : ∃ T c, GStp T c ∧ gkvs T = l ∧ St N0 B (SL.blk b (gObj T c) * R) w := by
  obtain ⟨ro, sz, k, hk, h1, h2, d, e, ⟨T, c, hs, hl, hb⟩, y⟩ := s
  exact ⟨T, c, hs, hl, ro, sz, k, hk, h1, h2, d, e, hb, y⟩
theorem St.of_gmap {N0 b c : Nat} {B : Frag} {R : HP} {w : World} {T : List (Ge κ)} (hs : GStp T c) (s : St N0 B (SL.blk b (gObj T c) * R) w) : St N0 B (SL.gmap b (gkvs T) * R) w := by
  obtain ⟨ro, sz, k, hk, h1, h2, d, e, hb, y⟩ := s
  exact ⟨ro, sz, k, hk, h1, h2, d, e, ⟨T, c, hs, rfl, hb⟩, y⟩
section
variable {e : Env} {ds : List Deferred} {ρ : Sl} {B : Frag} {H R : HP} {t kt et ty tk : TypeId} {x y z : Operand} {b : Nat} {l : List (κ × Value)} {k : κ} {v zv : Value}
theorem mkG (κ : Type) [DecidableEq κ] [MKey κ] : Ox e ds (.makeMap t none) ty ρ B H (fun v B' H' => ∃ b, v = .map (some b) ∧ B' = B ∧ H' = gmap b ([] : List (κ × Value)) * H) :=
  .of_run (fun _ h => by cases h) fun f w dst pos after guard he s => by
    refine ⟨.map (some w.heap.size), w.alloc (gObj ([] : List (Ge κ)) 0), B, _, ?_, ⟨w.heap.size, rfl, rfl, rfl⟩, Fl _, Below.alloc (Below.refl _ w) s.sz _, St.of_gmap (T := ([] : List (Ge κ))) ⟨by simp, fun t h => by cases h⟩ (s.alloc _)⟩
    simp [execOp, Instr.makeMap, Result.andThen]
    rfl
theorem lkG {P : Program} {N0 : Nat} (ht : P.underlying t = some (.map kt et)) (hk : MKey.key κ P kt) (hz : ∀ w, (zeroValue et).run P w = .ok zv w) (hx : ev ρ x = some (.map (some b))) (hy : ev ρ y = some (MKey.enc k)) [hp : PickG H b l R] (hv : (gget k l).getD zv = v) :
    Yx P (.lookup t x y false) ty ρ (St N0 B H) v := .of (fun _ h => by cases h) fun f w _ _ _ _ he s => by
  subst hv
  have s' : St N0 B (gmap b l * R) w := hp.eq ▸ s
  obtain ⟨T, c, hs, rfl, s2⟩ := s'.gmap
  simp [execOp, he _ _ hx, he _ _ hy, run_glook ht hk s2.blk.1 (hz w), Result.andThen]
theorem stG (ht : e.P.underlying t = some (.map kt et)) (hk : MKey.key κ e.P kt) (hx : ev ρ x = some (.map (some b))) (hy : ev ρ y = some (MKey.enc k)) (hz : ev ρ z = some v) [hp : PickG H b l R] :
    Ox e ds (.mapUpdate t x y z) ty ρ B H (fun _ B' H' => B' = B ∧ H' = gmap b (gset k v l) * R) :=
  .of_skip (fun _ h => by cases h) fun f w _ _ _ _ he s => by
    have s' : St e.N0 B (gmap b l * R) w := hp.eq ▸ s
    obtain ⟨T, c, hs, rfl, s2⟩ := s'.gmap
    obtain ⟨T', c', hr, hs', hl'⟩ := run_gset ht hk s2.blk.1 hs v
    refine ⟨setBlock w b (gObj T' c'), B, _, ?_, ⟨rfl, rfl⟩, Fl _, (s2.setBlk _).2, by rw [← hl']; exact St.of_gmap hs' (s2.setBlk _).1⟩
    simp [execOp, he _ _ hx, he _ _ hy, he _ _ hz, hr, Result.andThen]
abbrev gitObj (b c : Nat) (done : List (Ge κ)) : Obj := .mapIter (some b) c (done.map fun t => t.2.2).toArray c
def GVis (T done : List (Ge κ)) : Prop := (∀ t ∈ done, t ∈ T) ∧ (done.map fun t => t.2.2).Nodup
def gnx : Option (Ge κ) → Array Value
  | none => #[.bool false]
  | some t => #[.bool true, MKey.enc t.1, t.2.1]
def GAfter (T done : List (Ge κ)) (done' : List (Ge κ)) : Option (Ge κ) → Prop
  | none => done' = done ∧ ∀ t ∈ T, t.2.2 ∈ done.map fun t => t.2.2
  | some t => done' = done ++ [t] ∧ t ∈ T ∧ t.2.2 ∉ done.map fun t => t.2.2
end
section
variable {e : Env} {ds : List Deferred} {ρ : Sl} {B : Frag} {H R R2 : HP} {ty : TypeId} {x : Operand} {b i c : Nat} {T done : List (Ge κ)}
end
section
variable {α : Type} {kv : α → κ × Value}
def gz (kv : α → κ × Value) (z : α × Nat) : Ge κ := ((kv z.1).1, (kv z.1).2, z.2)
def GVisF (Z dz : List (α × Nat)) : Prop := (∀ z ∈ dz, z ∈ Z) ∧ (dz.map fun z => z.2).Nodup
def GAfterF (Z dz dz' : List (α × Nat)) : Option (α × Nat) → Prop
  | none => dz' = dz ∧ ∀ z ∈ Z, z.2 ∈ dz.map fun z => z.2
  | some z => dz' = dz ++ [z] ∧ z ∈ Z ∧ z.2 ∉ dz.map fun z => z.2
end
section
variable {e : Env} {ds : List Deferred} {ρ : Sl} {B : Frag} {H R R2 : HP} {t kt et ty : TypeId} {x : Operand} {b i c : Nat} {α : Type} {kv : α → κ × Value} {Z dz : List (α × Nat)}
end
def MapL {κ : Type} [DecidableEq κ] [MKey κ] (N0 : Nat) (B : Frag) (H : HP) (b : Nat) (l : List (κ × Value)) : Prop := ∀ w, St N0 B H w → ∃ T c, GStp T c ∧ gkvs T = l ∧ w.heap[b]? = some (gObj T c)
section
variable {κ : Type} [DecidableEq κ] [MKey κ] {e : Env} {ds : List Deferred} {ρ : Sl} {B : Frag} {H R R2 : HP} {N0 : Nat} {P : Program} {t kt et ty tk : TypeId} {x y z : Operand} {b i c : Nat} {l : List (κ × Value)} {k : κ} {v zv : Value} {T done : List (Ge κ)}
end
end Go.SL
namespace Go.SL
open Go.RowKit
section
variable {e : Env} {ds : List Deferred} {K : Act → World → Prop} {ρ : Sl} {B : Frag} {H R R1 : HP}
theorem Xx.srcT (A : Option Addr) {et : TypeId} {size n c : Nat} {xs : List Value} [hp : PickS H A et size n c xs R]
    (h : (A = none ∧ n = 0 ∧ xs = [] ∨ ∃ b, A = some ⟨b, 0, none⟩ ∧ xs.length = n * size) → Xx e ds K ρ B H) : Xx e ds K ρ B H := fun a w f b s => by
  have s' := s.of_eq hp.eq
  rcases s'.cases_sbuf with ⟨h1, h2, h3, h4, _⟩ | ⟨bb, sp, h1, h2, h3, _, _⟩
  · exact h (.inl ⟨h1, h2, h4⟩) a w f b s
  · exact h (.inr ⟨bb, h1, h2⟩) a w f b s
end
end Go.SL
namespace Go.SL
open Go.RowKit
def ItG (P : Program) (gf : FuncId) (caps : List Value) {α : Type} (enc : α → List Value) (Adm : List α → Frag → Prop) (Fn : List α → Prop) (B : Frag) (own : HP) : Prop :=
  (∀ args w, (callFunc gf args).run P w = .ok (.enter gf args) w) ∧
  ∀ (l : Nat) (J Jx : List α → Frag → HP → Prop),
    (∀ pre x B0 B1 H1, Adm (pre ++ [x]) B1 → B.le B0 → B0.le B1 → J pre B0 H1 → Yd P l (enc x) B1 H1 fun t B' H' => (t = true ∧ J (pre ++ [x]) B' H') ∨ (t = false ∧ Jx (pre ++ [x]) B' H')) →
    ∀ B1 H1, B.le B1 → J [] B1 H1 → Ct P gf (.func (.yield l) #[] #[] :: caps) B1 (own * H1) fun v B' H' => ∃ H2, H' = own * H2 ∧ ((∃ xs, Fn xs ∧ J xs B' H2) ∨ ∃ pre, Jx pre B' H2)
section
variable {e : Env} {ds : List Deferred} {Q : Exit → Act → World → Prop} {ρ ρ' : Sl} {B B' B0 B1 : Frag} {H H' R : HP} {K : Act → World → Prop} {P : Program} {α : Type}
end
end Go.SL
namespace Go.SL
open Go.RowKit
open Go.Sort Go.Proofs
abbrev strs (zs : List (List UInt8)) : List Value := zs.map encStr
abbrev sortS (zs : List (List UInt8)) : List (List UInt8) := zs.mergeSort fun x y => decide (x ≤ y)
section
variable {κ : Type} [DecidableEq κ] [MKey κ] {e : Env} {ds : List Deferred} {ρ : Sl} {B : Frag} {H R R2 : HP} {t kt et ty : TypeId} {x : Operand} {b i c : Nat} {α : Type} {kv : α → κ × Value} {Z dz : List (α × Nat)}
end
end Go.SL
namespace Go.SL
open Go.RowKit
section
variable {P : Program} {ρ : Sl} {S : World → Prop} {ty t et : TypeId} {x lo hi : Operand} {B : Frag} {H R : HP} {k : IntKind} {m : Int} {b o size len j : Nat}
theorem slA1 (ht : P.underlying t = some (.array len et)) (hs : (P.info? et).map (·.size) = some size) (hx : ev ρ x = some (.pointer (some ⟨b, o, none⟩))) (hi : ev ρ lo = some (.int k m)) (hj : m.toNat = j) (h0 : 0 ≤ m) (h1 : m < len) :
    Yx P (.slice t x (some lo) none none) ty ρ S (.slice (some ⟨b, o + j * size, none⟩) (len - j) (len - j)) := .of (fun _ h => by cases h) fun f w _ _ _ _ he _ => by
  subst hj
  cases hq : P.info? et with
  | none => simp [hq] at hs
  | some i =>
    have hi' : i.size = size := by simpa [hq] using hs
    have h2 : m ≤ (len : Int) := by omega
    have h3 : ¬ len = m.toNat := by omega
    simp [execOp, he _ _ hx, he _ _ hi, Instr.sliceAt, Instr.sureAddr, run_underlying ht, Instr.sliceBounds, Instr.sliceBound, asIntOf, h0, h2, h3, sizeOf, typeInfo, hq, hi', add_mk, Result.andThen]
theorem slA2 (ht : P.underlying t = some (.array len et)) (hs : (P.info? et).map (·.size) = some size) (hx : ev ρ x = some (.pointer (some ⟨b, o, none⟩))) (hh : ev ρ hi = some (.int k m)) (hj : m.toNat = j) (h0 : 0 ≤ m) (h1 : m ≤ len) (hl : 0 < len) :
    Yx P (.slice t x none (some hi) none) ty ρ S (.slice (some ⟨b, o, none⟩) j len) := .of (fun _ h => by cases h) fun f w _ _ _ _ he _ => by
  subst hj
  cases hq : P.info? et with
  | none => simp [hq] at hs
  | some i =>
    have hi' : i.size = size := by simpa [hq] using hs
    have h3 : ¬ len = 0 := by omega
    simp [execOp, he _ _ hx, he _ _ hh, Instr.sliceAt, Instr.sureAddr, run_underlying ht, Instr.sliceBounds, Instr.sliceBound, asIntOf, h0, h1, h3, sizeOf, typeInfo, hq, hi', add_mk, Result.andThen]
def fillA (size : Nat) : List Value → List (Nat × Value) → Option (List Value)
  | cs, [] => some cs
  | cs, (i, v) :: rest => bif Nat.beq v.cells.size size && Nat.ble (i * size + size) cs.length then fillA size (cs.take (i * size) ++ v.cells.toList ++ cs.drop (i * size + size)) rest else none
theorem fillA_fill {size : Nat} : ∀ {parts : List (Nat × Value)} {cs out : List Value}, fillA size cs parts = some out → Instr.fill (fun i => some (i * size, size)) cs.toArray parts = some out.toArray := by
  intro parts
  induction parts with
  | nil => intro cs out h; simp [fillA] at h; simp [Instr.fill, h]
  | cons a rest ih =>
    obtain ⟨i, v⟩ := a
    intro cs out h
    simp only [fillA, cond_eq_ite, Bool.and_eq_true] at h
    split at h
    · rename_i hc
      have h1 := Nat.eq_of_beq_eq_true hc.1
      have h2 : i * size + size ≤ cs.length := by simpa using hc.2
      simp only [Instr.fill]
      rw [if_neg (by simp [h1]; omega)]
      have key : (v.cells.zipIdx.foldl (fun cs x => cs.setIfInBounds (i * size + x.2) x.1) cs.toArray) = (cs.take (i * size) ++ v.cells.toList ++ cs.drop (i * size + size)).toArray := by
        rw [← Array.foldl_toList, Array.toList_zipIdx]
        have := fold_set (i * size) v.cells.toList 0 cs (by simp; omega)
        rw [this]
        simp [h1]
      rw [key]
      exact ih h
    · cases h
theorem bldA {parts : Array (Nat × Operand)} {vs : List (Nat × Value)} {zs cs : List Value} {n bytes : Nat} (hz : TI P t zs n bytes) (ht : P.underlying t = some (.array len et)) (hs : (P.info? et).map (·.size) = some size) (hv : evps ρ parts.toList = some vs) (hfn : (fillA size zs vs).bind (frc · some) = some cs) :
    Yx P (.build t parts) ty ρ S (.agg cs.toArray) := .of (fun _ h => by cases h) fun f w _ _ _ _ he _ => by
  obtain ⟨i, zv, z1, z2, z3, z4, z5, z6, z7⟩ := hz
  have hf : fillA size zs vs = some cs := by
    cases hq : fillA size zs vs with
    | none => rw [hq] at hfn; simp at hfn
    | some c => rw [hq] at hfn; rw [frc_eq hfn]
  have hpm : (parts.map fun (i, x) => (i, f x)) = vs.toArray := by
    apply Array.toList_inj.1
    simp [evps_map he hv]
  have hfl := fillA_fill hf
  cases hq : P.info? et with
  | none => simp [hq] at hs
  | some i2 =>
    have hi' : i2.size = size := by simpa [hq] using hs
    have hb : (Instr.build t vs.toArray).run P w = .ok (.agg cs.toArray) w := by
      simp only [Instr.build, Sem.run_bind, zeroValue, typeInfo, run_program, z1, Sem.run_pure, Result.andThen, z2, run_underlying ht, sizeOf, hq, hi', z3, hfl]
    simp only [execOp, hpm, Sem.run_bind, hb, Result.andThen, Sem.run_pure]
end
end Go.SL
namespace Go.Proofs.YthlfffbcligocaaGreat
open Go.SL Go.RowKit
set_option maxRecDepth 100000
namespace VhA
theorem sz104 : (Tryz.prog.info? 104).map (·.size) = some 1 := by kernel_rfl
theorem sz190 : (Tryz.prog.info? 190).map (·.size) = some 8 := by kernel_rfl
theorem sz211 : (Tryz.prog.info? 211).map (·.size) = some 64 := by kernel_rfl
theorem ti190 : TI Tryz.prog 190 [.int .u32 0, .int .u32 0, .int .u32 0, .int .u32 0, .int .u32 0, .int .u32 0, .int .u32 0, .int .u32 0] 8 32 := TI.of (by kernel_rfl) rfl rfl
theorem ti211 : TI Tryz.prog 211 [.int .u32 0, .int .u32 0, .int .u32 0, .int .u32 0, .int .u32 0, .int .u32 0, .int .u32 0, .int .u32 0, .int .u32 0, .int .u32 0, .int .u32 0, .int .u32 0, .int .u32 0, .int .u32 0, .int .u32 0, .int .u32 0, .int .u32 0, .int .u32 0, .int .u32 0, .int .u32 0, .int .u32 0, .int .u32 0, .int .u32 0, .int .u32 0, .int .u32 0, .int .u32 0, .int .u32 0, .int .u32 0, .int .u32 0, .int .u32 0, .int .u32 0, .int .u32 0, .int .u32 0, .int .u32 0, .int .u32 0, .int .u32 0, .int .u32 0, .int .u32 0, .int .u32 0, .int .u32 0, .int .u32 0, .int .u32 0, .int .u32 0, .int .u32 0, .int .u32 0, .int .u32 0, .int .u32 0, .int .u32 0, .int .u32 0, .int .u32 0, .int .u32 0, .int .u32 0, .int .u32 0, .int .u32 0, .int .u32 0, .int .u32 0, .int .u32 0, .int .u32 0, .int .u32 0, .int .u32 0, .int .u32 0, .int .u32 0, .int .u32 0, .int .u32 0] 64 256 := TI.of (by kernel_rfl) rfl rfl
def rotF (x : BitVec 32) (k : Int) : BitVec 32 := (x <<< (BitVec.ofInt 64 k &&& 31#64).toNat) ||| (x >>> (32#64 - (BitVec.ofInt 64 k &&& 31#64)).toNat)
theorem rot_s (k : Int) : (BitVec.ofInt 64 k &&& 31#64).toNat ≤ 31 := by
  rw [BitVec.toNat_and]
  exact Nat.and_le_right
theorem rot_t (k : Int) : (32#64 - (BitVec.ofInt 64 k &&& 31#64)).toNat ≤ 32 := by
  have h := rot_s k
  generalize (BitVec.ofInt 64 k &&& 31#64) = s at *
  rw [BitVec.toNat_sub]
  show (2 ^ 64 - s.toNat + 32) % 2 ^ 64 ≤ 32
  omega
def w32s (l : List (BitVec 32)) : List Value := l.map fun x => u32 x
def keysL : List (BitVec 32) := [0x428a2f98, 0x71374491, 0xb5c0fbcf, 0xe9b5dba5, 0x3956c25b, 0x59f111f1, 0x923f82a4, 0xab1c5ed5, 0xd807aa98, 0x12835b01, 0x243185be, 0x550c7dc3, 0x72be5d74, 0x80deb1fe, 0x9bdc06a7, 0xc19bf174, 0xe49b69c1, 0xefbe4786, 0x0fc19dc6, 0x240ca1cc, 0x2de92c6f, 0x4a7484aa, 0x5cb0a9dc, 0x76f988da, 0x983e5152, 0xa831c66d, 0xb00327c8, 0xbf597fc7, 0xc6e00bf3, 0xd5a79147, 0x06ca6351, 0x14292967, 0x27b70a85, 0x2e1b2138, 0x4d2c6dfc, 0x53380d13, 0x650a7354, 0x766a0abb, 0x81c2c92e, 0x92722c85, 0xa2bfe8a1, 0xa81a664b, 0xc24b8b70, 0xc76c51a3, 0xd192e819, 0xd6990624, 0xf40e3585, 0x106aa070, 0x19a4c116, 0x1e376c08, 0x2748774c, 0x34b0bcb5, 0x391c0cb3, 0x4ed8aa4a, 0x5b9cca4f, 0x682e6ff3, 0x748f82ee, 0x78a5636f, 0x84c87814, 0x8cc70208, 0x90befffa, 0xa4506ceb, 0xbef9a3f7, 0xc67178f2]
def startL : List (BitVec 32) := [0x6a09e667, 0xbb67ae85, 0x3c6ef372, 0xa54ff53a, 0x510e527f, 0x9b05688c, 0x1f83d9ab, 0x5be0cd19]
set_option maxHeartbeats 1000000 in
theorem rot_ct (x : BitVec 32) (k : Int) (B : Frag) : CtP Tryz.prog 152 [u32 x, i64 k] B (u32 (rotF x k)) := by
  have h1 := rot_s k
  have h2 := rot_t k
  refine CtB.of_body Tryz.func152 rfl (nt := 17) rfl (by kernel_rfl) rfl ?_
  intro N0 w0 R
  refine Cq (fun K1 k1 => ?_)
  refine Cr <| Lx.y (asg rfl) rfl <| Lx.nil <| ?_
  refine Xx.tn (k1 _ _ _ _ ?_)
  refine Cq (fun K2 k2 => ?_)
  refine Cr <| Lx.y (mv rfl) rfl <| Lx.y (cvW64 rfl U3 U182) rfl <| Lx.y (andW64 (b := 31#64) rfl rfl) rfl <| Lx.y (asg rfl) rfl <| Lx.nil <| ?_
  refine Xx.tn (k2 _ _ _ _ ?_)
  refine Cq (fun K3 k3 => ?_)
  refine Cr <| Lx.y (mv rfl) rfl <| Lx.y (mv rfl) rfl <| Lx.y (shlW32 (c := (BitVec.ofInt 64 k &&& 31#64).toNat) rfl rfl (by rw [Nat.ble_eq]; omega)) rfl <| Lx.y (mv rfl) rfl <| Lx.y (mv rfl) rfl <| Lx.y (subW64 (a := 32#64) rfl rfl) rfl <| Lx.y (shrW32 (c := (32#64 - (BitVec.ofInt 64 k &&& 31#64)).toNat) rfl rfl (by rw [Nat.ble_eq]; omega)) rfl <| Lx.y (orW32 rfl rfl) rfl <| Lx.y (asg rfl) rfl <| Lx.nil <| ?_
  refine Xx.tn (k3 _ _ _ _ ?_)
  refine Cx.ret ?_
  exact Xx.rB1 rfl rfl ⟨rfl, rfl⟩ (Fl _) rfl
set_option maxHeartbeats 1000000 in
theorem Start_ct (B : Frag) : CtP Tryz.prog 121 [] B (.agg (w32s startL).toArray) := by
 refine CtB.of_body Tryz.func121 rfl (nt := 2) rfl (by kernel_rfl) rfl ?_
 intro N0 w0 R
 refine Cq (fun K1 k1 => ?_)
 refine Cr ?_
 refine Lx.new (allocO ti190) rfl (fun b0 => ?_)
 refine Lx.nil ?_
 refine Xx.tn (k1 _ _ _ _ ?_)
 refine Cq (fun K2 k2 => ?_)
 refine Cr <| Lx.y (bldA ti190 U190 sz104 rfl rfl) rfl <| ?_
 refine Lx.st (stA (d := .bool) sz190 rfl rfl rfl rfl (by show 0 + 8 ≤ 8; omega) rfl) ?_
 refine Lx.nil ?_
 refine Xx.tn (k2 _ _ _ _ ?_)
 refine Cx.ret ?_
 exact Xx.rBa rfl U190 rfl sz190 rfl rfl ⟨rfl, rfl⟩ (Fl _)
set_option maxHeartbeats 4000000 in
theorem keys_ct (B : Frag) : CtP Tryz.prog 151 [] B (.agg (w32s keysL).toArray) := by
 refine CtB.of_body Tryz.func151 rfl (nt := 2) rfl (by kernel_rfl) rfl ?_
 intro N0 w0 R
 refine Cq (fun K1 k1 => ?_)
 refine Cr ?_
 refine Lx.new (allocO ti211) rfl (fun b0 => ?_)
 refine Lx.nil ?_
 refine Xx.tn (k1 _ _ _ _ ?_)
 refine Cq (fun K2 k2 => ?_)
 refine Cr <| Lx.y (bldA ti211 U211 sz104 rfl rfl) rfl <| ?_
 refine Lx.st (stA (d := .bool) sz211 rfl rfl rfl rfl (by show 0 + 64 ≤ 64; omega) rfl) ?_
 refine Lx.nil ?_
 refine Xx.tn (k2 _ _ _ _ ?_)
 refine Cx.ret ?_
 exact Xx.rBa rfl U211 rfl sz211 rfl rfl ⟨rfl, rfl⟩ (Fl _)
end VhA
end Go.Proofs.YthlfffbcligocaaGreat
namespace Go.Proofs.YthlfffbcligocaaGreat
open Go.SL Go.RowKit
set_option maxRecDepth 100000
open VhA
namespace VhB
theorem sz9 : (Tryz.prog.info? 9).map (·.size) = some 1 := by kernel_rfl
theorem sz104 : (Tryz.prog.info? 104).map (·.size) = some 1 := by kernel_rfl
theorem sz211 : (Tryz.prog.info? 211).map (·.size) = some 64 := by kernel_rfl
theorem ti211 : TI Tryz.prog 211 [.int .u32 0, .int .u32 0, .int .u32 0, .int .u32 0, .int .u32 0, .int .u32 0, .int .u32 0, .int .u32 0, .int .u32 0, .int .u32 0, .int .u32 0, .int .u32 0, .int .u32 0, .int .u32 0, .int .u32 0, .int .u32 0, .int .u32 0, .int .u32 0, .int .u32 0, .int .u32 0, .int .u32 0, .int .u32 0, .int .u32 0, .int .u32 0, .int .u32 0, .int .u32 0, .int .u32 0, .int .u32 0, .int .u32 0, .int .u32 0, .int .u32 0, .int .u32 0, .int .u32 0, .int .u32 0, .int .u32 0, .int .u32 0, .int .u32 0, .int .u32 0, .int .u32 0, .int .u32 0, .int .u32 0, .int .u32 0, .int .u32 0, .int .u32 0, .int .u32 0, .int .u32 0, .int .u32 0, .int .u32 0, .int .u32 0, .int .u32 0, .int .u32 0, .int .u32 0, .int .u32 0, .int .u32 0, .int .u32 0, .int .u32 0, .int .u32 0, .int .u32 0, .int .u32 0, .int .u32 0, .int .u32 0, .int .u32 0, .int .u32 0, .int .u32 0] 64 256 := TI.of (by kernel_rfl) rfl rfl
theorem w32_at {l : List (BitVec 32)} {j : Nat} (h : j < l.length) : (w32s l)[0 + j * 1]? = some (u32 (l.getD j 0)) := by
  unfold w32s
  rw [Nat.zero_add, Nat.mul_one, List.getElem?_map, List.getElem?_eq_getElem h]
  simp [List.getD, h]
theorem w32_set (l : List (BitVec 32)) (j : Nat) (x : BitVec 32) : (w32s l).set (0 + j * 1) (u32 x) = w32s (l.set j x) := by
  unfold w32s
  rw [Nat.zero_add, Nat.mul_one, List.map_set]
theorem w32_all (l : List (BitVec 32)) : (w32s l).all (·.oneCell') = true := by
  unfold w32s
  induction l with
  | nil => rfl
  | cons x l ih => rw [List.map_cons, List.all_cons, ih]; rfl
theorem st_full {zs vs : List Value} (h : zs.length = vs.length) : frc (zs.take 0 ++ vs ++ zs.drop (0 + vs.length)) some = some vs := by
  rw [frc_gen]; simp [← h]
theorem w32_len (l : List (BitVec 32)) : (w32s l).length = l.length := by unfold w32s; simp
def byW (s : List UInt8) (j : Nat) : BitVec 32 := BitVec.ofInt 32 (((s.getD j 0).toNat : Nat) : Int)
def wrd (s : List UInt8) (i : Nat) : BitVec 32 := byW s (4 * i) <<< 24 ||| byW s (4 * i + 1) <<< 16 ||| byW s (4 * i + 2) <<< 8 ||| byW s (4 * i + 3)
def spA (s : List UInt8) : Nat → List (BitVec 32)
  | 0 => List.replicate 64 0
  | i + 1 => (spA s i).set i (wrd s i)
theorem spA_len (s : List UInt8) (i : Nat) : (spA s i).length = 64 := by
  induction i with
  | zero => rfl
  | succ i ih => unfold spA; rw [List.length_set, ih]
def nxW (w : List (BitVec 32)) (i : Nat) : BitVec 32 := w.getD (i - 16) 0 + (rotF (w.getD (i - 15) 0) (-7) ^^^ rotF (w.getD (i - 15) 0) (-18) ^^^ w.getD (i - 15) 0 >>> 3) + w.getD (i - 7) 0 + (rotF (w.getD (i - 2) 0) (-17) ^^^ rotF (w.getD (i - 2) 0) (-19) ^^^ w.getD (i - 2) 0 >>> 10)
def spB (s : List UInt8) : Nat → List (BitVec 32)
  | 0 => spA s 16
  | k + 1 => (spB s k).set (16 + k) (nxW (spB s k) (16 + k))
theorem spB_len (s : List UInt8) (i : Nat) : (spB s i).length = 64 := by
  induction i with
  | zero => exact spA_len s 16
  | succ i ih => unfold spB; rw [List.length_set, ih]
theorem u8_at {s : List UInt8} {j : Nat} (h : j < s.length) : (s.getD j 0) = s[j] := by simp [List.getD, h]
set_option maxHeartbeats 4000000 in
theorem spread_ct (s : List UInt8) (B : Frag) (hs : s.length = 64) : CtP Tryz.prog 150 [str s] B (.agg (w32s (spB s 48)).toArray) := by
 refine CtB.of_body Tryz.func150 rfl (nt := 85) rfl (by kernel_rfl) rfl ?_
 intro N0 w0 R
 refine Cq (fun K1 k1 => ?_)
 refine Cr ?_
 refine Lx.new (allocO ti211) rfl (fun b2 => ?_)
 refine Lx.nil ?_
 refine Xx.tn (k1 _ _ _ _ ?_)
 refine Cq (fun K2 k2 => ?_)
 refine Cr ?_
 refine Lx.new (allocO ti211) rfl (fun b3 => ?_)
 refine Lx.nil ?_
 refine Xx.tn (k2 _ _ _ _ ?_)
 refine Cq (fun K3 k3 => ?_)
 refine Cq (fun K4 k4 => ?_)
 refine Cr <| Lx.y (mv rfl) rfl <| Lx.nil <| ?_
 refine Xx.tn (k4 _ _ _ _ ?_)
 refine Cx.block ?_
 refine Cx.loopK (Sc 0 rfl (Sc 2 rfl (Sc 3 rfl (Sub.nil _)))) (fun m ρ' B' H' => ∃ (i : Nat), (i ≤ 16) ∧ m = 16 - i ∧ ρ' = [(8, i64 i)] ∧ B = B' ∧ row b3 211 (w32s (spA s i)) * (row b2 211 (w32s (List.replicate 64 0)) * R) = H') ⟨0, Nat.zero_le _, rfl, rfl, rfl, rfl⟩ (Sc 8 rfl (Sc 0 rfl (Sc 2 rfl (Sc 3 rfl (Sub.nil _))))) ?_
 rintro m ρ' B' H' ⟨i, hi, rfl, rfl, rfl, rfl⟩
 refine Cq (fun K5 k5 => ?_)
 refine Cr <| Lx.y (lss rfl rfl) rfl <| Lx.nil <| ?_
 refine Xx.tn (k5 _ _ _ _ ?_)
 refine Cq (fun K6 k6 => ?_)
 refine Cx.condD rfl (fun h7 => ?_) (fun h7 => ?_)
 ·
  have h16 := h7
  have h16 : i < 16 := by omega
  have hl := spA_len s i
  refine Cx.skip ?_
  refine Xx.tn (k6 _ _ _ _ ?_)
  refine Cq (fun K8 k8 => ?_)
  refine Cx.block ?_
  refine Cq (fun K9 k9 => ?_)
  refine Cr <| Lx.y (mv rfl) rfl <| Lx.y (asg rfl) rfl <| Lx.nil <| ?_
  refine Xx.tn (k9 _ _ _ _ ?_)
  refine Cx.drawn (by kernel_rfl) ?_
  refine Dx.p (i := 0) rfl (by kernel_rfl) (mv rfl) rfl ?_
  refine Dx.p (i := 1) rfl (by kernel_rfl) (mv rfl) rfl ?_
  refine Dx.p (i := 2) rfl (by kernel_rfl) (mv rfl) rfl ?_
  refine Dx.p (i := 3) rfl (by kernel_rfl) (Yx.val (mul rfl rfl (by first | exact wrap64 (by omega) (by omega) | rfl)) (show _ = i64 ((4 * i : Nat) : Int) by first | rfl | (congr 1; omega) | (simp; omega))) rfl ?_
  refine Dx.p (i := 4) rfl (by kernel_rfl) (ixS U9 rfl rfl (Int.toNat_natCast _) (by omega) (by omega)) rfl ?_
  refine Dx.p (i := 5) rfl (by kernel_rfl) (cvW32 rfl U5 U104) rfl ?_
  refine Dx.p (i := 6) rfl (by kernel_rfl) (shlW32 (c := 24) rfl rfl rfl) rfl ?_
  refine Dx.p (i := 7) rfl (by kernel_rfl) (mv rfl) rfl ?_
  refine Dx.p (i := 8) rfl (by kernel_rfl) (mv rfl) rfl ?_
  refine Dx.p (i := 9) rfl (by kernel_rfl) (Yx.val (mul rfl rfl (by first | exact wrap64 (by omega) (by omega) | rfl)) (show _ = i64 ((4 * i : Nat) : Int) by first | rfl | (congr 1; omega) | (simp; omega))) rfl ?_
  refine Dx.p (i := 10) rfl (by kernel_rfl) (Yx.val (add rfl rfl (by first | exact wrap64 (by omega) (by omega) | rfl)) (show _ = i64 ((4 * i + 1 : Nat) : Int) by first | rfl | (congr 1; omega) | (simp; omega))) rfl ?_
  refine Dx.p (i := 11) rfl (by kernel_rfl) (ixS U9 rfl rfl (Int.toNat_natCast _) (by omega) (by omega)) rfl ?_
  refine Dx.p (i := 12) rfl (by kernel_rfl) (cvW32 rfl U5 U104) rfl ?_
  refine Dx.p (i := 13) rfl (by kernel_rfl) (shlW32 (c := 16) rfl rfl rfl) rfl ?_
  refine Dx.p (i := 14) rfl (by kernel_rfl) (orW32 rfl rfl) rfl ?_
  refine Dx.p (i := 15) rfl (by kernel_rfl) (mv rfl) rfl ?_
  refine Dx.p (i := 16) rfl (by kernel_rfl) (mv rfl) rfl ?_
  refine Dx.p (i := 17) rfl (by kernel_rfl) (Yx.val (mul rfl rfl (by first | exact wrap64 (by omega) (by omega) | rfl)) (show _ = i64 ((4 * i : Nat) : Int) by first | rfl | (congr 1; omega) | (simp; omega))) rfl ?_
  refine Dx.p (i := 18) rfl (by kernel_rfl) (Yx.val (add rfl rfl (by first | exact wrap64 (by omega) (by omega) | rfl)) (show _ = i64 ((4 * i + 2 : Nat) : Int) by first | rfl | (congr 1; omega) | (simp; omega))) rfl ?_
  refine Dx.p (i := 19) rfl (by kernel_rfl) (ixS U9 rfl rfl (Int.toNat_natCast _) (by omega) (by omega)) rfl ?_
  refine Dx.p (i := 20) rfl (by kernel_rfl) (cvW32 rfl U5 U104) rfl ?_
  refine Dx.p (i := 21) rfl (by kernel_rfl) (shlW32 (c := 8) rfl rfl rfl) rfl ?_
  refine Dx.p (i := 22) rfl (by kernel_rfl) (orW32 rfl rfl) rfl ?_
  refine Dx.p (i := 23) rfl (by kernel_rfl) (mv rfl) rfl ?_
  refine Dx.p (i := 24) rfl (by kernel_rfl) (mv rfl) rfl ?_
  refine Dx.p (i := 25) rfl (by kernel_rfl) (Yx.val (mul rfl rfl (by first | exact wrap64 (by omega) (by omega) | rfl)) (show _ = i64 ((4 * i : Nat) : Int) by first | rfl | (congr 1; omega) | (simp; omega))) rfl ?_
  refine Dx.p (i := 26) rfl (by kernel_rfl) (Yx.val (add rfl rfl (by first | exact wrap64 (by omega) (by omega) | rfl)) (show _ = i64 ((4 * i + 3 : Nat) : Int) by first | rfl | (congr 1; omega) | (simp; omega))) rfl ?_
  refine Dx.p (i := 27) rfl (by kernel_rfl) (ixS U9 rfl rfl (Int.toNat_natCast _) (by omega) (by omega)) rfl ?_
  refine Dx.p (i := 28) rfl (by kernel_rfl) (cvW32 rfl U5 U104) rfl ?_
  refine Dx.p (i := 29) rfl (by kernel_rfl) (Yx.val (orW32 rfl rfl) (show _ = u32 (wrd s i) by unfold wrd byW; rw [u8_at (by omega), u8_at (by omega), u8_at (by omega), u8_at (by omega)])) rfl ?_
  refine Dx.p (i := 30) rfl (by kernel_rfl) (iaArr U211 sz104 rfl rfl (Int.toNat_natCast _) (by omega) (by omega)) rfl ?_
  refine Dx.one (i := 31) (by kernel_rfl) ?_
  refine Dstep.o0 (i := 31) rfl (stO U104 sz104 rfl rfl rfl (by rw [w32_len, hl]; omega) ((frc_gen _ _).trans (congrArg some (w32_set _ _ _)))) (fun v B' H' hΦ hB => ?_)
  obtain ⟨rfl, rfl⟩ := hΦ; clear hB v
  refine ⟨Jt, ?_⟩
  refine Dx.done (by kernel_rfl) ?_
  refine Xx.bn ?_
  refine Xx.tn (k8 _ _ _ _ ?_)
  refine Cr <| Lx.y (Yx.val (add rfl rfl (by first | exact wrap64 (by omega) (by omega) | rfl)) (show _ = i64 ((i + 1 : Nat) : Int) by first | rfl | (congr 1; omega) | (simp; omega))) rfl <| Lx.y (mv rfl) rfl <| Lx.nil <| ?_
  exact Xx.againK ⟨i + 1, by omega, rfl, rfl, rfl, rfl⟩ (by omega) (Sc 8 rfl (Sc 0 rfl (Sc 2 rfl (Sc 3 rfl (Sub.nil _)))))
 ·
  have h16 := h7
  obtain rfl : i = 16 := by omega
  refine Cx.exit <| Xx.te <| Xx.te <| Xx.bh <| ?_
  refine Xx.tn (k3 _ _ _ _ ?_)
  refine Cq (fun K10 k10 => ?_)
  refine Cq (fun K11 k11 => ?_)
  refine Cr <| Lx.y (asg rfl) rfl <| Lx.nil <| ?_
  refine Xx.tn (k11 _ _ _ _ ?_)
  refine Cx.block ?_
  refine Cx.loopK (Sc 0 rfl (Sc 2 rfl (Sc 3 rfl (Sc 8 rfl (Sc 9 rfl (Sub.nil _)))))) (fun m ρ' B' H' => ∃ (k : Nat), (k ≤ 48) ∧ m = 48 - k ∧ ρ' = [(5, i64 ((16 + k : Nat) : Int))] ∧ B = B' ∧ row b3 211 (w32s (spB s k)) * (row b2 211 (w32s (List.replicate 64 0)) * R) = H') ⟨0, Nat.zero_le _, rfl, rfl, rfl, rfl⟩ (Sc 5 rfl (Sc 0 rfl (Sc 2 rfl (Sc 3 rfl (Sc 8 rfl (Sc 9 rfl (Sub.nil _))))))) ?_
  rintro m ρ' B' H' ⟨k, hk, rfl, rfl, rfl, rfl⟩
  refine Cq (fun K12 k12 => ?_)
  refine Cq (fun K13 k13 => ?_)
  refine Cr <| Lx.y (mv rfl) rfl <| Lx.y (lss rfl rfl) rfl <| Lx.nil <| ?_
  refine Xx.tn (k13 _ _ _ _ ?_)
  refine Cx.condD rfl (fun h14 => ?_) (fun h14 => ?_)
  ·
   have h48 := h14
   have h48 : k < 48 := by omega
   have hl := spB_len s k
   refine Cx.skip ?_
   refine Xx.tn (k12 _ _ _ _ ?_)
   refine Cq (fun K15 k15 => ?_)
   refine Cx.block ?_
   refine Cq (fun K16 k16 => ?_)
   refine Cx.drawn (by kernel_rfl) ?_
   refine Dx.p (i := 0) rfl (by kernel_rfl) (mv rfl) rfl ?_
   refine Dx.p (i := 1) rfl (by kernel_rfl) (Yx.val (sub rfl rfl (by first | exact wrap64 (by omega) (by omega) | rfl)) (show _ = i64 ((16 + k - 15 : Nat) : Int) by first | rfl | (congr 1; omega) | (simp; omega))) rfl ?_
   refine Dx.p (i := 2) rfl (by kernel_rfl) (iaArr U211 sz104 rfl rfl (Int.toNat_natCast _) (by omega) (by omega)) rfl ?_
   refine Dx.r (i := 3) rfl (by kernel_rfl) (ld (v := u32 ((spB s k).getD (16 + k - 15) 0)) U104 rfl rfl (w32_at (by rw [hl]; omega))) rfl ?_
   refine Dx.p (i := 4) rfl (by kernel_rfl) (mv rfl) rfl ?_
   refine Dx.p (i := 5) rfl (by kernel_rfl) (Yx.val (sub rfl rfl (by first | exact wrap64 (by omega) (by omega) | rfl)) (show _ = i64 ((16 + k - 2 : Nat) : Int) by first | rfl | (congr 1; omega) | (simp; omega))) rfl ?_
   refine Dx.p (i := 6) rfl (by kernel_rfl) (iaArr U211 sz104 rfl rfl (Int.toNat_natCast _) (by omega) (by omega)) rfl ?_
   refine Dx.r (i := 7) rfl (by kernel_rfl) (ld (v := u32 ((spB s k).getD (16 + k - 2) 0)) U104 rfl rfl (w32_at (by rw [hl]; omega))) rfl ?_
   refine Dx.p (i := 8) rfl (by kernel_rfl) (asg rfl) rfl ?_
   refine Dx.p (i := 9) rfl (by kernel_rfl) (asg rfl) rfl ?_
   refine Dx.done (by kernel_rfl) ?_
   refine Xx.tn (k16 _ _ _ _ ?_)
   refine Cx.drawn (by kernel_rfl) ?_
   refine Dx.p (i := 0) rfl (by kernel_rfl) (mv rfl) rfl ?_
   refine Dx.p (i := 1) rfl (by kernel_rfl) (mv rfl) rfl ?_
   refine Dx.p (i := 2) rfl (by kernel_rfl) (Yx.val (sub rfl rfl (by first | exact wrap64 (by omega) (by omega) | rfl)) (show _ = i64 ((16 + k - 16 : Nat) : Int) by first | rfl | (congr 1; omega) | (simp; omega))) rfl ?_
   refine Dx.p (i := 3) rfl (by kernel_rfl) (iaArr U211 sz104 rfl rfl (Int.toNat_natCast _) (by omega) (by omega)) rfl ?_
   refine Dx.r (i := 4) rfl (by kernel_rfl) (ld (v := u32 ((spB s k).getD (16 + k - 16) 0)) U104 rfl rfl (w32_at (by rw [hl]; omega))) rfl ?_
   refine Dx.p (i := 5) rfl (by kernel_rfl) (mv rfl) rfl ?_
   refine Dx.p (i := 7) rfl (by kernel_rfl) (mv rfl) rfl ?_
   refine Dx.p (i := 10) rfl (by kernel_rfl) (mv rfl) rfl ?_
   refine Dx.p (i := 11) rfl (by kernel_rfl) (shrW32 (c := 3) rfl rfl rfl) rfl ?_
   refine Dx.p (i := 14) rfl (by kernel_rfl) (mv rfl) rfl ?_
   refine Dx.p (i := 15) rfl (by kernel_rfl) (Yx.val (sub rfl rfl (by first | exact wrap64 (by omega) (by omega) | rfl)) (show _ = i64 ((16 + k - 7 : Nat) : Int) by first | rfl | (congr 1; omega) | (simp; omega))) rfl ?_
   refine Dx.p (i := 16) rfl (by kernel_rfl) (iaArr U211 sz104 rfl rfl (Int.toNat_natCast _) (by omega) (by omega)) rfl ?_
   refine Dx.r (i := 17) rfl (by kernel_rfl) (ld (v := u32 ((spB s k).getD (16 + k - 7) 0)) U104 rfl rfl (w32_at (by rw [hl]; omega))) rfl ?_
   refine Dx.p (i := 19) rfl (by kernel_rfl) (mv rfl) rfl ?_
   refine Dx.p (i := 21) rfl (by kernel_rfl) (mv rfl) rfl ?_
   refine Dx.p (i := 24) rfl (by kernel_rfl) (mv rfl) rfl ?_
   refine Dx.p (i := 25) rfl (by kernel_rfl) (shrW32 (c := 10) rfl rfl rfl) rfl ?_
   refine Dx.one (i := 6) (by kernel_rfl) ?_
   refine Dstep.o (i := 6) rfl (Ox.cb rfl rfl rfl (rot_ct _ (-7) _)) rfl (fun v B' H' hΦ hB => ?_)
   obtain ⟨rfl, rfl, rfl⟩ := hΦ; clear hB
   refine ⟨Jy (Jy (Jt) (ld (v := u32 ((spB s k).getD (16 + k - 16) 0)) U104 rfl rfl (w32_at (by rw [hl]; omega)))) (ld (v := u32 ((spB s k).getD (16 + k - 7) 0)) U104 rfl rfl (w32_at (by rw [hl]; omega))), ?_⟩
   refine Dx.one (i := 8) (by kernel_rfl) ?_
   refine Dstep.o (i := 8) rfl (Ox.cb rfl rfl rfl (rot_ct _ (-18) _)) rfl (fun v B' H' hΦ hB => ?_)
   obtain ⟨rfl, rfl, rfl⟩ := hΦ; clear hB
   refine ⟨Jy (Jy (Jt) (ld (v := u32 ((spB s k).getD (16 + k - 16) 0)) U104 rfl rfl (w32_at (by rw [hl]; omega)))) (ld (v := u32 ((spB s k).getD (16 + k - 7) 0)) U104 rfl rfl (w32_at (by rw [hl]; omega))), ?_⟩
   refine Dx.p (i := 9) rfl (by kernel_rfl) (xorW32 rfl rfl) rfl ?_
   refine Dx.p (i := 12) rfl (by kernel_rfl) (xorW32 rfl rfl) rfl ?_
   refine Dx.p (i := 13) rfl (by kernel_rfl) (addW32 rfl rfl) rfl ?_
   refine Dx.p (i := 18) rfl (by kernel_rfl) (addW32 rfl rfl) rfl ?_
   refine Dx.one (i := 20) (by kernel_rfl) ?_
   refine Dstep.o (i := 20) rfl (Ox.cb rfl rfl rfl (rot_ct _ (-17) _)) rfl (fun v B' H' hΦ hB => ?_)
   obtain ⟨rfl, rfl, rfl⟩ := hΦ; clear hB
   refine ⟨Jy (Jy (Jt) (ld (v := u32 ((spB s k).getD (16 + k - 16) 0)) U104 rfl rfl (w32_at (by rw [hl]; omega)))) (ld (v := u32 ((spB s k).getD (16 + k - 7) 0)) U104 rfl rfl (w32_at (by rw [hl]; omega))), ?_⟩
   refine Dx.one (i := 22) (by kernel_rfl) ?_
   refine Dstep.o (i := 22) rfl (Ox.cb rfl rfl rfl (rot_ct _ (-19) _)) rfl (fun v B' H' hΦ hB => ?_)
   obtain ⟨rfl, rfl, rfl⟩ := hΦ; clear hB
   refine ⟨Jy (Jy (Jt) (ld (v := u32 ((spB s k).getD (16 + k - 16) 0)) U104 rfl rfl (w32_at (by rw [hl]; omega)))) (ld (v := u32 ((spB s k).getD (16 + k - 7) 0)) U104 rfl rfl (w32_at (by rw [hl]; omega))), ?_⟩
   refine Dx.p (i := 23) rfl (by kernel_rfl) (xorW32 rfl rfl) rfl ?_
   refine Dx.p (i := 26) rfl (by kernel_rfl) (xorW32 rfl rfl) rfl ?_
   refine Dx.p (i := 27) rfl (by kernel_rfl) (Yx.val (addW32 rfl rfl) (show _ = u32 (nxW (spB s k) (16 + k)) from rfl)) rfl ?_
   refine Dx.p (i := 28) rfl (by kernel_rfl) (iaArr U211 sz104 rfl rfl (Int.toNat_natCast _) (by omega) (by omega)) rfl ?_
   refine Dx.one (i := 29) (by kernel_rfl) ?_
   refine Dstep.o0 (i := 29) rfl (stO U104 sz104 rfl rfl rfl (by rw [w32_len, hl]; omega) ((frc_gen _ _).trans (congrArg some (w32_set _ _ _)))) (fun v B' H' hΦ hB => ?_)
   obtain ⟨rfl, rfl⟩ := hΦ; clear hB v
   refine ⟨Je (Je (Jt) (by kernel_rfl)) (by kernel_rfl), ?_⟩
   refine Dx.done (by kernel_rfl) ?_
   refine Xx.bn ?_
   refine Xx.tn (k15 _ _ _ _ ?_)
   refine Cr <| Lx.y (mv rfl) rfl <| Lx.y (Yx.val (add rfl rfl (by first | exact wrap64 (by omega) (by omega) | rfl)) (show _ = i64 ((16 + (k + 1) : Nat) : Int) by first | rfl | (congr 1; omega) | (simp; omega))) rfl <| Lx.y (asg rfl) rfl <| Lx.nil <| ?_
   exact Xx.againK ⟨k + 1, by omega, rfl, rfl, rfl, rfl⟩ (by omega) (Sc 5 rfl (Sc 0 rfl (Sc 2 rfl (Sc 3 rfl (Sc 8 rfl (Sc 9 rfl (Sub.nil _)))))))
  ·
   have h48 := h14
   obtain rfl : k = 48 := by omega
   obtain ⟨w, hw⟩ : ∃ w, w = spB s 48 := ⟨_, rfl⟩
   have hwl : w.length = 64 := by rw [hw]; exact spB_len s 48
   rw [← hw]
   refine Cx.exit <| Xx.te <| Xx.te <| Xx.bh <| ?_
   refine Xx.tn (k10 _ _ _ _ ?_)
   refine Cq (fun K17 k17 => ?_)
   refine Cr <| Lx.y (ldA U211 rfl sz211 rfl (Co (n := 64) Pe (show ((w32s w).drop 0).take 64 = w32s w by rw [List.drop_zero, List.take_of_length_le (by rw [w32_len, hwl]; exact Nat.le_refl _)])) (by rw [w32_len, hwl])) rfl <| ?_
   refine Lx.st (stA (d := .bool) (cs' := w32s w) sz211 rfl rfl (by rw [w32_len, hwl]) (w32_all w) (by rw [w32_len, w32_len, hwl]; decide) (st_full (by rw [w32_len, w32_len, hwl]; rfl))) ?_
   refine Lx.nil ?_
   refine Xx.tn (k17 _ _ _ _ ?_)
   refine Cx.ret ?_
   refine Xx.dropB b3 ?_
   exact Xx.rBa rfl U211 rfl sz211 rfl (by rw [w32_len, hwl]) ⟨by rw [hw], rfl⟩ (Fl _)
end VhB
end Go.Proofs.YthlfffbcligocaaGreat
