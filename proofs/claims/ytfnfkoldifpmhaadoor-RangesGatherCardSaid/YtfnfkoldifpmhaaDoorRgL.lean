/-
  The walk of the law of looks that are gathered.
-/
import Derived.Test.YtfnfkoldifpmhaaDoorProg
import Derived.Test.YtfnfkoldifpmhaaDoorSlj
import Derived.Test.YtfnfkoldifpmhaaDoorRgK
namespace Go.Proofs.YtfnfkoldifpmhaaDoor
open Go.SL Go.RowKit
set_option linter.unusedVariables false
set_option linter.unusedSimpArgs false
set_option maxRecDepth 100000
open Ke1 Ke3 Ke4 Ke5 Ke6 Ke7 Ke8 Ke9 KeA KeB KeC KeD KeE KeF KeG KeI RgA RgB RgC RgD RgE RgG RgI RgJ RgK
namespace RgL
theorem sz26 : (Tryd.prog.info? 26).map (·.size) = some 6 := by kernel_rfl
theorem sz30 : (Tryd.prog.info? 30).map (·.size) = some 16 := by kernel_rfl
theorem sz34 : (Tryd.prog.info? 34).map (·.size) = some 2 := by kernel_rfl
theorem sz36 : (Tryd.prog.info? 36).map (·.size) = some 4 := by kernel_rfl
theorem sz42 : (Tryd.prog.info? 42).map (·.size) = some 1 := by kernel_rfl
theorem ti30 : TI Tryd.prog 30 [str [], .bool false, .int .i64 0, .bool false, .int .i64 0, str [], .slice none 0 0, .slice none 0 0, .int .i64 0, .bool false, .int .i64 0, str [], .slice none 0 0, .slice none 0 0, .bool false, .bool false] 16 208 := TI.of (by kernel_rfl) rfl rfl
theorem ti34 : TI Tryd.prog 34 [str [], str []] 2 32 := TI.of (by kernel_rfl) rfl rfl
theorem ti36 : TI Tryd.prog 36 [str [], str [], str [], str []] 4 64 := TI.of (by kernel_rfl) rfl rfl
theorem ti52 : TI Tryd.prog 52 [.slice none 0 0] 1 24 := TI.of (by kernel_rfl) rfl rfl
theorem fo36_0 : FO Tryd.prog 36 0 0 1 false := FO.of Tryd.underlying36 rfl rfl (by kernel_rfl) Tryd.underlying9 rfl rfl
theorem fo36_1 : FO Tryd.prog 36 1 1 1 false := FO.of Tryd.underlying36 rfl rfl (by kernel_rfl) Tryd.underlying9 rfl rfl
theorem fo36_2 : FO Tryd.prog 36 2 2 2 true := FO.of Tryd.underlying36 rfl rfl (by kernel_rfl) Tryd.underlying34 rfl rfl
theorem pl34 : PL Tryd.prog 34 [(0, 1), (1, 1)] := PL.of Tryd.underlying34 (by kernel_rfl)
theorem pl52 : PL Tryd.prog 52 [(0, 1)] := PL.of Tryd.underlying52 (by kernel_rfl)

theorem cell_of {cs vs : List Value} {o n : Nat} {v : Value} (h : (cs.drop o).take n = vs) (j : Nat) (hj : j < n) (hv : vs[j]? = some v) : cs[o + j]? = some v := by
  subst h
  rw [List.getElem?_take_of_lt hj, List.getElem?_drop] at hv
  exact hv
theorem cells_of {cs vs : List Value} {o n : Nat} (h : (cs.drop o).take n = vs) (j k : Nat) (hj : j + k ≤ n) : (cs.drop (o + j)).take k = (vs.drop j).take k := by
  subst h
  rw [List.drop_take, List.drop_drop, List.take_take, Nat.min_eq_left (by omega)]
section
variable {P : Program} {ρ : Sl} {S : World → Prop} {ty t t' u : TypeId} {x y : Operand} {f0 f1 f2 g0 g1 : Field}
theorem neR (r q : Rd) (ht : P.underlying t = some (.struct #[f0, f1, f2])) (h0 : P.underlying f0.type = some .string) (h1 : P.underlying f1.type = some .string) (h2 : P.underlying f2.type = some (.struct #[g0, g1])) (k0 : P.underlying g0.type = some .string) (k1 : P.underlying g1.type = some .string)
    (n0 : f0.name ≠ "_") (n1 : f1.name ≠ "_") (n2 : f2.name ≠ "_") (m0 : g0.name ≠ "_") (m1 : g1.name ≠ "_") (o0 : f0.offset = 0) (o1 : f1.offset = 1) (o2 : f2.offset = 2) (p0 : g0.offset = 0) (p1 : g1.offset = 1) (hz : (P.info? f2.type).map (·.size) = some 2)
    (hm : P.eqGuardType P.depth t = false) (hp : P.stoodInHeld t = false) (hp2 : P.stoodInHeld f2.type = false) (hx : ev ρ x = some (.agg (rcs r).toArray)) (hy : ev ρ y = some (.agg (rcs q).toArray)) :
    Yx P (.binOp .neq t x y t') ty ρ S (.bool (!eqRd r q)) := .of (fun _ h => by cases h) fun f w _ _ _ _ he _ =>
  run_binOp (he _ _ hx) (he _ _ hy) (run_eqGuard_agg _ _ _ _ _ _ _ hm) (by
    have hf : P.fieldsOf t = #[f0, f1, f2] := by unfold Program.fieldsOf; rw [ht]
    rw [run_neq_struct, run_equalIn_struct w 9999 t _ _ (by rw [hf]; exact ht) hp, hf]
    obtain ⟨a, b, c, d⟩ := r
    obtain ⟨a', b', c', d'⟩ := q
    have e : (Op.eqFields 9999 (rcs ⟨a, b, c, d⟩).toArray (rcs ⟨a', b', c', d'⟩).toArray [f0, f1, f2]).run P w = .ok (eqRd ⟨a, b, c, d⟩ ⟨a', b', c', d'⟩) w := by
      rw [eqF_cons n0 (part1 h0 rfl (by rw [o0]; rfl)) (part1 h0 rfl (by rw [o0]; rfl)) (eqStr (d := 9998) (a := a) (b := a') h0), eqF_cons n1 (part1 h1 rfl (by rw [o1]; rfl)) (part1 h1 rfl (by rw [o1]; rfl)) (eqStr (d := 9998) (a := b) (b := b') h1),
        eqF_cons n2 (partA h2 rfl hz) (partA h2 rfl hz) (by rw [o2]; exact run_span (d := 9997) (a := c) (b := d) (a' := c') (b' := d') h2 k0 k1 m0 m1 p0 p1 hp2)]
      simp only [Op.eqFields, Sem.run_pure]
      unfold eqRd
      by_cases q0 : a = a' <;> by_cases q1 : b = b' <;> by_cases q2 : c = c' <;> by_cases q3 : d = d' <;> simp [q0, q1, q2, q3]
    rw [show (#[f0, f1, f2] : Array Field).toList = [f0, f1, f2] from rfl, e]
    rfl)
theorem eqSp {a b a' b' : List UInt8} (ht : P.underlying t = some (.struct #[g0, g1])) (h0 : P.underlying g0.type = some .string) (h1 : P.underlying g1.type = some .string)
    (n0 : g0.name ≠ "_") (n1 : g1.name ≠ "_") (o0 : g0.offset = 0) (o1 : g1.offset = 1) (hm : P.eqGuardType P.depth t = false) (hp : P.stoodInHeld t = false)
    (hx : ev ρ x = some (.agg [str a, str b].toArray)) (hy : ev ρ y = some (.agg [str a', str b'].toArray)) :
    Yx P (.binOp .eql t x y t') ty ρ S (.bool (decide (a = a') && decide (b = b'))) := .of (fun _ h => by cases h) fun f w _ _ _ _ he _ =>
  run_binOp (he _ _ hx) (he _ _ hy) (run_eqGuard_agg _ _ _ _ _ _ _ hm) (by
    rw [run_eql_struct, show (10000 : Nat) = 9998 + 2 from rfl, run_span (d := 9998) (a := a) (b := b) (a' := a') (b' := b') ht h0 h1 n0 n1 o0 o1 hp]
    rfl)
end
theorem any_step {α : Type} {p : α → Bool} {l : List α} {k : Nat} (h : k < l.length) : (l.take (k + 1)).any p = ((l.take k).any p || p l[k]) := by
  rw [List.take_succ_eq_append_getElem h, List.any_append]; simp
theorem any_swap {α β : Type} (p : α → β → Bool) (l : List α) (m : List β) : l.any (fun x => m.any (fun y => p x y)) = m.any (fun y => l.any (fun x => p x y)) := by
  rw [Bool.eq_iff_iff]
  simp only [List.any_eq_true]
  constructor
  · rintro ⟨x, hx, y, hy, h⟩; exact ⟨y, hy, x, hx, h⟩
  · rintro ⟨y, hy, x, hx, h⟩; exact ⟨x, hx, y, hy, h⟩
theorem addS_known {m : List Rd} {r : Rd} (h : m.any (knownB r) = true) : addS m r = m := by unfold addS; rw [if_pos h]
theorem addS_whole {m : List Rd} {r : Rd} (h : m.any (knownB r) = false) (hf : r.f = []) : addS m r = m.filter (fun x => !decide (x.t = r.t)) ++ [⟨r.t, [], [], []⟩] := by unfold addS; rw [if_neg (by rw [h]; decide), if_pos hf]
theorem addS_part {m : List Rd} {r : Rd} (h : m.any (knownB r) = false) (hf : ¬ r.f = []) : addS m r = m ++ [r] := by unfold addS; rw [if_neg (by rw [h]; decide), if_neg hf]

set_option maxHeartbeats 8000000 in
theorem RangesGather_ct (l : List Rd) (La : Option Addr) (lc : Nat) (tl : List Tc) (Ta : Option Addr) (tcap : Nat) (B : Frag) (hL : 0 < l.length → RoS B 4 La l.length (l.flatMap rcs)) (hT : 0 < tl.length → RoS B 16 Ta tl.length (tl.flatMap tcc)) (hV : ∀ t ∈ tl, ∃ d, ValR B d t.vo (vcs t.vo t.A1 t.c1 t.N1 t.d1) ∧ ValR B d t.vn (vcs t.vn t.A2 t.c2 t.N2 t.d2)) (hl1 : l.length ≤ 9223372036854775807) (hl2 : tl.length ≤ 9223372036854775807) (hM : MaxLenIn B) : CtB Tryd.prog 6 [.slice La l.length lc, .slice Ta tl.length tcap] B (fun v _ => v = .bool true) := by
  refine CtB.of_body Tryd.func6 rfl (nt := 192) rfl (by kernel_rfl) rfl ?_
  intro N0 w0 R
  refine Cx.seq (fun K1 k1 => ?_)
  refine Cx.region ?_
  refine Lx.y (asg rfl) rfl ?_
  refine Lx.nil ?_
  refine Xx.tn (k1 _ _ _ _ ?_)
  refine Cx.seq (fun K2 k2 => ?_)
  refine Cx.region ?_
  refine Lx.y (bld ti52 pl52 rfl rfl) rfl ?_
  refine Lx.new (boxA rfl) rfl (fun bs => ?_)
  refine Lx.o (bslZ Tryd.underlying42 ti36) rfl (fun v B' H' hΦ hB => ?_)
  obtain ⟨b0, rfl, hBB, rfl⟩ := hΦ
  have hBB2 := hBB.symm
  subst hBB2
  refine Xx.freezeT (some ⟨b0, 0, none⟩) fun B3 hB3 hRo hnc3 _ => ?_
  clear hB
  refine Lx.y (asg rfl) rfl ?_
  refine Lx.y (asg rfl) rfl ?_
  refine Lx.nil ?_
  refine Xx.tn (k2 _ _ _ _ ?_)
  refine Cx.cutK (ds' := []) (Sub.cons (s := 0) rfl (Sub.cons (s := 1) rfl (Sub.cons (s := 5) rfl (Sub.cons (s := 21) rfl (Sub.cons (s := 22) rfl (Sub.cons (s := 23) rfl (Sub.nil _))))))) (fun ρ' B' H' => ∃ (ms : List Rd) (A Am : Option Addr) (c cm : Nat) (B2 : Frag), ρ' = [(6, .slice Am ms.length cm)] ∧ B2 = B' ∧ row bs 52 [.slice A ms.length c] * (sbuf 36 4 A ms.length c (ms.flatMap rcs) * R) = H' ∧ ms.length ≤ 30 ∧ RoS B2 4 Am ms.length (ms.flatMap rcs) ∧ B.le B2) ?_ ?_
  · skip
    refine Cx.seq (fun K3 k3 => ?_)
    refine Cx.region ?_
    refine Lx.y (asg rfl) rfl ?_
    refine Lx.nil ?_
    refine Xx.tn (k3 _ _ _ _ ?_)
    refine Cx.block ?_
    refine Cx.loopK (Sub.cons (s := 0) rfl (Sub.cons (s := 1) rfl (Sub.cons (s := 5) rfl (Sub.cons (s := 21) rfl (Sub.cons (s := 22) rfl (Sub.cons (s := 23) rfl (Sub.nil _))))))) (fun m ρ' B' H' => ∃ (i : Nat) (ms : List Rd) (A Am : Option Addr) (c cm : Nat) (B2 : Frag), (i ≤ 30 ∧ ms.length ≤ i ∧ RoS B2 4 Am ms.length (ms.flatMap rcs) ∧ B.le B2) ∧ m = 30 - i ∧ ρ' = [(6, .slice Am ms.length cm), (7, i64 i)] ∧ B2 = B' ∧ row bs 52 [.slice A ms.length c] * (sbuf 36 4 A ms.length c (ms.flatMap rcs) * R) = H') ⟨0, [], none, _, 0, 0, _, ⟨Nat.zero_le _, Nat.zero_le _, hRo, hB3⟩, rfl, rfl, rfl, by rw [show (([] : List Rd).flatMap rcs) = [] from rfl, show ([] : List Rd).length = 0 from rfl, sbuf_nil, one_star]⟩ (Sub.cons (s := 6) rfl (Sub.cons (s := 7) rfl (Sub.cons (s := 0) rfl (Sub.cons (s := 1) rfl (Sub.cons (s := 5) rfl (Sub.cons (s := 21) rfl (Sub.cons (s := 22) rfl (Sub.cons (s := 23) rfl (Sub.nil _))))))))) ?_
    rintro m ρ' B' H' ⟨i, ms, A, Am, c, cm, B2, ⟨hi, hml, hm, hB2⟩, rfl, rfl, rfl, rfl⟩
    refine Cx.seq (fun K4 k4 => ?_)
    refine Cx.seq (fun K5 k5 => ?_)
    refine Cx.region ?_
    refine Lx.y (mv rfl) rfl ?_
    refine Lx.y (mv rfl) rfl ?_
    refine Lx.y (lenV (ty' := 0) Tryd.underlying42 rfl) rfl ?_
    refine Lx.y (lss rfl rfl) rfl ?_
    refine Lx.y (mv rfl) rfl ?_
    refine Xx.ifD (t := 28) rfl (fun h6 => ?_) (fun h6 => ?_)
    · skip
      have h1 := h6
      refine Lx.gT rfl rfl rfl ?_
      refine Lx.y (mv rfl) rfl ?_
      refine Lx.gT rfl rfl rfl ?_
      refine Lx.y (lss rfl rfl) rfl ?_
      refine Lx.y (pickT rfl rfl) rfl ?_
      refine Lx.nil ?_
      refine Xx.tn (k5 _ _ _ _ ?_)
      refine Cx.condD rfl (fun h7 => ?_) (fun h7 => ?_)
      · skip
        have h2 := h7
        have hil : i < l.length := by omega
        obtain ⟨bl, ol, csl, etl, fzl, rfl, hBl, hcl⟩ := flat_at rcs_len ((hL (by omega)).mono hB2) hil
        obtain ⟨⟨rt, rf, rlo, rhi⟩, hrr⟩ : ∃ r, r = l[i] := ⟨_, rfl⟩
        rw [← hrr] at hcl
        refine Cx.skip ?_
        refine Xx.tn (k4 _ _ _ _ ?_)
        refine Cx.seq (fun K8 k8 => ?_)
        refine Cx.block ?_
        refine Cx.seq (fun K9 k9 => ?_)
        refine Cx.region ?_
        refine Lx.y (mv rfl) rfl ?_
        refine Lx.y (mv rfl) rfl ?_
        refine Lx.y (ia Tryd.underlying42 sz36 rfl rfl (by first | exact Int.toNat_natCast _ | rfl) (by omega) (by omega)) rfl ?_
        refine Lx.y (ldA Tryd.underlying36 rfl sz36 rfl (Cells.base (n := 4) hBl hcl) rfl) rfl ?_
        refine Lx.new (allocO ti36) rfl (fun b8 => ?_)
        refine Lx.st (stA (d := .bool) sz36 rfl rfl rfl rfl (by show 0 + 4 ≤ 4; omega) rfl) ?_
        refine Lx.nil ?_
        refine Xx.tn (k9 _ _ _ _ ?_)
        refine Cx.seq (fun K10 k10 => ?_)
        refine Cx.region ?_
        refine Lx.y (asg rfl) rfl ?_
        refine Lx.nil ?_
        refine Xx.tn (k10 _ _ _ _ ?_)
        refine Cx.seq (fun K11 k11 => ?_)
        refine Cx.seq (fun K12 k12 => ?_)
        refine Cx.region ?_
        refine Lx.y (asg rfl) rfl ?_
        refine Lx.nil ?_
        refine Xx.tn (k12 _ _ _ _ ?_)
        refine Cx.block ?_
        refine Cx.loopK (Sub.cons (s := 0) rfl (Sub.cons (s := 1) rfl (Sub.cons (s := 5) rfl (Sub.cons (s := 6) rfl (Sub.cons (s := 7) rfl (Sub.cons (s := 8) rfl (Sub.cons (s := 21) rfl (Sub.cons (s := 22) rfl (Sub.cons (s := 23) rfl (Sub.cons (s := 24) rfl (Sub.cons (s := 25) rfl (Sub.cons (s := 26) rfl (Sub.cons (s := 27) rfl (Sub.cons (s := 28) rfl (Sub.cons (s := 29) rfl (Sub.cons (s := 30) rfl (Sub.cons (s := 31) rfl (Sub.cons (s := 34) rfl (Sub.cons (s := 35) rfl (Sub.cons (s := 36) rfl (Sub.cons (s := 37) rfl (Sub.nil _)))))))))))))))))))))) (fun m ρ' B' H' => ∃ (k : Nat) (kn : Bool), (k ≤ ms.length ∧ kn = (ms.take k).any (knownB ⟨rt, rf, rlo, rhi⟩)) ∧ m = ms.length - k ∧ ρ' = [(9, .bool kn), (10, i64 k)] ∧ B2 = B' ∧ row b8 36 (rcs ⟨rt, rf, rlo, rhi⟩) * (row bs 52 [.slice A ms.length c] * (sbuf 36 4 A ms.length c (ms.flatMap rcs) * R)) = H') ⟨0, false, ⟨Nat.zero_le _, rfl⟩, rfl, rfl, rfl, rfl⟩ (Sub.cons (s := 9) rfl (Sub.cons (s := 10) rfl (Sub.cons (s := 0) rfl (Sub.cons (s := 1) rfl (Sub.cons (s := 5) rfl (Sub.cons (s := 6) rfl (Sub.cons (s := 7) rfl (Sub.cons (s := 8) rfl (Sub.cons (s := 21) rfl (Sub.cons (s := 22) rfl (Sub.cons (s := 23) rfl (Sub.cons (s := 24) rfl (Sub.cons (s := 25) rfl (Sub.cons (s := 26) rfl (Sub.cons (s := 27) rfl (Sub.cons (s := 28) rfl (Sub.cons (s := 29) rfl (Sub.cons (s := 30) rfl (Sub.cons (s := 31) rfl (Sub.cons (s := 34) rfl (Sub.cons (s := 35) rfl (Sub.cons (s := 36) rfl (Sub.cons (s := 37) rfl (Sub.nil _)))))))))))))))))))))))) ?_
        rintro m ρ' B' H' ⟨k, kn, ⟨hk, hkn⟩, rfl, rfl, rfl, rfl⟩
        refine Cx.seq (fun K13 k13 => ?_)
        refine Cx.seq (fun K14 k14 => ?_)
        refine Cx.region ?_
        refine Lx.y (mv rfl) rfl ?_
        refine Lx.y (mv rfl) rfl ?_
        refine Lx.y (lenV (ty' := 0) Tryd.underlying42 rfl) rfl ?_
        refine Lx.y (lss rfl rfl) rfl ?_
        refine Lx.nil ?_
        refine Xx.tn (k14 _ _ _ _ ?_)
        refine Cx.condD rfl (fun h15 => ?_) (fun h15 => ?_)
        · skip
          have hkl := h15
          have hkl : k < ms.length := by omega
          obtain ⟨bm, om, csm, etm, fzm, rfl, hBm, hcm⟩ := flat_at rcs_len hm hkl
          refine Cx.skip ?_
          refine Xx.tn (k13 _ _ _ _ ?_)
          refine Cx.seq (fun K16 k16 => ?_)
          refine Cx.block ?_
          refine Cx.drawn (by kernel_rfl) ?_
          refine Dx.p (i := 0) rfl (by kernel_rfl) (mv rfl) rfl ?_
          refine Dx.p (i := 1) rfl (by kernel_rfl) (mv rfl) rfl ?_
          refine Xx.ifB (t := 45) rfl (fun h17 => ?_) (fun h17 => ?_)
          · skip
            have e0 := h17
            refine Dx.pF (i := 2) rfl (fun _ h => by cases h) rfl rfl rfl (by kernel_rfl) rfl ?_
            refine Dx.pF (i := 3) rfl (fun _ h => by cases h) rfl rfl rfl (by kernel_rfl) rfl ?_
            refine Dx.pF (i := 4) rfl (fun _ h => by cases h) rfl rfl rfl (by kernel_rfl) rfl ?_
            refine Dx.pF (i := 5) rfl (fun _ h => by cases h) rfl rfl rfl (by kernel_rfl) rfl ?_
            refine Dx.pF (i := 6) rfl (fun _ h => by cases h) rfl rfl rfl (by kernel_rfl) rfl ?_
            refine Dx.pF (i := 7) rfl (fun _ h => by cases h) rfl rfl rfl (by kernel_rfl) rfl ?_
            refine Dx.p (i := 8) rfl (by kernel_rfl) (pickT rfl rfl) rfl ?_
            refine Dx.p (i := 9) rfl (by kernel_rfl) (mv rfl) rfl ?_
            refine Dx.pF (i := 10) rfl (fun _ h => by cases h) rfl rfl rfl (by kernel_rfl) rfl ?_
            refine Dx.pF (i := 11) rfl (fun _ h => by cases h) rfl rfl rfl (by kernel_rfl) rfl ?_
            refine Dx.pF (i := 12) rfl (fun _ h => by cases h) rfl rfl rfl (by kernel_rfl) rfl ?_
            refine Dx.pF (i := 13) rfl (fun _ h => by cases h) rfl rfl rfl (by kernel_rfl) rfl ?_
            refine Dx.pF (i := 14) rfl (fun _ h => by cases h) rfl rfl rfl (by kernel_rfl) rfl ?_
            refine Dx.pF (i := 15) rfl (fun _ h => by cases h) rfl rfl rfl (by kernel_rfl) rfl ?_
            refine Dx.pF (i := 16) rfl (fun _ h => by cases h) rfl rfl rfl (by kernel_rfl) rfl ?_
            refine Dx.pF (i := 17) rfl (fun _ h => by cases h) rfl rfl rfl (by kernel_rfl) rfl ?_
            refine Dx.pF (i := 18) rfl (fun _ h => by cases h) rfl rfl rfl (by kernel_rfl) rfl ?_
            refine Dx.pU (i := 19) rfl (fun _ h => by cases h) rfl rfl rfl (by kernel_rfl) rfl ?_
            refine Dx.pU (i := 20) rfl (fun _ h => by cases h) rfl rfl rfl (by kernel_rfl) rfl ?_
            refine Dx.pU (i := 21) rfl (fun _ h => by cases h) rfl rfl rfl (by kernel_rfl) rfl ?_
            refine Dx.pU (i := 22) rfl (fun _ h => by cases h) rfl rfl rfl (by kernel_rfl) rfl ?_
            refine Dx.pU (i := 23) rfl (fun _ h => by cases h) rfl rfl rfl (by kernel_rfl) rfl ?_
            refine Dx.pU (i := 24) rfl (fun _ h => by cases h) rfl rfl rfl (by kernel_rfl) rfl ?_
            refine Dx.pF (i := 25) rfl (fun _ h => by cases h) rfl rfl rfl (by kernel_rfl) rfl ?_
            refine Dx.pF (i := 26) rfl (fun _ h => by cases h) rfl rfl rfl (by kernel_rfl) rfl ?_
            refine Dx.pU (i := 27) rfl (fun _ h => by cases h) rfl rfl rfl (by kernel_rfl) rfl ?_
            refine Dx.pU (i := 28) rfl (fun _ h => by cases h) rfl rfl rfl (by kernel_rfl) rfl ?_
            refine Dx.pU (i := 29) rfl (fun _ h => by cases h) rfl rfl rfl (by kernel_rfl) rfl ?_
            refine Dx.pU (i := 30) rfl (fun _ h => by cases h) rfl rfl rfl (by kernel_rfl) rfl ?_
            refine Dx.pU (i := 31) rfl (fun _ h => by cases h) rfl rfl rfl (by kernel_rfl) rfl ?_
            refine Dx.pU (i := 32) rfl (fun _ h => by cases h) rfl rfl rfl (by kernel_rfl) rfl ?_
            refine Dx.pU (i := 33) rfl (fun _ h => by cases h) rfl rfl rfl (by kernel_rfl) rfl ?_
            refine Dx.pF (i := 34) rfl (fun _ h => by cases h) rfl rfl rfl (by kernel_rfl) rfl ?_
            refine Dx.p (i := 35) rfl (by kernel_rfl) (pickT rfl rfl) rfl ?_
            refine Dx.p (i := 36) rfl (by kernel_rfl) (asg rfl) rfl ?_
            refine Dx.done (by kernel_rfl) ?_
            refine Xx.bn ?_
            refine Xx.tn (k16 _ _ _ _ ?_)
            refine Cx.region ?_
            refine Lx.y (mv rfl) rfl ?_
            refine Lx.y (Yx.val (add rfl rfl (by first | exact wrap64 (by omega) (by omega) | rfl)) (show _ = i64 ((k + 1 : Nat) : Int) from rfl)) rfl ?_
            refine Lx.y (asg rfl) rfl ?_
            refine Lx.nil ?_
            exact Xx.againK ⟨k + 1, _, ⟨by omega, by rw [any_step hkl, ← hkn]; unfold knownB eqRd at *; simp_all⟩, rfl, rfl, rfl, rfl⟩ (by omega) (Sub.cons (s := 9) rfl (Sub.cons (s := 10) rfl (Sub.cons (s := 0) rfl (Sub.cons (s := 1) rfl (Sub.cons (s := 5) rfl (Sub.cons (s := 6) rfl (Sub.cons (s := 7) rfl (Sub.cons (s := 8) rfl (Sub.cons (s := 21) rfl (Sub.cons (s := 22) rfl (Sub.cons (s := 23) rfl (Sub.cons (s := 24) rfl (Sub.cons (s := 25) rfl (Sub.cons (s := 26) rfl (Sub.cons (s := 27) rfl (Sub.cons (s := 28) rfl (Sub.cons (s := 29) rfl (Sub.cons (s := 30) rfl (Sub.cons (s := 31) rfl (Sub.cons (s := 34) rfl (Sub.cons (s := 35) rfl (Sub.cons (s := 36) rfl (Sub.cons (s := 37) rfl (Sub.nil _))))))))))))))))))))))))
          · skip
            have e0 := h17
            refine Dx.pT (i := 2) rfl rfl rfl rfl (by kernel_rfl) (mv rfl) rfl ?_
            refine Dx.pT (i := 3) rfl rfl rfl rfl (by kernel_rfl) (mv rfl) rfl ?_
            refine Dx.pT (i := 4) rfl rfl rfl rfl (by kernel_rfl) (ia Tryd.underlying42 sz36 rfl rfl (by first | exact Int.toNat_natCast _ | rfl) (by omega) (by omega)) rfl ?_
            refine Dx.rT (i := 5) rfl rfl rfl rfl (by kernel_rfl) (ldA Tryd.underlying36 rfl sz36 rfl (Cells.base (n := 4) hBm hcm) rfl) rfl ?_
            refine Dx.rT (i := 6) rfl rfl rfl rfl (by kernel_rfl) (ldA Tryd.underlying36 rfl sz36 rfl (Cells.own (n := 4) PickB.eq rfl) rfl) rfl ?_
            refine Dx.pT (i := 7) rfl rfl rfl rfl (by kernel_rfl) (eqR ms[k] ⟨rt, rf, rlo, rhi⟩ Tryd.underlying36 Tryd.underlying9 Tryd.underlying9 Tryd.underlying34 Tryd.underlying9 Tryd.underlying9 (by decide) (by decide) (by decide) (by decide) (by decide) rfl rfl rfl rfl rfl sz34 (by kernel_rfl) (by kernel_rfl) (by kernel_rfl) rfl rfl) rfl ?_
            refine Dx.p (i := 8) rfl (by kernel_rfl) (pickF rfl rfl) rfl ?_
            refine Dx.p (i := 9) rfl (by kernel_rfl) (mv rfl) rfl ?_
            refine Xx.ifB (t := 53) rfl (fun h18 => ?_) (fun h18 => ?_)
            · skip
              have e1 := h18
              refine Dx.pF (i := 10) rfl (fun _ h => by cases h) rfl rfl rfl (by kernel_rfl) rfl ?_
              refine Dx.pF (i := 11) rfl (fun _ h => by cases h) rfl rfl rfl (by kernel_rfl) rfl ?_
              refine Dx.pF (i := 12) rfl (fun _ h => by cases h) rfl rfl rfl (by kernel_rfl) rfl ?_
              refine Dx.pF (i := 13) rfl (fun _ h => by cases h) rfl rfl rfl (by kernel_rfl) rfl ?_
              refine Dx.pF (i := 14) rfl (fun _ h => by cases h) rfl rfl rfl (by kernel_rfl) rfl ?_
              refine Dx.pF (i := 15) rfl (fun _ h => by cases h) rfl rfl rfl (by kernel_rfl) rfl ?_
              refine Dx.pF (i := 16) rfl (fun _ h => by cases h) rfl rfl rfl (by kernel_rfl) rfl ?_
              refine Dx.pF (i := 17) rfl (fun _ h => by cases h) rfl rfl rfl (by kernel_rfl) rfl ?_
              refine Dx.pF (i := 18) rfl (fun _ h => by cases h) rfl rfl rfl (by kernel_rfl) rfl ?_
              refine Dx.pU (i := 19) rfl (fun _ h => by cases h) rfl rfl rfl (by kernel_rfl) rfl ?_
              refine Dx.pU (i := 20) rfl (fun _ h => by cases h) rfl rfl rfl (by kernel_rfl) rfl ?_
              refine Dx.pU (i := 21) rfl (fun _ h => by cases h) rfl rfl rfl (by kernel_rfl) rfl ?_
              refine Dx.pU (i := 22) rfl (fun _ h => by cases h) rfl rfl rfl (by kernel_rfl) rfl ?_
              refine Dx.pU (i := 23) rfl (fun _ h => by cases h) rfl rfl rfl (by kernel_rfl) rfl ?_
              refine Dx.pU (i := 24) rfl (fun _ h => by cases h) rfl rfl rfl (by kernel_rfl) rfl ?_
              refine Dx.pF (i := 25) rfl (fun _ h => by cases h) rfl rfl rfl (by kernel_rfl) rfl ?_
              refine Dx.pF (i := 26) rfl (fun _ h => by cases h) rfl rfl rfl (by kernel_rfl) rfl ?_
              refine Dx.pU (i := 27) rfl (fun _ h => by cases h) rfl rfl rfl (by kernel_rfl) rfl ?_
              refine Dx.pU (i := 28) rfl (fun _ h => by cases h) rfl rfl rfl (by kernel_rfl) rfl ?_
              refine Dx.pU (i := 29) rfl (fun _ h => by cases h) rfl rfl rfl (by kernel_rfl) rfl ?_
              refine Dx.pU (i := 30) rfl (fun _ h => by cases h) rfl rfl rfl (by kernel_rfl) rfl ?_
              refine Dx.pU (i := 31) rfl (fun _ h => by cases h) rfl rfl rfl (by kernel_rfl) rfl ?_
              refine Dx.pU (i := 32) rfl (fun _ h => by cases h) rfl rfl rfl (by kernel_rfl) rfl ?_
              refine Dx.pU (i := 33) rfl (fun _ h => by cases h) rfl rfl rfl (by kernel_rfl) rfl ?_
              refine Dx.pF (i := 34) rfl (fun _ h => by cases h) rfl rfl rfl (by kernel_rfl) rfl ?_
              refine Dx.p (i := 35) rfl (by kernel_rfl) (pickT rfl rfl) rfl ?_
              refine Dx.p (i := 36) rfl (by kernel_rfl) (asg rfl) rfl ?_
              refine Dx.done (by kernel_rfl) ?_
              refine Xx.bn ?_
              refine Xx.tn (k16 _ _ _ _ ?_)
              refine Cx.region ?_
              refine Lx.y (mv rfl) rfl ?_
              refine Lx.y (Yx.val (add rfl rfl (by first | exact wrap64 (by omega) (by omega) | rfl)) (show _ = i64 ((k + 1 : Nat) : Int) from rfl)) rfl ?_
              refine Lx.y (asg rfl) rfl ?_
              refine Lx.nil ?_
              exact Xx.againK ⟨k + 1, _, ⟨by omega, by rw [any_step hkl, ← hkn]; unfold knownB eqRd at *; simp_all⟩, rfl, rfl, rfl, rfl⟩ (by omega) (Sub.cons (s := 9) rfl (Sub.cons (s := 10) rfl (Sub.cons (s := 0) rfl (Sub.cons (s := 1) rfl (Sub.cons (s := 5) rfl (Sub.cons (s := 6) rfl (Sub.cons (s := 7) rfl (Sub.cons (s := 8) rfl (Sub.cons (s := 21) rfl (Sub.cons (s := 22) rfl (Sub.cons (s := 23) rfl (Sub.cons (s := 24) rfl (Sub.cons (s := 25) rfl (Sub.cons (s := 26) rfl (Sub.cons (s := 27) rfl (Sub.cons (s := 28) rfl (Sub.cons (s := 29) rfl (Sub.cons (s := 30) rfl (Sub.cons (s := 31) rfl (Sub.cons (s := 34) rfl (Sub.cons (s := 35) rfl (Sub.cons (s := 36) rfl (Sub.cons (s := 37) rfl (Sub.nil _))))))))))))))))))))))))
            · skip
              have e1 := h18
              refine Dx.pT (i := 10) rfl rfl rfl rfl (by kernel_rfl) (mv rfl) rfl ?_
              refine Dx.pT (i := 11) rfl rfl rfl rfl (by kernel_rfl) (mv rfl) rfl ?_
              refine Dx.pT (i := 12) rfl rfl rfl rfl (by kernel_rfl) (ia Tryd.underlying42 sz36 rfl rfl (by first | exact Int.toNat_natCast _ | rfl) (by omega) (by omega)) rfl ?_
              refine Dx.pT (i := 13) rfl rfl rfl rfl (by kernel_rfl) (fa' fo36_0 rfl) rfl ?_
              refine Dx.rT (i := 14) rfl rfl rfl rfl (by kernel_rfl) (ldB Tryd.underlying9 rfl rfl hBm (cell_of hcm 0 (by omega) rfl)) rfl ?_
              refine Dx.pT (i := 15) rfl rfl rfl rfl (by kernel_rfl) (fa' fo36_0 rfl) rfl ?_
              refine Dx.rT (i := 16) rfl rfl rfl rfl (by kernel_rfl) (ld Tryd.underlying9 rfl rfl rfl) rfl ?_
              refine Dx.pT (i := 17) rfl rfl rfl rfl (by kernel_rfl) (eqS rfl rfl) rfl ?_
              refine Dx.pT (i := 18) rfl rfl rfl rfl (by kernel_rfl) (mv rfl) rfl ?_
              refine Xx.ifD (t := 62) rfl (fun h19 => ?_) (fun h19 => ?_)
              · skip
                have e2 := h19
                refine Dx.pT (i := 19) rfl rfl rfl rfl (by kernel_rfl) (mv rfl) rfl ?_
                refine Dx.pT (i := 20) rfl rfl rfl rfl (by kernel_rfl) (mv rfl) rfl ?_
                refine Dx.pT (i := 21) rfl rfl rfl rfl (by kernel_rfl) (ia Tryd.underlying42 sz36 rfl rfl (by first | exact Int.toNat_natCast _ | rfl) (by omega) (by omega)) rfl ?_
                refine Dx.pT (i := 22) rfl rfl rfl rfl (by kernel_rfl) (fa' fo36_1 rfl) rfl ?_
                refine Dx.rT (i := 23) rfl rfl rfl rfl (by kernel_rfl) (ldB Tryd.underlying9 rfl rfl hBm (cell_of hcm 1 (by omega) rfl)) rfl ?_
                refine Dx.pT (i := 24) rfl rfl rfl rfl (by kernel_rfl) (eqS rfl rfl) rfl ?_
                refine Dx.pT (i := 25) rfl rfl rfl rfl (by kernel_rfl) (pickT rfl rfl) rfl ?_
                refine Dx.pT (i := 26) rfl rfl rfl rfl (by kernel_rfl) (mv rfl) rfl ?_
                refine Xx.ifD (t := 70) rfl (fun h20 => ?_) (fun h20 => ?_)
                · skip
                  have e3 := h20
                  refine Dx.pT (i := 27) rfl rfl rfl rfl (by kernel_rfl) (mv rfl) rfl ?_
                  refine Dx.pT (i := 28) rfl rfl rfl rfl (by kernel_rfl) (mv rfl) rfl ?_
                  refine Dx.pT (i := 29) rfl rfl rfl rfl (by kernel_rfl) (ia Tryd.underlying42 sz36 rfl rfl (by first | exact Int.toNat_natCast _ | rfl) (by omega) (by omega)) rfl ?_
                  refine Dx.pT (i := 30) rfl rfl rfl rfl (by kernel_rfl) (fa' fo36_2 rfl) rfl ?_
                  refine Dx.rT (i := 31) rfl rfl rfl rfl (by kernel_rfl) (ldA Tryd.underlying34 rfl sz34 rfl (Cells.base (n := 2) hBm (cells_of hcm 2 2 (by omega))) rfl) rfl ?_
                  refine Dx.pT (i := 32) rfl rfl rfl rfl (by kernel_rfl) (bld ti34 pl34 rfl rfl) rfl ?_
                  refine Dx.pT (i := 33) rfl rfl rfl rfl (by kernel_rfl) (eqSp (a := ms[k].lo) (b := ms[k].hi) (a' := []) (b' := []) Tryd.underlying34 Tryd.underlying9 Tryd.underlying9 (by decide) (by decide) rfl rfl (by kernel_rfl) (by kernel_rfl) rfl rfl) rfl ?_
                  refine Dx.pT (i := 34) rfl rfl rfl rfl (by kernel_rfl) (pickT rfl rfl) rfl ?_
                  refine Dx.p (i := 35) rfl (by kernel_rfl) (pickF rfl rfl) rfl ?_
                  refine Dx.p (i := 36) rfl (by kernel_rfl) (asg rfl) rfl ?_
                  refine Dx.done (by kernel_rfl) ?_
                  refine Xx.bn ?_
                  refine Xx.tn (k16 _ _ _ _ ?_)
                  refine Cx.region ?_
                  refine Lx.y (mv rfl) rfl ?_
                  refine Lx.y (Yx.val (add rfl rfl (by first | exact wrap64 (by omega) (by omega) | rfl)) (show _ = i64 ((k + 1 : Nat) : Int) from rfl)) rfl ?_
                  refine Lx.y (asg rfl) rfl ?_
                  refine Lx.nil ?_
                  exact Xx.againK ⟨k + 1, _, ⟨by omega, by rw [any_step hkl, ← hkn]; unfold knownB eqRd at *; simp_all⟩, rfl, rfl, rfl, rfl⟩ (by omega) (Sub.cons (s := 9) rfl (Sub.cons (s := 10) rfl (Sub.cons (s := 0) rfl (Sub.cons (s := 1) rfl (Sub.cons (s := 5) rfl (Sub.cons (s := 6) rfl (Sub.cons (s := 7) rfl (Sub.cons (s := 8) rfl (Sub.cons (s := 21) rfl (Sub.cons (s := 22) rfl (Sub.cons (s := 23) rfl (Sub.cons (s := 24) rfl (Sub.cons (s := 25) rfl (Sub.cons (s := 26) rfl (Sub.cons (s := 27) rfl (Sub.cons (s := 28) rfl (Sub.cons (s := 29) rfl (Sub.cons (s := 30) rfl (Sub.cons (s := 31) rfl (Sub.cons (s := 34) rfl (Sub.cons (s := 35) rfl (Sub.cons (s := 36) rfl (Sub.cons (s := 37) rfl (Sub.nil _))))))))))))))))))))))))
                · skip
                  have e3 := h20
                  refine Dx.pF (i := 27) rfl (fun _ h => by cases h) rfl rfl rfl (by kernel_rfl) rfl ?_
                  refine Dx.pF (i := 28) rfl (fun _ h => by cases h) rfl rfl rfl (by kernel_rfl) rfl ?_
                  refine Dx.pF (i := 29) rfl (fun _ h => by cases h) rfl rfl rfl (by kernel_rfl) rfl ?_
                  refine Dx.pF (i := 30) rfl (fun _ h => by cases h) rfl rfl rfl (by kernel_rfl) rfl ?_
                  refine Dx.pF (i := 31) rfl (fun _ h => by cases h) rfl rfl rfl (by kernel_rfl) rfl ?_
                  refine Dx.pF (i := 32) rfl (fun _ h => by cases h) rfl rfl rfl (by kernel_rfl) rfl ?_
                  refine Dx.pF (i := 33) rfl (fun _ h => by cases h) rfl rfl rfl (by kernel_rfl) rfl ?_
                  refine Dx.pT (i := 34) rfl rfl rfl rfl (by kernel_rfl) (pickF rfl rfl) rfl ?_
                  refine Dx.p (i := 35) rfl (by kernel_rfl) (pickF rfl rfl) rfl ?_
                  refine Dx.p (i := 36) rfl (by kernel_rfl) (asg rfl) rfl ?_
                  refine Dx.done (by kernel_rfl) ?_
                  refine Xx.bn ?_
                  refine Xx.tn (k16 _ _ _ _ ?_)
                  refine Cx.region ?_
                  refine Lx.y (mv rfl) rfl ?_
                  refine Lx.y (Yx.val (add rfl rfl (by first | exact wrap64 (by omega) (by omega) | rfl)) (show _ = i64 ((k + 1 : Nat) : Int) from rfl)) rfl ?_
                  refine Lx.y (asg rfl) rfl ?_
                  refine Lx.nil ?_
                  exact Xx.againK ⟨k + 1, _, ⟨by omega, by rw [any_step hkl, ← hkn]; unfold knownB eqRd at *; simp_all⟩, rfl, rfl, rfl, rfl⟩ (by omega) (Sub.cons (s := 9) rfl (Sub.cons (s := 10) rfl (Sub.cons (s := 0) rfl (Sub.cons (s := 1) rfl (Sub.cons (s := 5) rfl (Sub.cons (s := 6) rfl (Sub.cons (s := 7) rfl (Sub.cons (s := 8) rfl (Sub.cons (s := 21) rfl (Sub.cons (s := 22) rfl (Sub.cons (s := 23) rfl (Sub.cons (s := 24) rfl (Sub.cons (s := 25) rfl (Sub.cons (s := 26) rfl (Sub.cons (s := 27) rfl (Sub.cons (s := 28) rfl (Sub.cons (s := 29) rfl (Sub.cons (s := 30) rfl (Sub.cons (s := 31) rfl (Sub.cons (s := 34) rfl (Sub.cons (s := 35) rfl (Sub.cons (s := 36) rfl (Sub.cons (s := 37) rfl (Sub.nil _))))))))))))))))))))))))
              · skip
                have e2 := h19
                refine Dx.pF (i := 19) rfl (fun _ h => by cases h) rfl rfl rfl (by kernel_rfl) rfl ?_
                refine Dx.pF (i := 20) rfl (fun _ h => by cases h) rfl rfl rfl (by kernel_rfl) rfl ?_
                refine Dx.pF (i := 21) rfl (fun _ h => by cases h) rfl rfl rfl (by kernel_rfl) rfl ?_
                refine Dx.pF (i := 22) rfl (fun _ h => by cases h) rfl rfl rfl (by kernel_rfl) rfl ?_
                refine Dx.pF (i := 23) rfl (fun _ h => by cases h) rfl rfl rfl (by kernel_rfl) rfl ?_
                refine Dx.pF (i := 24) rfl (fun _ h => by cases h) rfl rfl rfl (by kernel_rfl) rfl ?_
                refine Dx.pT (i := 25) rfl rfl rfl rfl (by kernel_rfl) (pickF rfl rfl) rfl ?_
                refine Dx.pT (i := 26) rfl rfl rfl rfl (by kernel_rfl) (mv rfl) rfl ?_
                refine Dx.pF (i := 27) rfl (fun _ h => by cases h) rfl rfl rfl (by kernel_rfl) rfl ?_
                refine Dx.pF (i := 28) rfl (fun _ h => by cases h) rfl rfl rfl (by kernel_rfl) rfl ?_
                refine Dx.pF (i := 29) rfl (fun _ h => by cases h) rfl rfl rfl (by kernel_rfl) rfl ?_
                refine Dx.pF (i := 30) rfl (fun _ h => by cases h) rfl rfl rfl (by kernel_rfl) rfl ?_
                refine Dx.pF (i := 31) rfl (fun _ h => by cases h) rfl rfl rfl (by kernel_rfl) rfl ?_
                refine Dx.pF (i := 32) rfl (fun _ h => by cases h) rfl rfl rfl (by kernel_rfl) rfl ?_
                refine Dx.pF (i := 33) rfl (fun _ h => by cases h) rfl rfl rfl (by kernel_rfl) rfl ?_
                refine Dx.pT (i := 34) rfl rfl rfl rfl (by kernel_rfl) (pickF rfl rfl) rfl ?_
                refine Dx.p (i := 35) rfl (by kernel_rfl) (pickF rfl rfl) rfl ?_
                refine Dx.p (i := 36) rfl (by kernel_rfl) (asg rfl) rfl ?_
                refine Dx.done (by kernel_rfl) ?_
                refine Xx.bn ?_
                refine Xx.tn (k16 _ _ _ _ ?_)
                refine Cx.region ?_
                refine Lx.y (mv rfl) rfl ?_
                refine Lx.y (Yx.val (add rfl rfl (by first | exact wrap64 (by omega) (by omega) | rfl)) (show _ = i64 ((k + 1 : Nat) : Int) from rfl)) rfl ?_
                refine Lx.y (asg rfl) rfl ?_
                refine Lx.nil ?_
                exact Xx.againK ⟨k + 1, _, ⟨by omega, by rw [any_step hkl, ← hkn]; unfold knownB eqRd at *; simp_all⟩, rfl, rfl, rfl, rfl⟩ (by omega) (Sub.cons (s := 9) rfl (Sub.cons (s := 10) rfl (Sub.cons (s := 0) rfl (Sub.cons (s := 1) rfl (Sub.cons (s := 5) rfl (Sub.cons (s := 6) rfl (Sub.cons (s := 7) rfl (Sub.cons (s := 8) rfl (Sub.cons (s := 21) rfl (Sub.cons (s := 22) rfl (Sub.cons (s := 23) rfl (Sub.cons (s := 24) rfl (Sub.cons (s := 25) rfl (Sub.cons (s := 26) rfl (Sub.cons (s := 27) rfl (Sub.cons (s := 28) rfl (Sub.cons (s := 29) rfl (Sub.cons (s := 30) rfl (Sub.cons (s := 31) rfl (Sub.cons (s := 34) rfl (Sub.cons (s := 35) rfl (Sub.cons (s := 36) rfl (Sub.cons (s := 37) rfl (Sub.nil _))))))))))))))))))))))))
        · skip
          obtain rfl : k = ms.length := by have := h15; omega
          rw [List.take_length] at hkn
          refine Cx.exit ?_
          refine Xx.te ?_
          refine Xx.te ?_
          refine Xx.bh ?_
          refine Xx.tn (k11 _ _ _ _ ?_)
          refine Cx.seq (fun K21 k21 => ?_)
          refine Cx.seq (fun K22 k22 => ?_)
          have hadd := Add_ct ms ⟨rt, rf, rlo, rhi⟩ A c bs B2 (by omega)
          refine Cx.region ?_
          refine Lx.y (mv rfl) rfl ?_
          refine Lx.y (ldA Tryd.underlying36 rfl sz36 rfl (Cells.own (n := 4) PickB.eq rfl) rfl) rfl ?_
          refine Lx.c rfl rfl rfl (hadd) ((show _ = (row bs 52 [.slice A ms.length c] * sbuf 36 4 A ms.length c (ms.flatMap rcs)) * (row b8 36 (rcs ⟨rt, rf, rlo, rhi⟩) * R) by ac_rfl)) rfl ?_
          rintro v9 B9 H9 ⟨hBB, rfl, A9, c9, rfl⟩ hB9
          have hBB2 := hBB.symm
          subst hBB2
          clear hB9
          simp only [star_assoc]
          refine Lx.y (mv rfl) rfl ?_
          refine Lx.y (Yx.ff (eqB Tryd.underlying4 rfl rfl) (by rw [hkn]; cases ms.any (knownB ⟨rt, rf, rlo, rhi⟩) <;> rfl)) rfl ?_
          refine Lx.nil ?_
          refine Xx.tn (k22 _ _ _ _ ?_)
          refine Cx.condF rfl ?_
          refine Cx.skip ?_
          refine Xx.tn (k21 _ _ _ _ ?_)
          refine Cx.seq (fun K23 k23 => ?_)
          refine Cx.seq (fun K24 k24 => ?_)
          refine Cx.region ?_
          refine Lx.y (mv rfl) rfl ?_
          refine Lx.nil ?_
          refine Xx.tn (k24 _ _ _ _ ?_)
          refine Cx.condB rfl (fun h25 => ?_) (fun h25 => ?_)
          · skip
            have hkn := hkn.symm.trans h25
            refine Cx.exit ?_
            refine Xx.te ?_
            refine Xx.bh ?_
            refine Xx.tn (k8 _ _ _ _ ?_)
            refine Cx.region ?_
            refine Lx.y (mv rfl) rfl ?_
            refine Lx.y (Yx.val (add rfl rfl (by first | exact wrap64 (by omega) (by omega) | rfl)) (show _ = i64 ((i + 1 : Nat) : Int) from rfl)) rfl ?_
            refine Lx.y (asg rfl) rfl ?_
            refine Lx.nil ?_
            refine Xx.dropB b8 ?_
            rw [addS_known hkn]
            exact Xx.againK ⟨i + 1, ms, A9, _, c9, cm, B2, ⟨by omega, by omega, hm, hB2⟩, rfl, rfl, rfl, (by ac_rfl)⟩ (by omega) (Sub.cons (s := 6) rfl (Sub.cons (s := 7) rfl (Sub.cons (s := 0) rfl (Sub.cons (s := 1) rfl (Sub.cons (s := 5) rfl (Sub.cons (s := 21) rfl (Sub.cons (s := 22) rfl (Sub.cons (s := 23) rfl (Sub.nil _)))))))))
          · skip
            have hkn := hkn.symm.trans (show kn = false by simpa using h25)
            refine Cx.skip ?_
            refine Xx.tn (k23 _ _ _ _ ?_)
            refine Cx.cutK (ds' := []) (Sub.cons (s := 0) rfl (Sub.cons (s := 1) rfl (Sub.cons (s := 5) rfl (Sub.cons (s := 7) rfl (Sub.cons (s := 8) rfl (Sub.cons (s := 9) rfl (Sub.cons (s := 10) rfl (Sub.cons (s := 21) rfl (Sub.cons (s := 22) rfl (Sub.cons (s := 23) rfl (Sub.cons (s := 24) rfl (Sub.cons (s := 25) rfl (Sub.cons (s := 26) rfl (Sub.cons (s := 27) rfl (Sub.cons (s := 28) rfl (Sub.cons (s := 29) rfl (Sub.cons (s := 30) rfl (Sub.cons (s := 31) rfl (Sub.cons (s := 34) rfl (Sub.cons (s := 35) rfl (Sub.cons (s := 36) rfl (Sub.cons (s := 37) rfl (Sub.cons (s := 38) rfl (Sub.cons (s := 39) rfl (Sub.cons (s := 40) rfl (Sub.cons (s := 41) rfl (Sub.cons (s := 80) rfl (Sub.cons (s := 81) rfl (Sub.cons (s := 82) rfl (Sub.cons (s := 83) rfl (Sub.cons (s := 84) rfl (Sub.cons (s := 85) rfl (Sub.nil _))))))))))))))))))))))))))))))))) (fun ρ' B' H' => ∃ (m2 : List Rd) (r2 : Rd) (Am2 : Option Addr) (cm2 : Nat) (B3 : Frag), ρ' = [(6, .slice Am2 m2.length cm2)] ∧ B3 = B' ∧ row b8 36 (rcs r2) * (row bs 52 [.slice A9 (m2 ++ [r2]).length c9] * (sbuf 36 4 A9 (m2 ++ [r2]).length c9 ((m2 ++ [r2]).flatMap rcs) * R)) = H' ∧ RoS B3 4 Am2 m2.length (m2.flatMap rcs) ∧ B2.le B3 ∧ m2.length ≤ ms.length) ?_ ?_
            · skip
              refine Cx.seq (fun K26 k26 => ?_)
              refine Cx.region ?_
              refine Lx.y (fa' fo36_1 rfl) rfl ?_
              refine Lx.y (ld Tryd.underlying9 rfl rfl rfl) rfl ?_
              refine Lx.y (eqS rfl rfl) rfl ?_
              refine Lx.nil ?_
              refine Xx.tn (k26 _ _ _ _ ?_)
              refine Cx.condD rfl (fun h27 => ?_) (fun h27 => ?_)
              · skip
                obtain rfl : rf = [] := h27
                have hadd9 := addS_whole hkn rfl
                refine Cx.seq (fun K28 k28 => ?_)
                refine Cx.region ?_
                refine Lx.y (bld ti34 pl34 rfl rfl) rfl ?_
                refine Lx.y (fa' fo36_2 rfl) rfl ?_
                refine Lx.st (stA (d := .bool) sz34 rfl rfl rfl rfl (by show 2 + 2 ≤ 4; omega) rfl) ?_
                refine Lx.nil ?_
                refine Xx.tn (k28 _ _ _ _ ?_)
                refine Cx.seq (fun K29 k29 => ?_)
                refine Cx.region ?_
                refine Lx.o (bslZ Tryd.underlying42 ti36) rfl (fun v B' H' hΦ hB => ?_)
                obtain ⟨b1, rfl, hBB, rfl⟩ := hΦ
                have hBB2 := hBB.symm
                subst hBB2
                clear hB
                refine Lx.y (asg rfl) rfl ?_
                refine Lx.nil ?_
                refine Xx.tn (k29 _ _ _ _ ?_)
                refine Cx.seq (fun K30 k30 => ?_)
                refine Cx.seq (fun K31 k31 => ?_)
                refine Cx.region ?_
                refine Lx.y (asg rfl) rfl ?_
                refine Lx.nil ?_
                refine Xx.tn (k31 _ _ _ _ ?_)
                refine Cx.block ?_
                refine Cx.loopK (Sub.cons (s := 0) rfl (Sub.cons (s := 1) rfl (Sub.cons (s := 5) rfl (Sub.cons (s := 6) rfl (Sub.cons (s := 7) rfl (Sub.cons (s := 8) rfl (Sub.cons (s := 9) rfl (Sub.cons (s := 10) rfl (Sub.cons (s := 21) rfl (Sub.cons (s := 22) rfl (Sub.cons (s := 23) rfl (Sub.cons (s := 24) rfl (Sub.cons (s := 25) rfl (Sub.cons (s := 26) rfl (Sub.cons (s := 27) rfl (Sub.cons (s := 28) rfl (Sub.cons (s := 29) rfl (Sub.cons (s := 30) rfl (Sub.cons (s := 31) rfl (Sub.cons (s := 34) rfl (Sub.cons (s := 35) rfl (Sub.cons (s := 36) rfl (Sub.cons (s := 37) rfl (Sub.cons (s := 38) rfl (Sub.cons (s := 39) rfl (Sub.cons (s := 40) rfl (Sub.cons (s := 41) rfl (Sub.cons (s := 80) rfl (Sub.cons (s := 81) rfl (Sub.cons (s := 82) rfl (Sub.cons (s := 83) rfl (Sub.cons (s := 84) rfl (Sub.cons (s := 85) rfl (Sub.cons (s := 86) rfl (Sub.cons (s := 87) rfl (Sub.cons (s := 88) rfl (Sub.cons (s := 89) rfl (Sub.cons (s := 90) rfl (Sub.cons (s := 91) rfl (Sub.nil _)))))))))))))))))))))))))))))))))))))))) (fun m ρ' B' H' => ∃ (k : Nat) (Ar : Option Addr) (cr : Nat), (k ≤ ms.length) ∧ m = ms.length - k ∧ ρ' = [(11, .slice Ar ((ms.take k).filter (fun x => !decide (x.t = rt))).length cr), (12, i64 k)] ∧ B2 = B' ∧ sbuf 36 4 Ar ((ms.take k).filter (fun x => !decide (x.t = rt))).length cr (((ms.take k).filter (fun x => !decide (x.t = rt))).flatMap rcs) * (row b8 36 (rcs ⟨rt, [], [], []⟩) * (row bs 52 [.slice A9 (addS ms ⟨rt, [], rlo, rhi⟩).length c9] * (sbuf 36 4 A9 (addS ms ⟨rt, [], rlo, rhi⟩).length c9 ((addS ms ⟨rt, [], rlo, rhi⟩).flatMap rcs) * R))) = H') ⟨0, _, _, Nat.zero_le _, rfl, rfl, rfl, rfl⟩ (Sub.cons (s := 11) rfl (Sub.cons (s := 12) rfl (Sub.cons (s := 0) rfl (Sub.cons (s := 1) rfl (Sub.cons (s := 5) rfl (Sub.cons (s := 6) rfl (Sub.cons (s := 7) rfl (Sub.cons (s := 8) rfl (Sub.cons (s := 9) rfl (Sub.cons (s := 10) rfl (Sub.cons (s := 21) rfl (Sub.cons (s := 22) rfl (Sub.cons (s := 23) rfl (Sub.cons (s := 24) rfl (Sub.cons (s := 25) rfl (Sub.cons (s := 26) rfl (Sub.cons (s := 27) rfl (Sub.cons (s := 28) rfl (Sub.cons (s := 29) rfl (Sub.cons (s := 30) rfl (Sub.cons (s := 31) rfl (Sub.cons (s := 34) rfl (Sub.cons (s := 35) rfl (Sub.cons (s := 36) rfl (Sub.cons (s := 37) rfl (Sub.cons (s := 38) rfl (Sub.cons (s := 39) rfl (Sub.cons (s := 40) rfl (Sub.cons (s := 41) rfl (Sub.cons (s := 80) rfl (Sub.cons (s := 81) rfl (Sub.cons (s := 82) rfl (Sub.cons (s := 83) rfl (Sub.cons (s := 84) rfl (Sub.cons (s := 85) rfl (Sub.cons (s := 86) rfl (Sub.cons (s := 87) rfl (Sub.cons (s := 88) rfl (Sub.cons (s := 89) rfl (Sub.cons (s := 90) rfl (Sub.cons (s := 91) rfl (Sub.nil _)))))))))))))))))))))))))))))))))))))))))) ?_
                rintro m ρ' B' H' ⟨k, Ar, cr, hk, rfl, rfl, rfl, rfl⟩
                refine Cx.seq (fun K32 k32 => ?_)
                refine Cx.seq (fun K33 k33 => ?_)
                refine Cx.region ?_
                refine Lx.y (mv rfl) rfl ?_
                refine Lx.y (mv rfl) rfl ?_
                refine Lx.y (lenV (ty' := 0) Tryd.underlying42 rfl) rfl ?_
                refine Lx.y (lss rfl rfl) rfl ?_
                refine Lx.nil ?_
                refine Xx.tn (k33 _ _ _ _ ?_)
                refine Cx.condD rfl (fun h34 => ?_) (fun h34 => ?_)
                · skip
                  have hkl := h34
                  have hkl : k < ms.length := by omega
                  have hks := keep_step (p := fun x => decide (x.t = rt)) hkl
                  obtain ⟨bm, om, csm, etm, fzm, rfl, hBm, hcm⟩ := flat_at rcs_len hm hkl
                  refine Cx.skip ?_
                  refine Xx.tn (k32 _ _ _ _ ?_)
                  refine Cx.seq (fun K35 k35 => ?_)
                  refine Cx.block ?_
                  refine Cx.seq (fun K36 k36 => ?_)
                  refine Cx.drawn (by kernel_rfl) ?_
                  refine Dx.p (i := 0) rfl (by kernel_rfl) (mv rfl) rfl ?_
                  refine Dx.p (i := 1) rfl (by kernel_rfl) (mv rfl) rfl ?_
                  refine Dx.p (i := 2) rfl (by kernel_rfl) (ia Tryd.underlying42 sz36 rfl rfl (by first | exact Int.toNat_natCast _ | rfl) (by omega) (by omega)) rfl ?_
                  refine Dx.p (i := 3) rfl (by kernel_rfl) (fa' fo36_0 rfl) rfl ?_
                  refine Dx.r (i := 4) rfl (by kernel_rfl) (ldB Tryd.underlying9 rfl rfl hBm (cell_of hcm 0 (by omega) rfl)) rfl ?_
                  refine Dx.p (i := 5) rfl (by kernel_rfl) (fa' fo36_0 rfl) rfl ?_
                  refine Dx.r (i := 6) rfl (by kernel_rfl) (ld Tryd.underlying9 rfl rfl rfl) rfl ?_
                  refine Dx.p (i := 7) rfl (by kernel_rfl) (neS rfl rfl) rfl ?_
                  refine Dx.done (by kernel_rfl) ?_
                  refine Xx.tn (k36 _ _ _ _ ?_)
                  refine Cx.condN rfl (fun h37 => ?_) (fun h37 => ?_)
                  · skip
                    have hne := h37
                    have hstep : (ms.take (k + 1)).filter (fun x => !decide (x.t = rt)) = (ms.take k).filter (fun x => !decide (x.t = rt)) ++ [ms[k]] := by rw [hks, if_neg (by simpa using hne)]
                    refine Cx.region ?_
                    refine Lx.y (mv rfl) rfl ?_
                    refine Lx.y (mv rfl) rfl ?_
                    refine Lx.y (mv rfl) rfl ?_
                    refine Lx.y (ia Tryd.underlying42 sz36 rfl rfl (by first | exact Int.toNat_natCast _ | rfl) (by omega) (by omega)) rfl ?_
                    refine Lx.y (ldA Tryd.underlying36 rfl sz36 rfl (Cells.base (n := 4) hBm hcm) rfl) rfl ?_
                    refine Lx.bsl (bslA Tryd.underlying42 ti36 rfl rfl (by decide)) rfl (fun bq => ?_)
                    refine Lx.o (appN (A := Ar) (((ms.take k).filter (fun x => !decide (x.t = rt)) ++ [ms[k]]).length) (rcs ms[k]) (((ms.take k).filter (fun x => !decide (x.t = rt)) ++ [ms[k]]).flatMap rcs) Tryd.underlying42 Tryd.underlying42 ti36 rfl rfl rfl rfl rfl (by have := List.length_filter_le (fun x : Rd => !decide (x.t = rt)) (ms.take k); rw [List.length_take] at this; omega) (by have := List.length_filter_le (fun x : Rd => !decide (x.t = rt)) (ms.take k); rw [List.length_take] at this; omega) (by rw [List.length_append]; rfl) (by simp)) rfl (fun v B' H' hΦ hB => ?_)
                    obtain ⟨A3, c3, rfl, hA3, hl3, hc3, hBB, rfl⟩ := hΦ
                    have hBB2 := hBB.symm
                    subst hBB2
                    clear hB
                    refine Lx.y (asg rfl) rfl ?_
                    refine Lx.nil ?_
                    refine Xx.bn ?_
                    refine Xx.tn (k35 _ _ _ _ ?_)
                    refine Cx.region ?_
                    refine Lx.y (mv rfl) rfl ?_
                    refine Lx.y (Yx.val (add rfl rfl (by first | exact wrap64 (by omega) (by omega) | rfl)) (show _ = i64 ((k + 1 : Nat) : Int) from rfl)) rfl ?_
                    refine Lx.y (asg rfl) rfl ?_
                    refine Lx.nil ?_
                    refine Xx.dropB bq ?_
                    exact Xx.againK ⟨k + 1, A3, c3, by omega, rfl, rfl, rfl, (by rw [hstep])⟩ (by omega) (Sub.consE (s := 11) rfl (by rw [hstep]) (Sub.cons (s := 12) rfl (Sub.cons (s := 0) rfl (Sub.cons (s := 1) rfl (Sub.cons (s := 5) rfl (Sub.cons (s := 6) rfl (Sub.cons (s := 7) rfl (Sub.cons (s := 8) rfl (Sub.cons (s := 9) rfl (Sub.cons (s := 10) rfl (Sub.cons (s := 21) rfl (Sub.cons (s := 22) rfl (Sub.cons (s := 23) rfl (Sub.cons (s := 24) rfl (Sub.cons (s := 25) rfl (Sub.cons (s := 26) rfl (Sub.cons (s := 27) rfl (Sub.cons (s := 28) rfl (Sub.cons (s := 29) rfl (Sub.cons (s := 30) rfl (Sub.cons (s := 31) rfl (Sub.cons (s := 34) rfl (Sub.cons (s := 35) rfl (Sub.cons (s := 36) rfl (Sub.cons (s := 37) rfl (Sub.cons (s := 38) rfl (Sub.cons (s := 39) rfl (Sub.cons (s := 40) rfl (Sub.cons (s := 41) rfl (Sub.cons (s := 80) rfl (Sub.cons (s := 81) rfl (Sub.cons (s := 82) rfl (Sub.cons (s := 83) rfl (Sub.cons (s := 84) rfl (Sub.cons (s := 85) rfl (Sub.cons (s := 86) rfl (Sub.cons (s := 87) rfl (Sub.cons (s := 88) rfl (Sub.cons (s := 89) rfl (Sub.cons (s := 90) rfl (Sub.cons (s := 91) rfl (Sub.nil _))))))))))))))))))))))))))))))))))))))))))
                  · skip
                    have hne := h37
                    have hstep : (ms.take (k + 1)).filter (fun x => !decide (x.t = rt)) = (ms.take k).filter (fun x => !decide (x.t = rt)) := by rw [hks, if_pos (by simpa using hne), List.append_nil]
                    refine Cx.skip ?_
                    refine Xx.bn ?_
                    refine Xx.tn (k35 _ _ _ _ ?_)
                    refine Cx.region ?_
                    refine Lx.y (mv rfl) rfl ?_
                    refine Lx.y (Yx.val (add rfl rfl (by first | exact wrap64 (by omega) (by omega) | rfl)) (show _ = i64 ((k + 1 : Nat) : Int) from rfl)) rfl ?_
                    refine Lx.y (asg rfl) rfl ?_
                    refine Lx.nil ?_
                    exact Xx.againK ⟨k + 1, _, _, by omega, rfl, rfl, rfl, (by rw [hstep])⟩ (by omega) (Sub.consE (s := 11) rfl (by rw [hstep]) (Sub.cons (s := 12) rfl (Sub.cons (s := 0) rfl (Sub.cons (s := 1) rfl (Sub.cons (s := 5) rfl (Sub.cons (s := 6) rfl (Sub.cons (s := 7) rfl (Sub.cons (s := 8) rfl (Sub.cons (s := 9) rfl (Sub.cons (s := 10) rfl (Sub.cons (s := 21) rfl (Sub.cons (s := 22) rfl (Sub.cons (s := 23) rfl (Sub.cons (s := 24) rfl (Sub.cons (s := 25) rfl (Sub.cons (s := 26) rfl (Sub.cons (s := 27) rfl (Sub.cons (s := 28) rfl (Sub.cons (s := 29) rfl (Sub.cons (s := 30) rfl (Sub.cons (s := 31) rfl (Sub.cons (s := 34) rfl (Sub.cons (s := 35) rfl (Sub.cons (s := 36) rfl (Sub.cons (s := 37) rfl (Sub.cons (s := 38) rfl (Sub.cons (s := 39) rfl (Sub.cons (s := 40) rfl (Sub.cons (s := 41) rfl (Sub.cons (s := 80) rfl (Sub.cons (s := 81) rfl (Sub.cons (s := 82) rfl (Sub.cons (s := 83) rfl (Sub.cons (s := 84) rfl (Sub.cons (s := 85) rfl (Sub.cons (s := 86) rfl (Sub.cons (s := 87) rfl (Sub.cons (s := 88) rfl (Sub.cons (s := 89) rfl (Sub.cons (s := 90) rfl (Sub.cons (s := 91) rfl (Sub.nil _))))))))))))))))))))))))))))))))))))))))))
                · skip
                  obtain rfl : k = ms.length := by have := h34; omega
                  rw [List.take_length] at *
                  refine Cx.exit ?_
                  refine Xx.te ?_
                  refine Xx.te ?_
                  refine Xx.bh ?_
                  refine Xx.tn (k30 _ _ _ _ ?_)
                  refine Cx.region ?_
                  refine Lx.y (mv rfl) rfl ?_
                  refine Lx.y (asg rfl) rfl ?_
                  refine Lx.nil ?_
                  refine Xx.freezeT Ar fun B5 hB5 hRo5 _ _ => ?_
                  exact Xx.mkK (⟨_, _, Ar, cr, B5, rfl, rfl, by rw [← hadd9], hRo5, hB5, List.length_filter_le _ _⟩) (Sub.cons (s := 6) rfl (Sub.cons (s := 0) rfl (Sub.cons (s := 1) rfl (Sub.cons (s := 5) rfl (Sub.cons (s := 7) rfl (Sub.cons (s := 8) rfl (Sub.cons (s := 9) rfl (Sub.cons (s := 10) rfl (Sub.cons (s := 21) rfl (Sub.cons (s := 22) rfl (Sub.cons (s := 23) rfl (Sub.cons (s := 24) rfl (Sub.cons (s := 25) rfl (Sub.cons (s := 26) rfl (Sub.cons (s := 27) rfl (Sub.cons (s := 28) rfl (Sub.cons (s := 29) rfl (Sub.cons (s := 30) rfl (Sub.cons (s := 31) rfl (Sub.cons (s := 34) rfl (Sub.cons (s := 35) rfl (Sub.cons (s := 36) rfl (Sub.cons (s := 37) rfl (Sub.cons (s := 38) rfl (Sub.cons (s := 39) rfl (Sub.cons (s := 40) rfl (Sub.cons (s := 41) rfl (Sub.cons (s := 80) rfl (Sub.cons (s := 81) rfl (Sub.cons (s := 82) rfl (Sub.cons (s := 83) rfl (Sub.cons (s := 84) rfl (Sub.cons (s := 85) rfl (Sub.nil _))))))))))))))))))))))))))))))))))
              · skip
                have hadd9 := addS_part hkn (show ¬ rf = [] from h27)
                refine Cx.skip ?_
                exact Xx.mkK (⟨ms, _, _, _, B2, rfl, rfl, by rw [← hadd9]; ac_rfl, hm, Frag.le_refl _, Nat.le_refl _⟩) (Sub.cons (s := 6) rfl (Sub.cons (s := 0) rfl (Sub.cons (s := 1) rfl (Sub.cons (s := 5) rfl (Sub.cons (s := 7) rfl (Sub.cons (s := 8) rfl (Sub.cons (s := 9) rfl (Sub.cons (s := 10) rfl (Sub.cons (s := 21) rfl (Sub.cons (s := 22) rfl (Sub.cons (s := 23) rfl (Sub.cons (s := 24) rfl (Sub.cons (s := 25) rfl (Sub.cons (s := 26) rfl (Sub.cons (s := 27) rfl (Sub.cons (s := 28) rfl (Sub.cons (s := 29) rfl (Sub.cons (s := 30) rfl (Sub.cons (s := 31) rfl (Sub.cons (s := 34) rfl (Sub.cons (s := 35) rfl (Sub.cons (s := 36) rfl (Sub.cons (s := 37) rfl (Sub.cons (s := 38) rfl (Sub.cons (s := 39) rfl (Sub.cons (s := 40) rfl (Sub.cons (s := 41) rfl (Sub.cons (s := 80) rfl (Sub.cons (s := 81) rfl (Sub.cons (s := 82) rfl (Sub.cons (s := 83) rfl (Sub.cons (s := 84) rfl (Sub.cons (s := 85) rfl (Sub.nil _))))))))))))))))))))))))))))))))))
            · rintro ρ' B' H' ⟨m2, r2, Am2, cm2, B4, rfl, rfl, rfl, hm2, hB4, hml2⟩
              refine Cx.drawn (by kernel_rfl) ?_
              refine Dx.p (i := 1) rfl (by kernel_rfl) (mv rfl) rfl ?_
              refine Dx.r (i := 3) rfl (by kernel_rfl) (ldA Tryd.underlying36 rfl sz36 rfl (Cells.own (n := 4) PickB.eq rfl) rfl) rfl ?_
              refine Dx.two (i := 0) (j := 4) (by kernel_rfl) ?_ ?_
              · skip
                refine Dstep.o (i := 0) rfl (bslZ Tryd.underlying42 ti36) rfl (fun v B' H' hΦ hB => ?_)
                obtain ⟨b1, rfl, hBB, rfl⟩ := hΦ
                have hBB2 := hBB.symm
                subst hBB2
                refine ⟨JOk.yes (JOk.top) (ldA Tryd.underlying36 rfl sz36 rfl (Cells.own (n := 4) PickB.eq rfl) rfl), ?_⟩
                refine Dx.two (i := 2) (j := 4) (by kernel_rfl) ?_ ?_
                · skip
                  refine Dstep.o (i := 2) rfl (appB (A := some ⟨b1, 0, none⟩) m2.length (m2.flatMap rcs) Tryd.underlying42 Tryd.underlying42 ti36 rfl rfl hm2 (flat_one m2) (by omega) (by omega) (by omega) rfl) rfl (fun v B' H' hΦ hB => ?_)
                  obtain ⟨A1, c1, rfl, hA1, hc1, hBB, rfl⟩ := hΦ
                  have hBB2 := hBB.symm
                  subst hBB2
                  refine ⟨JOk.yes (JOk.top) (ldA Tryd.underlying36 rfl sz36 rfl (Cells.own (n := 4) PickB.eq rfl) rfl), ?_⟩
                  refine Dx.one (i := 4) (by kernel_rfl) ?_
                  refine Dstep.o (i := 4) rfl (bslA Tryd.underlying42 ti36 rfl rfl (by decide)) rfl (fun v B' H' hΦ hB => ?_)
                  obtain ⟨bp, rfl, rfl, rfl⟩ := hΦ; clear hB
                  refine ⟨JOk.edge (JOk.top) (by kernel_rfl), ?_⟩
                  refine Dx.one (i := 5) (by kernel_rfl) ?_
                  refine Dstep.o (i := 5) rfl (appN (A := A1) (m2.length + 1) (rcs r2) ((m2 ++ [r2]).flatMap rcs) Tryd.underlying42 Tryd.underlying42 ti36 rfl rfl rfl rfl rfl (by omega) (by omega) rfl (by simp)) rfl (fun v B' H' hΦ hB => ?_)
                  obtain ⟨A2, c2, rfl, hA2, hl2, hc2, hBB, rfl⟩ := hΦ
                  have hBB2 := hBB.symm
                  subst hBB2
                  refine ⟨JOk.yes (JOk.top) (ldA Tryd.underlying36 rfl sz36 rfl (Cells.own (n := 4) PickB.eq rfl) rfl), ?_⟩
                  refine Dx.p (i := 6) rfl (by kernel_rfl) (asg rfl) rfl ?_
                  refine Dx.done (by kernel_rfl) ?_
                  refine Xx.bn ?_
                  refine Xx.tn (k8 _ _ _ _ ?_)
                  refine Cx.region ?_
                  refine Lx.y (mv rfl) rfl ?_
                  refine Lx.y (Yx.val (add rfl rfl (by first | exact wrap64 (by omega) (by omega) | rfl)) (show _ = i64 ((i + 1 : Nat) : Int) from rfl)) rfl ?_
                  refine Lx.y (asg rfl) rfl ?_
                  refine Lx.nil ?_
                  refine Xx.dropB bp (Xx.dropB b8 (Xx.freezeT A2 fun B5 hB5 hRo5 hnc5 _ => ?_))
                  exact Xx.againK ⟨i + 1, m2 ++ [r2], A9, A2, c9, _, B5, ⟨by omega, by rw [List.length_append, List.length_singleton]; omega, by rw [List.length_append]; exact hRo5, Frag.le_trans hB2 (Frag.le_trans hB4 hB5)⟩, rfl, rfl, rfl, (by ac_rfl)⟩ (by omega) (Sub.consE (s := 6) rfl (by rw [List.length_append]; rfl) (Sub.cons (s := 7) rfl (Sub.cons (s := 0) rfl (Sub.cons (s := 1) rfl (Sub.cons (s := 5) rfl (Sub.cons (s := 21) rfl (Sub.cons (s := 22) rfl (Sub.cons (s := 23) rfl (Sub.nil _)))))))))
                refine Dstep.o (i := 4) rfl (bslA Tryd.underlying42 ti36 rfl rfl (by decide)) rfl (fun v B' H' hΦ hB => ?_)
                obtain ⟨bp, rfl, rfl, rfl⟩ := hΦ; clear hB
                refine ⟨JOk.edge (JOk.top) (by kernel_rfl), ?_⟩
                refine Dx.one (i := 2) (by kernel_rfl) ?_
                refine Dstep.o (i := 2) rfl (appB (A := some ⟨b1, 0, none⟩) m2.length (m2.flatMap rcs) Tryd.underlying42 Tryd.underlying42 ti36 rfl rfl hm2 (flat_one m2) (by omega) (by omega) (by omega) rfl) rfl (fun v B' H' hΦ hB => ?_)
                obtain ⟨A1, c1, rfl, hA1, hc1, hBB, rfl⟩ := hΦ
                have hBB2 := hBB.symm
                subst hBB2
                refine ⟨JOk.yes (JOk.top) (ldA Tryd.underlying36 rfl sz36 rfl (Cells.own (n := 4) PickB.eq rfl) rfl), ?_⟩
                refine Dx.one (i := 5) (by kernel_rfl) ?_
                refine Dstep.o (i := 5) rfl (appN (A := A1) (m2.length + 1) (rcs r2) ((m2 ++ [r2]).flatMap rcs) Tryd.underlying42 Tryd.underlying42 ti36 rfl rfl rfl rfl rfl (by omega) (by omega) rfl (by simp)) rfl (fun v B' H' hΦ hB => ?_)
                obtain ⟨A2, c2, rfl, hA2, hl2, hc2, hBB, rfl⟩ := hΦ
                have hBB2 := hBB.symm
                subst hBB2
                refine ⟨JOk.yes (JOk.top) (ldA Tryd.underlying36 rfl sz36 rfl (Cells.own (n := 4) PickB.eq rfl) rfl), ?_⟩
                refine Dx.p (i := 6) rfl (by kernel_rfl) (asg rfl) rfl ?_
                refine Dx.done (by kernel_rfl) ?_
                refine Xx.bn ?_
                refine Xx.tn (k8 _ _ _ _ ?_)
                refine Cx.region ?_
                refine Lx.y (mv rfl) rfl ?_
                refine Lx.y (Yx.val (add rfl rfl (by first | exact wrap64 (by omega) (by omega) | rfl)) (show _ = i64 ((i + 1 : Nat) : Int) from rfl)) rfl ?_
                refine Lx.y (asg rfl) rfl ?_
                refine Lx.nil ?_
                refine Xx.dropB bp (Xx.dropB b8 (Xx.freezeT A2 fun B5 hB5 hRo5 hnc5 _ => ?_))
                exact Xx.againK ⟨i + 1, m2 ++ [r2], A9, A2, c9, _, B5, ⟨by omega, by rw [List.length_append, List.length_singleton]; omega, by rw [List.length_append]; exact hRo5, Frag.le_trans hB2 (Frag.le_trans hB4 hB5)⟩, rfl, rfl, rfl, (by ac_rfl)⟩ (by omega) (Sub.consE (s := 6) rfl (by rw [List.length_append]; rfl) (Sub.cons (s := 7) rfl (Sub.cons (s := 0) rfl (Sub.cons (s := 1) rfl (Sub.cons (s := 5) rfl (Sub.cons (s := 21) rfl (Sub.cons (s := 22) rfl (Sub.cons (s := 23) rfl (Sub.nil _)))))))))
              refine Dstep.o (i := 4) rfl (bslA Tryd.underlying42 ti36 rfl rfl (by decide)) rfl (fun v B' H' hΦ hB => ?_)
              obtain ⟨bp, rfl, rfl, rfl⟩ := hΦ; clear hB
              refine ⟨JOk.edge (JOk.top) (by kernel_rfl), ?_⟩
              refine Dx.one (i := 0) (by kernel_rfl) ?_
              refine Dstep.o (i := 0) rfl (bslZ Tryd.underlying42 ti36) rfl (fun v B' H' hΦ hB => ?_)
              obtain ⟨b1, rfl, hBB, rfl⟩ := hΦ
              have hBB2 := hBB.symm
              subst hBB2
              refine ⟨JOk.yes (JOk.top) (ldA Tryd.underlying36 rfl sz36 rfl (Cells.own (n := 4) PickB.eq rfl) rfl), ?_⟩
              refine Dx.one (i := 2) (by kernel_rfl) ?_
              refine Dstep.o (i := 2) rfl (appB (A := some ⟨b1, 0, none⟩) m2.length (m2.flatMap rcs) Tryd.underlying42 Tryd.underlying42 ti36 rfl rfl hm2 (flat_one m2) (by omega) (by omega) (by omega) rfl) rfl (fun v B' H' hΦ hB => ?_)
              obtain ⟨A1, c1, rfl, hA1, hc1, hBB, rfl⟩ := hΦ
              have hBB2 := hBB.symm
              subst hBB2
              refine ⟨JOk.yes (JOk.top) (ldA Tryd.underlying36 rfl sz36 rfl (Cells.own (n := 4) PickB.eq rfl) rfl), ?_⟩
              refine Dx.one (i := 5) (by kernel_rfl) ?_
              refine Dstep.o (i := 5) rfl (appN (A := A1) (m2.length + 1) (rcs r2) ((m2 ++ [r2]).flatMap rcs) Tryd.underlying42 Tryd.underlying42 ti36 rfl rfl rfl rfl rfl (by omega) (by omega) rfl (by simp)) rfl (fun v B' H' hΦ hB => ?_)
              obtain ⟨A2, c2, rfl, hA2, hl2, hc2, hBB, rfl⟩ := hΦ
              have hBB2 := hBB.symm
              subst hBB2
              refine ⟨JOk.yes (JOk.top) (ldA Tryd.underlying36 rfl sz36 rfl (Cells.own (n := 4) PickB.eq rfl) rfl), ?_⟩
              refine Dx.p (i := 6) rfl (by kernel_rfl) (asg rfl) rfl ?_
              refine Dx.done (by kernel_rfl) ?_
              refine Xx.bn ?_
              refine Xx.tn (k8 _ _ _ _ ?_)
              refine Cx.region ?_
              refine Lx.y (mv rfl) rfl ?_
              refine Lx.y (Yx.val (add rfl rfl (by first | exact wrap64 (by omega) (by omega) | rfl)) (show _ = i64 ((i + 1 : Nat) : Int) from rfl)) rfl ?_
              refine Lx.y (asg rfl) rfl ?_
              refine Lx.nil ?_
              refine Xx.dropB bp (Xx.dropB b8 (Xx.freezeT A2 fun B5 hB5 hRo5 hnc5 _ => ?_))
              exact Xx.againK ⟨i + 1, m2 ++ [r2], A9, A2, c9, _, B5, ⟨by omega, by rw [List.length_append, List.length_singleton]; omega, by rw [List.length_append]; exact hRo5, Frag.le_trans hB2 (Frag.le_trans hB4 hB5)⟩, rfl, rfl, rfl, (by ac_rfl)⟩ (by omega) (Sub.consE (s := 6) rfl (by rw [List.length_append]; rfl) (Sub.cons (s := 7) rfl (Sub.cons (s := 0) rfl (Sub.cons (s := 1) rfl (Sub.cons (s := 5) rfl (Sub.cons (s := 21) rfl (Sub.cons (s := 22) rfl (Sub.cons (s := 23) rfl (Sub.nil _)))))))))
      · skip
        have h2 := h7
        refine Cx.exit ?_
        refine Xx.te ?_
        refine Xx.te ?_
        refine Xx.bh ?_
        exact Xx.mkK (⟨ms, A, Am, c, cm, B2, rfl, rfl, rfl, by omega, hm, hB2⟩) (Sub.cons (s := 6) rfl (Sub.cons (s := 0) rfl (Sub.cons (s := 1) rfl (Sub.cons (s := 5) rfl (Sub.cons (s := 21) rfl (Sub.cons (s := 22) rfl (Sub.cons (s := 23) rfl (Sub.nil _))))))))
    · skip
      have h1 := h6
      refine Lx.gF rfl rfl rfl rfl ?_
      refine Lx.gF rfl rfl rfl rfl ?_
      refine Lx.y (pickF rfl rfl) rfl ?_
      refine Lx.nil ?_
      refine Xx.tn (k5 _ _ _ _ ?_)
      refine Cx.condF rfl ?_
      refine Cx.exit ?_
      refine Xx.te ?_
      refine Xx.te ?_
      refine Xx.bh ?_
      exact Xx.mkK (⟨ms, A, Am, c, cm, B2, rfl, rfl, rfl, by omega, hm, hB2⟩) (Sub.cons (s := 6) rfl (Sub.cons (s := 0) rfl (Sub.cons (s := 1) rfl (Sub.cons (s := 5) rfl (Sub.cons (s := 21) rfl (Sub.cons (s := 22) rfl (Sub.cons (s := 23) rfl (Sub.nil _))))))))
  · rintro ρ' B' H' ⟨ms, A, Am, c, cm, B2, rfl, rfl, rfl, hml, hm, hB2⟩
    refine Xx.freezeB bs fun B3 hB3 hbs => ?_
    refine Xx.freezeT A fun B4 hB4 hRs hnc4 _ => ?_
    have hbs := hB4 _ _ hbs
    have hm := (hm.mono hB3).mono hB4
    have hB4 := Frag.le_trans hB2 (Frag.le_trans hB3 hB4)
    clear hB3 hB2
    refine Cx.seq (fun K38 k38 => ?_)
    refine Cx.region ?_
    refine Lx.y (mv rfl) rfl ?_
    refine Lx.cb rfl rfl rfl (Clone_ct ms A c bs (0, 0) _ hbs hRs (by omega)) rfl ?_
    rintro v5 B5 ⟨b6, A6, c6, rfl, hb6, hR6⟩ hB5
    refine Lx.cb rfl rfl rfl (All_ct ms A6 c6 b6 (0, 0) _ hb6 hR6 (by omega)) rfl ?_
    rintro v7 B7 ⟨A7, c7, rfl, hR7⟩ hB7
    have hB7 := Frag.le_trans hB5 hB7
    have hM7 := hM.mono (Frag.le_trans hB4 hB7)
    refine Lx.y (asg rfl) rfl ?_
    refine Lx.nil ?_
    refine Xx.tn (k38 _ _ _ _ ?_)
    refine Cx.seq (fun K41 k41 => ?_)
    refine Cx.seq (fun K42 k42 => ?_)
    refine Cx.region ?_
    refine Lx.cb rfl rfl rfl (awake_ct _ hM7) rfl ?_
    rintro v8 B8 rfl hB8
    have hM8 := hM7.mono hB8
    have hR7 := hR7.mono hB8
    have hB78 := Frag.le_trans hB7 hB8
    have hm := hm.mono hB78
    have hbs := hB78 _ _ hbs
    have hRs := hRs.mono hB78
    have hB8 := Frag.le_trans hB4 hB78
    clear hB78 hB4
    refine Lx.y (not' rfl) rfl ?_
    refine Lx.y (mv rfl) rfl ?_
    refine Lx.gT rfl rfl rfl ?_
    refine Lx.y (mv rfl) rfl ?_
    refine Lx.gT rfl rfl rfl ?_
    refine Lx.y (lenV (ty' := 0) Tryd.underlying42 rfl) rfl ?_
    refine Lx.gT rfl rfl rfl ?_
    refine Lx.y (mv rfl) rfl ?_
    refine Lx.gT rfl rfl rfl ?_
    refine Lx.y (lenV (ty' := 0) Tryd.underlying42 rfl) rfl ?_
    refine Lx.gT rfl rfl rfl ?_
    refine Lx.y (Yx.ff (neI rfl rfl) (by simp)) rfl ?_
    refine Lx.y (pickF rfl rfl) rfl ?_
    refine Lx.nil ?_
    refine Xx.tn (k42 _ _ _ _ ?_)
    refine Cx.condF rfl ?_
    refine Cx.skip ?_
    refine Xx.tn (k41 _ _ _ _ ?_)
    refine Cx.seq (fun K44 k44 => ?_)
    refine Cx.seq (fun K45 k45 => ?_)
    refine Cx.region ?_
    refine Lx.y (asg rfl) rfl ?_
    refine Lx.nil ?_
    refine Xx.tn (k45 _ _ _ _ ?_)
    refine Cx.block ?_
    refine Cx.loopK (Sub.cons (s := 0) rfl (Sub.cons (s := 1) rfl (Sub.cons (s := 5) rfl (Sub.cons (s := 6) rfl (Sub.cons (s := 13) rfl (Sub.cons (s := 21) rfl (Sub.cons (s := 22) rfl (Sub.cons (s := 23) rfl (Sub.cons (s := 120) rfl (Sub.cons (s := 121) rfl (Sub.cons (s := 122) rfl (Sub.cons (s := 123) rfl (Sub.cons (s := 124) rfl (Sub.cons (s := 125) rfl (Sub.cons (s := 126) rfl (Sub.cons (s := 127) rfl (Sub.cons (s := 128) rfl (Sub.cons (s := 129) rfl (Sub.cons (s := 130) rfl (Sub.cons (s := 131) rfl (Sub.nil _))))))))))))))))))))) (fun m ρ' B' H' => ∃ (i : Nat), (i ≤ ms.length) ∧ m = ms.length - i ∧ ρ' = [(14, i64 i)] ∧ B8 = B' ∧ R = H') ⟨0, Nat.zero_le _, rfl, rfl, rfl, rfl⟩ (Sub.cons (s := 14) rfl (Sub.cons (s := 0) rfl (Sub.cons (s := 1) rfl (Sub.cons (s := 5) rfl (Sub.cons (s := 6) rfl (Sub.cons (s := 13) rfl (Sub.cons (s := 21) rfl (Sub.cons (s := 22) rfl (Sub.cons (s := 23) rfl (Sub.cons (s := 120) rfl (Sub.cons (s := 121) rfl (Sub.cons (s := 122) rfl (Sub.cons (s := 123) rfl (Sub.cons (s := 124) rfl (Sub.cons (s := 125) rfl (Sub.cons (s := 126) rfl (Sub.cons (s := 127) rfl (Sub.cons (s := 128) rfl (Sub.cons (s := 129) rfl (Sub.cons (s := 130) rfl (Sub.cons (s := 131) rfl (Sub.nil _)))))))))))))))))))))) ?_
    rintro m ρ' B' H' ⟨i, hi, rfl, rfl, rfl, rfl⟩
    refine Cx.seq (fun K46 k46 => ?_)
    refine Cx.seq (fun K47 k47 => ?_)
    refine Cx.region ?_
    refine Lx.y (mv rfl) rfl ?_
    refine Lx.y (mv rfl) rfl ?_
    refine Lx.y (lenV (ty' := 0) Tryd.underlying42 rfl) rfl ?_
    refine Lx.y (lss rfl rfl) rfl ?_
    refine Lx.nil ?_
    refine Xx.tn (k47 _ _ _ _ ?_)
    refine Cx.condD rfl (fun h48 => ?_) (fun h48 => ?_)
    · skip
      have hkl := h48
      have hkl : i < ms.length := by omega
      obtain ⟨bm, om, csm, etm, fzm, rfl, hBm, hcm⟩ := flat_at rcs_len hm hkl
      obtain ⟨bn, on, csn, etn, fzn, rfl, hBn, hcn⟩ := flat_at rcs_len hR7 hkl
      refine Cx.skip ?_
      refine Xx.tn (k46 _ _ _ _ ?_)
      refine Cx.seq (fun K49 k49 => ?_)
      refine Cx.block ?_
      refine Cx.seq (fun K50 k50 => ?_)
      refine Cx.drawn (by kernel_rfl) ?_
      refine Dx.p (i := 0) rfl (by kernel_rfl) (mv rfl) rfl ?_
      refine Dx.p (i := 1) rfl (by kernel_rfl) (mv rfl) rfl ?_
      refine Dx.p (i := 2) rfl (by kernel_rfl) (ia Tryd.underlying42 sz36 rfl rfl (by first | exact Int.toNat_natCast _ | rfl) (by omega) (by omega)) rfl ?_
      refine Dx.r (i := 3) rfl (by kernel_rfl) (ldA Tryd.underlying36 rfl sz36 rfl (Cells.base (n := 4) hBn hcn) rfl) rfl ?_
      refine Dx.p (i := 4) rfl (by kernel_rfl) (mv rfl) rfl ?_
      refine Dx.p (i := 5) rfl (by kernel_rfl) (mv rfl) rfl ?_
      refine Dx.p (i := 6) rfl (by kernel_rfl) (ia Tryd.underlying42 sz36 rfl rfl (by first | exact Int.toNat_natCast _ | rfl) (by omega) (by omega)) rfl ?_
      refine Dx.r (i := 7) rfl (by kernel_rfl) (ldA Tryd.underlying36 rfl sz36 rfl (Cells.base (n := 4) hBm hcm) rfl) rfl ?_
      refine Dx.p (i := 8) rfl (by kernel_rfl) (Yx.ff (neR ms[i] ms[i] Tryd.underlying36 Tryd.underlying9 Tryd.underlying9 Tryd.underlying34 Tryd.underlying9 Tryd.underlying9 (by decide) (by decide) (by decide) (by decide) (by decide) rfl rfl rfl rfl rfl sz34 (by kernel_rfl) (by kernel_rfl) (by kernel_rfl) rfl rfl) (by rw [eqRd_iff.2 rfl]; rfl)) rfl ?_
      refine Dx.done (by kernel_rfl) ?_
      refine Xx.tn (k50 _ _ _ _ ?_)
      refine Cx.condF rfl ?_
      refine Cx.skip ?_
      refine Xx.bn ?_
      refine Xx.tn (k49 _ _ _ _ ?_)
      refine Cx.region ?_
      refine Lx.y (mv rfl) rfl ?_
      refine Lx.y (Yx.val (add rfl rfl (by first | exact wrap64 (by omega) (by omega) | rfl)) (show _ = i64 ((i + 1 : Nat) : Int) from rfl)) rfl ?_
      refine Lx.y (asg rfl) rfl ?_
      refine Lx.nil ?_
      exact Xx.againK ⟨i + 1, by omega, rfl, rfl, rfl, rfl⟩ (by omega) (Sub.cons (s := 14) rfl (Sub.cons (s := 0) rfl (Sub.cons (s := 1) rfl (Sub.cons (s := 5) rfl (Sub.cons (s := 6) rfl (Sub.cons (s := 13) rfl (Sub.cons (s := 21) rfl (Sub.cons (s := 22) rfl (Sub.cons (s := 23) rfl (Sub.cons (s := 120) rfl (Sub.cons (s := 121) rfl (Sub.cons (s := 122) rfl (Sub.cons (s := 123) rfl (Sub.cons (s := 124) rfl (Sub.cons (s := 125) rfl (Sub.cons (s := 126) rfl (Sub.cons (s := 127) rfl (Sub.cons (s := 128) rfl (Sub.cons (s := 129) rfl (Sub.cons (s := 130) rfl (Sub.cons (s := 131) rfl (Sub.nil _))))))))))))))))))))))
    · skip
      have hend := h48
      refine Cx.exit ?_
      refine Xx.te ?_
      refine Xx.te ?_
      refine Xx.bh ?_
      refine Xx.tn (k44 _ _ _ _ ?_)
      refine Cx.seq (fun K51 k51 => ?_)
      refine Cx.region ?_
      refine Lx.o (bslZ Tryd.underlying45 ti30) rfl (fun v B' H' hΦ hB => ?_)
      obtain ⟨b2, rfl, hBB, rfl⟩ := hΦ
      have hBB2 := hBB.symm
      subst hBB2
      clear hB
      refine Lx.y (asg rfl) rfl ?_
      refine Lx.y (asg rfl) rfl ?_
      refine Lx.nil ?_
      refine Xx.tn (k51 _ _ _ _ ?_)
      refine Cx.cutK (ds' := []) (Sub.cons (s := 0) rfl (Sub.cons (s := 1) rfl (Sub.cons (s := 5) rfl (Sub.cons (s := 6) rfl (Sub.cons (s := 13) rfl (Sub.cons (s := 14) rfl (Sub.cons (s := 21) rfl (Sub.cons (s := 22) rfl (Sub.cons (s := 23) rfl (Sub.cons (s := 120) rfl (Sub.cons (s := 121) rfl (Sub.cons (s := 122) rfl (Sub.cons (s := 123) rfl (Sub.cons (s := 124) rfl (Sub.cons (s := 125) rfl (Sub.cons (s := 126) rfl (Sub.cons (s := 127) rfl (Sub.cons (s := 128) rfl (Sub.cons (s := 129) rfl (Sub.cons (s := 130) rfl (Sub.cons (s := 131) rfl (Sub.cons (s := 132) rfl (Sub.cons (s := 133) rfl (Sub.cons (s := 134) rfl (Sub.cons (s := 135) rfl (Sub.cons (s := 147) rfl (Sub.nil _))))))))))))))))))))))))))) (fun ρ' B' H' => ∃ (ts : List Tc) (At : Option Addr) (ct : Nat) (want : Bool) (B9 : Frag), ρ' = [(15, .slice At ts.length ct), (16, .bool want)] ∧ B9 = B' ∧ sbuf 30 16 At ts.length ct (ts.flatMap tcc) * R = H' ∧ want = ts.any (fun t => ms.any (fun x => hitsB 7 x t.tb t.sh t.vo t.vn t.was t.is)) ∧ ts.length ≤ 10 ∧ (∀ t ∈ ts, GoodV B9 7 t.vo (vcs t.vo t.A1 t.c1 t.N1 t.d1) ∧ GoodV B9 7 t.vn (vcs t.vn t.A2 t.c2 t.N2 t.d2)) ∧ B8.le B9) ?_ ?_
      · skip
        refine Cx.seq (fun K52 k52 => ?_)
        refine Cx.region ?_
        refine Lx.y (asg rfl) rfl ?_
        refine Lx.nil ?_
        refine Xx.tn (k52 _ _ _ _ ?_)
        refine Cx.block ?_
        refine Cx.loopK (Sub.cons (s := 0) rfl (Sub.cons (s := 1) rfl (Sub.cons (s := 5) rfl (Sub.cons (s := 6) rfl (Sub.cons (s := 13) rfl (Sub.cons (s := 14) rfl (Sub.cons (s := 21) rfl (Sub.cons (s := 22) rfl (Sub.cons (s := 23) rfl (Sub.cons (s := 120) rfl (Sub.cons (s := 121) rfl (Sub.cons (s := 122) rfl (Sub.cons (s := 123) rfl (Sub.cons (s := 124) rfl (Sub.cons (s := 125) rfl (Sub.cons (s := 126) rfl (Sub.cons (s := 127) rfl (Sub.cons (s := 128) rfl (Sub.cons (s := 129) rfl (Sub.cons (s := 130) rfl (Sub.cons (s := 131) rfl (Sub.cons (s := 132) rfl (Sub.cons (s := 133) rfl (Sub.cons (s := 134) rfl (Sub.cons (s := 135) rfl (Sub.cons (s := 147) rfl (Sub.nil _))))))))))))))))))))))))))) (fun m ρ' B' H' => ∃ (i : Nat) (ts : List Tc) (At : Option Addr) (ct : Nat) (want : Bool) (B9 : Frag), (i ≤ 10 ∧ ts.length ≤ i ∧ want = ts.any (fun t => ms.any (fun x => hitsB 7 x t.tb t.sh t.vo t.vn t.was t.is)) ∧ (∀ t ∈ ts, GoodV B9 7 t.vo (vcs t.vo t.A1 t.c1 t.N1 t.d1) ∧ GoodV B9 7 t.vn (vcs t.vn t.A2 t.c2 t.N2 t.d2)) ∧ B8.le B9) ∧ m = 10 - i ∧ ρ' = [(15, .slice At ts.length ct), (16, .bool want), (17, i64 i)] ∧ B9 = B' ∧ sbuf 30 16 At ts.length ct (ts.flatMap tcc) * R = H') ⟨0, [], _, _, false, _, ⟨Nat.zero_le _, Nat.zero_le _, rfl, fun t h => by simp at h, Frag.le_refl _⟩, rfl, rfl, rfl, rfl⟩ (Sub.cons (s := 15) rfl (Sub.cons (s := 16) rfl (Sub.cons (s := 17) rfl (Sub.cons (s := 0) rfl (Sub.cons (s := 1) rfl (Sub.cons (s := 5) rfl (Sub.cons (s := 6) rfl (Sub.cons (s := 13) rfl (Sub.cons (s := 14) rfl (Sub.cons (s := 21) rfl (Sub.cons (s := 22) rfl (Sub.cons (s := 23) rfl (Sub.cons (s := 120) rfl (Sub.cons (s := 121) rfl (Sub.cons (s := 122) rfl (Sub.cons (s := 123) rfl (Sub.cons (s := 124) rfl (Sub.cons (s := 125) rfl (Sub.cons (s := 126) rfl (Sub.cons (s := 127) rfl (Sub.cons (s := 128) rfl (Sub.cons (s := 129) rfl (Sub.cons (s := 130) rfl (Sub.cons (s := 131) rfl (Sub.cons (s := 132) rfl (Sub.cons (s := 133) rfl (Sub.cons (s := 134) rfl (Sub.cons (s := 135) rfl (Sub.cons (s := 147) rfl (Sub.nil _)))))))))))))))))))))))))))))) ?_
        rintro m ρ' B' H' ⟨i, ts, At, ct, want, B9, ⟨hi, htl, hwt, hG, hB9⟩, rfl, rfl, rfl, rfl⟩
        refine Cx.seq (fun K53 k53 => ?_)
        refine Cx.seq (fun K54 k54 => ?_)
        refine Cx.region ?_
        refine Lx.y (mv rfl) rfl ?_
        refine Lx.y (mv rfl) rfl ?_
        refine Lx.y (lenV (ty' := 0) Tryd.underlying45 rfl) rfl ?_
        refine Lx.y (lss rfl rfl) rfl ?_
        refine Lx.y (mv rfl) rfl ?_
        refine Xx.ifD (t := 152) rfl (fun h55 => ?_) (fun h55 => ?_)
        · skip
          have h1 := h55
          refine Lx.gT rfl rfl rfl ?_
          refine Lx.y (mv rfl) rfl ?_
          refine Lx.gT rfl rfl rfl ?_
          refine Lx.y (lss rfl rfl) rfl ?_
          refine Lx.y (pickT rfl rfl) rfl ?_
          refine Lx.nil ?_
          refine Xx.tn (k54 _ _ _ _ ?_)
          refine Cx.condD rfl (fun h56 => ?_) (fun h56 => ?_)
          · skip
            have h2 := h56
            have hil : i < tl.length := by omega
            obtain ⟨bl, ol, csl, etl, fzl, rfl, hBl, hcl⟩ := flat_at (fun x => (show (tcc x).length = 16 from rfl)) ((hT (by omega)).mono (Frag.le_trans hB8 hB9)) hil
            obtain ⟨dv, hv1, hv2⟩ := hV _ (List.getElem_mem hil)
            obtain ⟨tq, htq⟩ : ∃ r, r = tl[i] := ⟨_, rfl⟩
            rw [← htq] at hcl hv1 hv2
            have hcut := cut_ct tq.tb tq.sh tq.was tq.is tq.vo tq.vn _ _ dv dv B9 (ValR.mono (Frag.le_trans hB8 hB9) hv1) (ValR.mono (Frag.le_trans hB8 hB9) hv2)
            refine Cx.skip ?_
            refine Xx.tn (k53 _ _ _ _ ?_)
            refine Cx.seq (fun K57 k57 => ?_)
            refine Cx.block ?_
            refine Cx.seq (fun K58 k58 => ?_)
            refine Cx.region ?_
            refine Lx.y (mv rfl) rfl ?_
            refine Lx.y (mv rfl) rfl ?_
            refine Lx.y (ia Tryd.underlying45 sz30 rfl rfl (by first | exact Int.toNat_natCast _ | rfl) (by omega) (by omega)) rfl ?_
            refine Lx.y (ldA Tryd.underlying30 rfl sz30 rfl (Cells.base (n := 16) hBl hcl) rfl) rfl ?_
            refine Lx.cb rfl rfl rfl (hcut) rfl ?_
            rintro v2 B10 ⟨co2, cn2, rfl, hw3, hw4⟩ hB10
            obtain ⟨Ap3, cp3, An3, cn3, rfl⟩ := ValR.shape hw3
            obtain ⟨Ap4, cp4, An4, cn4, rfl⟩ := ValR.shape hw4
            refine Lx.y (mv rfl) rfl ?_
            refine Lx.y (ext rfl rfl) rfl ?_
            refine Lx.y (ext rfl rfl) rfl ?_
            refine Lx.new (allocO ti30) rfl (fun bt => ?_)
            refine Lx.st (stA (d := .bool) (cs' := tcs tq.tb tq.sh (vcs (cutF 3 4 tq.vo) Ap3 cp3 An3 cn3) (vcs (cutF 3 4 tq.vn) Ap4 cp4 An4 cn4) tq.was tq.is) sz30 rfl rfl rfl rfl (by show 0 + 16 ≤ 16; omega) rfl) ?_
            refine Lx.y (asg rfl) rfl ?_
            refine Lx.nil ?_
            refine Xx.tn (k58 _ _ _ _ ?_)
            refine Cx.seq (fun K60 k60 => ?_)
            refine Cx.seq (fun K61 k61 => ?_)
            refine Cx.region ?_
            refine Lx.y (mv rfl) rfl ?_
            refine Lx.y (not' rfl) rfl ?_
            refine Lx.nil ?_
            refine Xx.tn (k61 _ _ _ _ ?_)
            refine Cx.condB rfl (fun h62 => ?_) (fun h62 => ?_)
            · skip
              refine Cx.exit ?_
              refine Xx.te ?_
              refine Xx.bh ?_
              refine Xx.tn (k57 _ _ _ _ ?_)
              refine Cx.region ?_
              refine Lx.y (mv rfl) rfl ?_
              refine Lx.y (Yx.val (add rfl rfl (by first | exact wrap64 (by omega) (by omega) | rfl)) (show _ = i64 ((i + 1 : Nat) : Int) from rfl)) rfl ?_
              refine Lx.y (asg rfl) rfl ?_
              refine Lx.nil ?_
              refine Xx.dropB bt ?_
              exact Xx.againK ⟨i + 1, ts, _, _, _, _, ⟨by omega, by omega, hwt, fun t h => ⟨(hG t h).1.mono hB10, (hG t h).2.mono hB10⟩, Frag.le_trans hB9 hB10⟩, rfl, rfl, rfl, rfl⟩ (by omega) (Sub.cons (s := 15) rfl (Sub.cons (s := 16) rfl (Sub.cons (s := 17) rfl (Sub.cons (s := 0) rfl (Sub.cons (s := 1) rfl (Sub.cons (s := 5) rfl (Sub.cons (s := 6) rfl (Sub.cons (s := 13) rfl (Sub.cons (s := 14) rfl (Sub.cons (s := 21) rfl (Sub.cons (s := 22) rfl (Sub.cons (s := 23) rfl (Sub.cons (s := 120) rfl (Sub.cons (s := 121) rfl (Sub.cons (s := 122) rfl (Sub.cons (s := 123) rfl (Sub.cons (s := 124) rfl (Sub.cons (s := 125) rfl (Sub.cons (s := 126) rfl (Sub.cons (s := 127) rfl (Sub.cons (s := 128) rfl (Sub.cons (s := 129) rfl (Sub.cons (s := 130) rfl (Sub.cons (s := 131) rfl (Sub.cons (s := 132) rfl (Sub.cons (s := 133) rfl (Sub.cons (s := 134) rfl (Sub.cons (s := 135) rfl (Sub.cons (s := 147) rfl (Sub.nil _))))))))))))))))))))))))))))))
            · skip
              have hz : (decide (CheckF 9 (cutF 3 4 tq.vo) = 0) && decide (CheckF 9 (cutF 3 4 tq.vn) = 0)) = true := by simpa using h62
              rw [Bool.and_eq_true] at hz
              have hz1 := of_decide_eq_true hz.1
              have hz2 := of_decide_eq_true hz.2
              clear hz h62
              have hgo : GoodV B10 7 (cutF 3 4 tq.vo) _ := ⟨hw3, (CheckF_zero hz1).1, (CheckF_zero hz1).2⟩
              have hgn : GoodV B10 7 (cutF 3 4 tq.vn) _ := ⟨hw4, (CheckF_zero hz2).1, (CheckF_zero hz2).2⟩
              have hfo : Few (7 + 2) (cutF 3 4 tq.vo) := cutF_few _ _ _ _ (by decide)
              have hfn : Few (7 + 2) (cutF 3 4 tq.vn) := cutF_few _ _ _ _ (by decide)
              obtain ⟨tn, htn⟩ : ∃ t, t = (⟨tq.tb, tq.sh, tq.was, tq.is, cutF 3 4 tq.vo, cutF 3 4 tq.vn, Ap3, cp3, An3, cn3, Ap4, cp4, An4, cn4⟩ : Tc) := ⟨_, rfl⟩
              rw [show tcs tq.tb tq.sh (vcs (cutF 3 4 tq.vo) Ap3 cp3 An3 cn3) (vcs (cutF 3 4 tq.vn) Ap4 cp4 An4 cn4) tq.was tq.is = tcc tn by rw [htn]; rfl]
              have hgo : GoodV B10 7 tn.vo (vcs tn.vo tn.A1 tn.c1 tn.N1 tn.d1) := by rw [htn]; exact hgo
              have hgn : GoodV B10 7 tn.vn (vcs tn.vn tn.A2 tn.c2 tn.N2 tn.d2) := by rw [htn]; exact hgn
              have hfo : Few (7 + 2) tn.vo := by rw [htn]; exact hfo
              have hfn : Few (7 + 2) tn.vn := by rw [htn]; exact hfn
              clear htn hcut hw3 hw4
              refine Cx.skip ?_
              refine Xx.tn (k60 _ _ _ _ ?_)
              refine Cx.seq (fun K63 k63 => ?_)
              refine Cx.region ?_
              refine Lx.y (mv rfl) rfl ?_
              refine Lx.y (ldA Tryd.underlying30 rfl sz30 rfl (Cells.own (n := 16) PickB.eq rfl) rfl) rfl ?_
              refine Lx.bsl (bslA Tryd.underlying45 ti30 rfl rfl (by decide)) rfl (fun bu => ?_)
              refine Lx.o (appN (A := At) (ts.length + 1) (tcc tn) ((ts ++ [tn]).flatMap tcc) Tryd.underlying45 Tryd.underlying45 ti30 rfl rfl rfl rfl rfl (by omega) (by omega) rfl (by simp)) rfl (fun v B' H' hΦ hB => ?_)
              obtain ⟨A2, c2, rfl, hA2, hl2, hc2, hBB, rfl⟩ := hΦ
              have hBB2 := hBB.symm
              subst hBB2
              clear hB
              refine Lx.y (asg rfl) rfl ?_
              refine Lx.nil ?_
              refine Xx.tn (k63 _ _ _ _ ?_)
              refine Cx.seq (fun K64 k64 => ?_)
              refine Cx.region ?_
              refine Lx.y (asg rfl) rfl ?_
              refine Lx.nil ?_
              refine Xx.tn (k64 _ _ _ _ ?_)
              refine Cx.block ?_
              refine Cx.loopK (Sub.cons (s := 0) rfl (Sub.cons (s := 1) rfl (Sub.cons (s := 5) rfl (Sub.cons (s := 6) rfl (Sub.cons (s := 13) rfl (Sub.cons (s := 14) rfl (Sub.cons (s := 15) rfl (Sub.cons (s := 17) rfl (Sub.cons (s := 18) rfl (Sub.cons (s := 19) rfl (Sub.cons (s := 21) rfl (Sub.cons (s := 22) rfl (Sub.cons (s := 23) rfl (Sub.cons (s := 120) rfl (Sub.cons (s := 121) rfl (Sub.cons (s := 122) rfl (Sub.cons (s := 123) rfl (Sub.cons (s := 124) rfl (Sub.cons (s := 125) rfl (Sub.cons (s := 126) rfl (Sub.cons (s := 127) rfl (Sub.cons (s := 128) rfl (Sub.cons (s := 129) rfl (Sub.cons (s := 130) rfl (Sub.cons (s := 131) rfl (Sub.cons (s := 132) rfl (Sub.cons (s := 133) rfl (Sub.cons (s := 134) rfl (Sub.cons (s := 135) rfl (Sub.cons (s := 147) rfl (Sub.cons (s := 148) rfl (Sub.cons (s := 149) rfl (Sub.cons (s := 150) rfl (Sub.cons (s := 151) rfl (Sub.cons (s := 152) rfl (Sub.cons (s := 153) rfl (Sub.cons (s := 154) rfl (Sub.cons (s := 155) rfl (Sub.cons (s := 158) rfl (Sub.cons (s := 159) rfl (Sub.cons (s := 160) rfl (Sub.cons (s := 161) rfl (Sub.cons (s := 162) rfl (Sub.cons (s := 163) rfl (Sub.cons (s := 164) rfl (Sub.cons (s := 165) rfl (Sub.cons (s := 166) rfl (Sub.cons (s := 167) rfl (Sub.cons (s := 168) rfl (Sub.cons (s := 169) rfl (Sub.cons (s := 170) rfl (Sub.cons (s := 171) rfl (Sub.nil _))))))))))))))))))))))))))))))))))))))))))))))))))))) (fun m ρ' B' H' => ∃ (k : Nat) (w2 : Bool) (B11 : Frag), (k ≤ ms.length ∧ w2 = (want || (ms.take k).any (fun x => hitsB 7 x tn.tb tn.sh tn.vo tn.vn tn.was tn.is)) ∧ B10.le B11) ∧ m = ms.length - k ∧ ρ' = [(16, .bool w2), (20, i64 k)] ∧ B11 = B' ∧ sbuf 30 16 A2 (ts.length + 1) c2 ((ts ++ [tn]).flatMap tcc) * (blk bu (.cells (tcc tn).toArray 30 (0, 0)) * (row bt 30 (tcc tn) * R)) = H') ⟨0, want, _, ⟨Nat.zero_le _, by simp, Frag.le_refl _⟩, rfl, rfl, rfl, by ac_rfl⟩ (Sub.cons (s := 16) rfl (Sub.cons (s := 20) rfl (Sub.cons (s := 0) rfl (Sub.cons (s := 1) rfl (Sub.cons (s := 5) rfl (Sub.cons (s := 6) rfl (Sub.cons (s := 13) rfl (Sub.cons (s := 14) rfl (Sub.cons (s := 15) rfl (Sub.cons (s := 17) rfl (Sub.cons (s := 18) rfl (Sub.cons (s := 19) rfl (Sub.cons (s := 21) rfl (Sub.cons (s := 22) rfl (Sub.cons (s := 23) rfl (Sub.cons (s := 120) rfl (Sub.cons (s := 121) rfl (Sub.cons (s := 122) rfl (Sub.cons (s := 123) rfl (Sub.cons (s := 124) rfl (Sub.cons (s := 125) rfl (Sub.cons (s := 126) rfl (Sub.cons (s := 127) rfl (Sub.cons (s := 128) rfl (Sub.cons (s := 129) rfl (Sub.cons (s := 130) rfl (Sub.cons (s := 131) rfl (Sub.cons (s := 132) rfl (Sub.cons (s := 133) rfl (Sub.cons (s := 134) rfl (Sub.cons (s := 135) rfl (Sub.cons (s := 147) rfl (Sub.cons (s := 148) rfl (Sub.cons (s := 149) rfl (Sub.cons (s := 150) rfl (Sub.cons (s := 151) rfl (Sub.cons (s := 152) rfl (Sub.cons (s := 153) rfl (Sub.cons (s := 154) rfl (Sub.cons (s := 155) rfl (Sub.cons (s := 158) rfl (Sub.cons (s := 159) rfl (Sub.cons (s := 160) rfl (Sub.cons (s := 161) rfl (Sub.cons (s := 162) rfl (Sub.cons (s := 163) rfl (Sub.cons (s := 164) rfl (Sub.cons (s := 165) rfl (Sub.cons (s := 166) rfl (Sub.cons (s := 167) rfl (Sub.cons (s := 168) rfl (Sub.cons (s := 169) rfl (Sub.cons (s := 170) rfl (Sub.cons (s := 171) rfl (Sub.nil _))))))))))))))))))))))))))))))))))))))))))))))))))))))) ?_
              rintro m ρ' B' H' ⟨k, w2, B11, ⟨hk, hw2, hB11⟩, rfl, rfl, rfl, rfl⟩
              refine Cx.seq (fun K65 k65 => ?_)
              refine Cx.seq (fun K66 k66 => ?_)
              refine Cx.region ?_
              refine Lx.y (mv rfl) rfl ?_
              refine Lx.y (mv rfl) rfl ?_
              refine Lx.y (lenV (ty' := 0) Tryd.underlying42 rfl) rfl ?_
              refine Lx.y (lss rfl rfl) rfl ?_
              refine Lx.nil ?_
              refine Xx.tn (k66 _ _ _ _ ?_)
              refine Cx.condD rfl (fun h67 => ?_) (fun h67 => ?_)
              · skip
                have hkl := h67
                have hkl : k < ms.length := by omega
                obtain ⟨bm, om, csm, etm, fzm, rfl, hBm, hcm⟩ := flat_at rcs_len (hm.mono (Frag.le_trans hB9 (Frag.le_trans hB10 hB11))) hkl
                refine Cx.skip ?_
                refine Xx.tn (k65 _ _ _ _ ?_)
                refine Cx.seq (fun K68 k68 => ?_)
                refine Cx.block ?_
                refine Cx.drawn (by kernel_rfl) ?_
                refine Dx.p (i := 0) rfl (by kernel_rfl) (mv rfl) rfl ?_
                refine Dx.p (i := 1) rfl (by kernel_rfl) (mv rfl) rfl ?_
                refine Xx.ifB (t := 179) rfl (fun h69 => ?_) (fun h69 => ?_)
                · skip
                  have e0 := h69
                  refine Dx.pF (i := 2) rfl (fun _ h => by cases h) rfl rfl rfl (by kernel_rfl) rfl ?_
                  refine Dx.pF (i := 3) rfl (fun _ h => by cases h) rfl rfl rfl (by kernel_rfl) rfl ?_
                  refine Dx.pF (i := 4) rfl (fun _ h => by cases h) rfl rfl rfl (by kernel_rfl) rfl ?_
                  refine Dx.pF (i := 5) rfl (fun _ h => by cases h) rfl rfl rfl (by kernel_rfl) rfl ?_
                  refine Dx.pF (i := 6) rfl (fun _ h => by cases h) rfl rfl rfl (by kernel_rfl) rfl ?_
                  refine Dx.pF (i := 7) rfl (fun _ h => by cases h) rfl rfl rfl (by kernel_rfl) rfl ?_
                  refine Dx.p (i := 8) rfl (by kernel_rfl) (pickT rfl rfl) rfl ?_
                  refine Dx.p (i := 9) rfl (by kernel_rfl) (asg rfl) rfl ?_
                  refine Dx.done (by kernel_rfl) ?_
                  refine Xx.bn ?_
                  refine Xx.tn (k68 _ _ _ _ ?_)
                  refine Cx.region ?_
                  refine Lx.y (mv rfl) rfl ?_
                  refine Lx.y (Yx.val (add rfl rfl (by first | exact wrap64 (by omega) (by omega) | rfl)) (show _ = i64 ((k + 1 : Nat) : Int) from rfl)) rfl ?_
                  refine Lx.y (asg rfl) rfl ?_
                  refine Lx.nil ?_
                  exact Xx.againK ⟨k + 1, _, _, ⟨by omega, by rw [any_step hkl, ← Bool.or_assoc, ← hw2]; simp_all, hB11⟩, rfl, rfl, rfl, rfl⟩ (by omega) (Sub.cons (s := 16) rfl (Sub.cons (s := 20) rfl (Sub.cons (s := 0) rfl (Sub.cons (s := 1) rfl (Sub.cons (s := 5) rfl (Sub.cons (s := 6) rfl (Sub.cons (s := 13) rfl (Sub.cons (s := 14) rfl (Sub.cons (s := 15) rfl (Sub.cons (s := 17) rfl (Sub.cons (s := 18) rfl (Sub.cons (s := 19) rfl (Sub.cons (s := 21) rfl (Sub.cons (s := 22) rfl (Sub.cons (s := 23) rfl (Sub.cons (s := 120) rfl (Sub.cons (s := 121) rfl (Sub.cons (s := 122) rfl (Sub.cons (s := 123) rfl (Sub.cons (s := 124) rfl (Sub.cons (s := 125) rfl (Sub.cons (s := 126) rfl (Sub.cons (s := 127) rfl (Sub.cons (s := 128) rfl (Sub.cons (s := 129) rfl (Sub.cons (s := 130) rfl (Sub.cons (s := 131) rfl (Sub.cons (s := 132) rfl (Sub.cons (s := 133) rfl (Sub.cons (s := 134) rfl (Sub.cons (s := 135) rfl (Sub.cons (s := 147) rfl (Sub.cons (s := 148) rfl (Sub.cons (s := 149) rfl (Sub.cons (s := 150) rfl (Sub.cons (s := 151) rfl (Sub.cons (s := 152) rfl (Sub.cons (s := 153) rfl (Sub.cons (s := 154) rfl (Sub.cons (s := 155) rfl (Sub.cons (s := 158) rfl (Sub.cons (s := 159) rfl (Sub.cons (s := 160) rfl (Sub.cons (s := 161) rfl (Sub.cons (s := 162) rfl (Sub.cons (s := 163) rfl (Sub.cons (s := 164) rfl (Sub.cons (s := 165) rfl (Sub.cons (s := 166) rfl (Sub.cons (s := 167) rfl (Sub.cons (s := 168) rfl (Sub.cons (s := 169) rfl (Sub.cons (s := 170) rfl (Sub.cons (s := 171) rfl (Sub.nil _)))))))))))))))))))))))))))))))))))))))))))))))))))))))
                · skip
                  have e0 := h69
                  have hr := hits_ct 7 ms[k] tn.tb tn.sh tn.was tn.is tn.vo tn.vn _ _ _ (hgo.mono hB11) (hgn.mono hB11) hfo hfn
                  refine Dx.pT (i := 2) rfl rfl rfl rfl (by kernel_rfl) (mv rfl) rfl ?_
                  refine Dx.pT (i := 3) rfl rfl rfl rfl (by kernel_rfl) (mv rfl) rfl ?_
                  refine Dx.pT (i := 4) rfl rfl rfl rfl (by kernel_rfl) (ia Tryd.underlying42 sz36 rfl rfl (by first | exact Int.toNat_natCast _ | rfl) (by omega) (by omega)) rfl ?_
                  refine Dx.rT (i := 5) rfl rfl rfl rfl (by kernel_rfl) (ldA Tryd.underlying36 rfl sz36 rfl (Cells.base (n := 4) hBm hcm) rfl) rfl ?_
                  refine Dx.rT (i := 6) rfl rfl rfl rfl (by kernel_rfl) (ldA Tryd.underlying30 rfl sz30 rfl (Cells.own (n := 16) PickB.eq rfl) rfl) rfl ?_
                  refine Dx.one (i := 7) (by kernel_rfl) ?_
                  refine Dstep.oT (i := 7) rfl rfl rfl rfl (Ox.cb rfl rfl rfl (hr)) rfl (fun v B' H' hΦ hB => ?_)
                  obtain ⟨rfl, hΦ⟩ := hΦ
                  obtain rfl := hΦ
                  rename Frag => B12
                  have hB12 := hB
                  refine ⟨JOk.edge (JOk.edge (JOk.top) (by kernel_rfl)) (by kernel_rfl), ?_⟩
                  refine Dx.p (i := 8) rfl (by kernel_rfl) (pickF rfl rfl) rfl ?_
                  refine Dx.p (i := 9) rfl (by kernel_rfl) (asg rfl) rfl ?_
                  refine Dx.done (by kernel_rfl) ?_
                  refine Xx.bn ?_
                  refine Xx.tn (k68 _ _ _ _ ?_)
                  refine Cx.region ?_
                  refine Lx.y (mv rfl) rfl ?_
                  refine Lx.y (Yx.val (add rfl rfl (by first | exact wrap64 (by omega) (by omega) | rfl)) (show _ = i64 ((k + 1 : Nat) : Int) from rfl)) rfl ?_
                  refine Lx.y (asg rfl) rfl ?_
                  refine Lx.nil ?_
                  exact Xx.againK ⟨k + 1, _, _, ⟨by omega, by rw [any_step hkl, ← Bool.or_assoc, ← hw2]; simp_all, Frag.le_trans hB11 hB12⟩, rfl, rfl, rfl, rfl⟩ (by omega) (Sub.cons (s := 16) rfl (Sub.cons (s := 20) rfl (Sub.cons (s := 0) rfl (Sub.cons (s := 1) rfl (Sub.cons (s := 5) rfl (Sub.cons (s := 6) rfl (Sub.cons (s := 13) rfl (Sub.cons (s := 14) rfl (Sub.cons (s := 15) rfl (Sub.cons (s := 17) rfl (Sub.cons (s := 18) rfl (Sub.cons (s := 19) rfl (Sub.cons (s := 21) rfl (Sub.cons (s := 22) rfl (Sub.cons (s := 23) rfl (Sub.cons (s := 120) rfl (Sub.cons (s := 121) rfl (Sub.cons (s := 122) rfl (Sub.cons (s := 123) rfl (Sub.cons (s := 124) rfl (Sub.cons (s := 125) rfl (Sub.cons (s := 126) rfl (Sub.cons (s := 127) rfl (Sub.cons (s := 128) rfl (Sub.cons (s := 129) rfl (Sub.cons (s := 130) rfl (Sub.cons (s := 131) rfl (Sub.cons (s := 132) rfl (Sub.cons (s := 133) rfl (Sub.cons (s := 134) rfl (Sub.cons (s := 135) rfl (Sub.cons (s := 147) rfl (Sub.cons (s := 148) rfl (Sub.cons (s := 149) rfl (Sub.cons (s := 150) rfl (Sub.cons (s := 151) rfl (Sub.cons (s := 152) rfl (Sub.cons (s := 153) rfl (Sub.cons (s := 154) rfl (Sub.cons (s := 155) rfl (Sub.cons (s := 158) rfl (Sub.cons (s := 159) rfl (Sub.cons (s := 160) rfl (Sub.cons (s := 161) rfl (Sub.cons (s := 162) rfl (Sub.cons (s := 163) rfl (Sub.cons (s := 164) rfl (Sub.cons (s := 165) rfl (Sub.cons (s := 166) rfl (Sub.cons (s := 167) rfl (Sub.cons (s := 168) rfl (Sub.cons (s := 169) rfl (Sub.cons (s := 170) rfl (Sub.cons (s := 171) rfl (Sub.nil _)))))))))))))))))))))))))))))))))))))))))))))))))))))))
              · skip
                obtain rfl : k = ms.length := by have := h67; omega
                rw [List.take_length] at hw2
                have hGn : ∀ t ∈ ts ++ [tn], GoodV B11 7 t.vo (vcs t.vo t.A1 t.c1 t.N1 t.d1) ∧ GoodV B11 7 t.vn (vcs t.vn t.A2 t.c2 t.N2 t.d2) := fun t ht => by
                  rcases List.mem_append.1 ht with h9 | h9
                  · exact ⟨((hG t h9).1.mono hB10).mono hB11, ((hG t h9).2.mono hB10).mono hB11⟩
                  · rw [List.mem_singleton.1 h9]; exact ⟨hgo.mono hB11, hgn.mono hB11⟩
                refine Cx.exit ?_
                refine Xx.te ?_
                refine Xx.te ?_
                refine Xx.bh ?_
                refine Xx.bn ?_
                refine Xx.tn (k57 _ _ _ _ ?_)
                refine Cx.region ?_
                refine Lx.y (mv rfl) rfl ?_
                refine Lx.y (Yx.val (add rfl rfl (by first | exact wrap64 (by omega) (by omega) | rfl)) (show _ = i64 ((i + 1 : Nat) : Int) from rfl)) rfl ?_
                refine Lx.y (asg rfl) rfl ?_
                refine Lx.nil ?_
                refine Xx.dropB bu (Xx.dropB bt ?_)
                exact Xx.againK ⟨i + 1, ts ++ [tn], A2, _, _, _, ⟨by omega, by rw [List.length_append, List.length_singleton]; omega, by rw [hw2, hwt, List.any_append]; simp, hGn, Frag.le_trans hB9 (Frag.le_trans hB10 hB11)⟩, rfl, rfl, rfl, (by rw [List.length_append]; rfl)⟩ (by omega) (Sub.consE (s := 15) rfl (by rw [List.length_append]; rfl) (Sub.cons (s := 16) rfl (Sub.cons (s := 17) rfl (Sub.cons (s := 0) rfl (Sub.cons (s := 1) rfl (Sub.cons (s := 5) rfl (Sub.cons (s := 6) rfl (Sub.cons (s := 13) rfl (Sub.cons (s := 14) rfl (Sub.cons (s := 21) rfl (Sub.cons (s := 22) rfl (Sub.cons (s := 23) rfl (Sub.cons (s := 120) rfl (Sub.cons (s := 121) rfl (Sub.cons (s := 122) rfl (Sub.cons (s := 123) rfl (Sub.cons (s := 124) rfl (Sub.cons (s := 125) rfl (Sub.cons (s := 126) rfl (Sub.cons (s := 127) rfl (Sub.cons (s := 128) rfl (Sub.cons (s := 129) rfl (Sub.cons (s := 130) rfl (Sub.cons (s := 131) rfl (Sub.cons (s := 132) rfl (Sub.cons (s := 133) rfl (Sub.cons (s := 134) rfl (Sub.cons (s := 135) rfl (Sub.cons (s := 147) rfl (Sub.nil _))))))))))))))))))))))))))))))
          · skip
            have h2 := h56
            refine Cx.exit ?_
            refine Xx.te ?_
            refine Xx.te ?_
            refine Xx.bh ?_
            exact Xx.mkK (⟨ts, At, ct, want, B9, rfl, rfl, rfl, hwt, by omega, hG, hB9⟩) (Sub.cons (s := 15) rfl (Sub.cons (s := 16) rfl (Sub.cons (s := 0) rfl (Sub.cons (s := 1) rfl (Sub.cons (s := 5) rfl (Sub.cons (s := 6) rfl (Sub.cons (s := 13) rfl (Sub.cons (s := 14) rfl (Sub.cons (s := 21) rfl (Sub.cons (s := 22) rfl (Sub.cons (s := 23) rfl (Sub.cons (s := 120) rfl (Sub.cons (s := 121) rfl (Sub.cons (s := 122) rfl (Sub.cons (s := 123) rfl (Sub.cons (s := 124) rfl (Sub.cons (s := 125) rfl (Sub.cons (s := 126) rfl (Sub.cons (s := 127) rfl (Sub.cons (s := 128) rfl (Sub.cons (s := 129) rfl (Sub.cons (s := 130) rfl (Sub.cons (s := 131) rfl (Sub.cons (s := 132) rfl (Sub.cons (s := 133) rfl (Sub.cons (s := 134) rfl (Sub.cons (s := 135) rfl (Sub.cons (s := 147) rfl (Sub.nil _)))))))))))))))))))))))))))))
        · skip
          have h1 := h55
          refine Lx.gF rfl rfl rfl rfl ?_
          refine Lx.gF rfl rfl rfl rfl ?_
          refine Lx.y (pickF rfl rfl) rfl ?_
          refine Lx.nil ?_
          refine Xx.tn (k54 _ _ _ _ ?_)
          refine Cx.condF rfl ?_
          refine Cx.exit ?_
          refine Xx.te ?_
          refine Xx.te ?_
          refine Xx.bh ?_
          exact Xx.mkK (⟨ts, At, ct, want, B9, rfl, rfl, rfl, hwt, by omega, hG, hB9⟩) (Sub.cons (s := 15) rfl (Sub.cons (s := 16) rfl (Sub.cons (s := 0) rfl (Sub.cons (s := 1) rfl (Sub.cons (s := 5) rfl (Sub.cons (s := 6) rfl (Sub.cons (s := 13) rfl (Sub.cons (s := 14) rfl (Sub.cons (s := 21) rfl (Sub.cons (s := 22) rfl (Sub.cons (s := 23) rfl (Sub.cons (s := 120) rfl (Sub.cons (s := 121) rfl (Sub.cons (s := 122) rfl (Sub.cons (s := 123) rfl (Sub.cons (s := 124) rfl (Sub.cons (s := 125) rfl (Sub.cons (s := 126) rfl (Sub.cons (s := 127) rfl (Sub.cons (s := 128) rfl (Sub.cons (s := 129) rfl (Sub.cons (s := 130) rfl (Sub.cons (s := 131) rfl (Sub.cons (s := 132) rfl (Sub.cons (s := 133) rfl (Sub.cons (s := 134) rfl (Sub.cons (s := 135) rfl (Sub.cons (s := 147) rfl (Sub.nil _)))))))))))))))))))))))))))))
      · rintro ρ' B' H' ⟨ts, At, ct, want, B9, rfl, rfl, rfl, hwt, htl, hG, hB9⟩
        refine Xx.freezeT At fun B10 hB10 hRt hnct _ => ?_
        have hB910 := Frag.le_trans hB9 hB10
        refine Cx.seq (fun K70 k70 => ?_)
        refine Cx.region ?_
        refine Lx.y (mv rfl) rfl ?_
        refine Lx.y (mv rfl) rfl ?_
        refine Lx.cb rfl rfl rfl (Hit_ct ms A c bs (0, 0) ts At ct _ (hB910 _ _ hbs) (hRs.mono hB910) (by omega) hRt (by omega) (fun t h => ⟨(hG t h).1.mono hB10, (hG t h).2.mono hB10⟩) (hM8.mono hB910)) rfl ?_
        rintro v11 B11 rfl hB11
        refine Lx.y (mv rfl) rfl ?_
        refine Lx.y (Yx.tt (eqB Tryd.underlying4 rfl rfl) (by rw [hwt, any_swap]; exact beq_self_eq_true _)) rfl ?_
        refine Lx.y (asg rfl) rfl ?_
        refine Lx.nil ?_
        refine Xx.tn (k70 _ _ _ _ ?_)
        refine Cx.ret ?_
        exact Xx.rB1 rfl rfl rfl (Frag.le_trans hB8 (Frag.le_trans hB910 hB11)) rfl
end RgL
end Go.Proofs.YtfnfkoldifpmhaaDoor
