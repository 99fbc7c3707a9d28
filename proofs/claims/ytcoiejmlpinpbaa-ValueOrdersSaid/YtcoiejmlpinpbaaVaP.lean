/-
  The walk of the law of the order of values.
-/
import Derived.Test.YtcoiejmlpinpbaaProg
import Derived.Test.YtcoiejmlpinpbaaSlj
import Derived.Test.YtcoiejmlpinpbaaVaN
import Derived.Test.YtcoiejmlpinpbaaSlr
namespace Go.Proofs.Ytcoiejmlpinpbaa
open Go.SL Go.RowKit
set_option linter.unusedVariables false
set_option linter.unusedSimpArgs false
set_option maxRecDepth 100000
open Ke5 Ke6 Ke7 Ke8 Ke9 KeA KeB KeE KeF KeG KeH VaA VaB VaC VaD VaH VaI VaJ VaK VaL VaM VaN
namespace VaP
theorem sz46 : (Try.prog.info? 46).map (·.size) = some 6 := by kernel_rfl
theorem ti46 : TI Try.prog 46 [.int .i64 0, .bool false, .int .i64 0, str [], .slice none 0 0, .slice none 0 0] 6 88 := TI.of (by kernel_rfl) rfl rfl

theorem ldv {x : Operand} {ty : TypeId} {ρ : Sl} {N0 b : Nat} {B : Frag} {H R : HP} {vs : List Value} {et : TypeId} {fz : Nat × Nat} (hx : ev ρ x = some (.pointer (some ⟨b, 0, none⟩))) [hp : PickB H b (.cells vs.toArray et fz) R] (hl : vs.length = 6) : Yx Try.prog (.load 46 x) ty ρ (St N0 B H) (.agg vs.toArray) :=
  ldA Try.underlying46 rfl sz46 hx (Cells.own (n := 6) hp.eq (List.take_of_length_le (by simp; omega))) hl
theorem st6 {e : Env} {ds : List Deferred} {ρ : Sl} {B : Frag} {H R : HP} {t ty : TypeId} {x y : Operand} {b : Nat} {cs vs cs' : List Value} {et : TypeId} (hi : (e.P.info? t).map (·.size) = some 6) (hx : ev ρ x = some (.pointer (some ⟨b, 0, none⟩))) (hy : ev ρ y = some (.agg vs.toArray)) (hl : vs.length = 6) (h1 : vs.all (·.oneCell') = true)
    [hp : PickB H b (.cells cs.toArray et (0, 0)) R] (hc : cs.length = 6) (hn : frc (cs.take 0 ++ vs ++ cs.drop (0 + vs.length)) some = some cs') : Ox e ds (.store t x y) ty ρ B H (fun _ B' H' => B' = B ∧ H' = row b et cs' * R) :=
  stA (d := .bool) hi hx hy hl h1 (by omega) hn
theorem cut8 {v : V} {cs : List Value} {d : Nat} {B : Frag} (h : ValR B d v cs) : CtB Try.prog 22 [.agg cs.toArray, i64 (8 : Nat), i64 (32 : Nat)] B (fun r B' => ∃ cs', r = .agg cs'.toArray ∧ ValR B' (8 + 1) (cutF 8 32 v) cs') := Cut_ct 8 32 v cs d B (by decide) (by decide) h
theorem jy {e : Env} {B : Frag} {H : HP} {J : Nat → World → Prop} {ops : Array Oper} {i j : Nat} {op : Op} {ty : TypeId} {ρ : Sl} {v : Value} (h : JOk e B H J j) (hy : Yx e.P op ty ρ (St e.N0 B H) v) : JOk e B H (J1 e.P ops J i op ty ρ v) j := JOk.yes h hy
theorem je {e : Env} {B : Frag} {H : HP} {J : Nat → World → Prop} {ops : Array Oper} {i j : Nat} {op : Op} {ty : TypeId} {ρ : Sl} {v : Value} (h : JOk e B H J j) (he : SL.edge ops j i = true) : JOk e B H (J1 e.P ops J i op ty ρ v) j := JOk.edge h he
def MO (x y z : V) (B : Frag) (R : HP) (ρ' : Sl) (B' : Frag) (H' : HP) : Prop := ∃ b7 b8 b9 Ap2 cp2 An2 cn2 Ap3 cp3 An3 cn3 Ap4 cp4 An4 cn4, ρ' = [(7, .pointer (some ⟨b7, 0, none⟩)), (8, .pointer (some ⟨b8, 0, none⟩)), (9, .pointer (some ⟨b9, 0, none⟩))] ∧ B.le B' ∧ ValR B' 9 (cutF 8 32 x) (vcs (cutF 8 32 x) Ap2 cp2 An2 cn2) ∧ ValR B' 9 (cutF 8 32 y) (vcs (cutF 8 32 y) Ap3 cp3 An3 cn3) ∧ ValR B' 9 (cutF 8 32 z) (vcs (cutF 8 32 z) Ap4 cp4 An4 cn4) ∧ row b9 46 (vcs (cutF 8 32 z) Ap4 cp4 An4 cn4) * (row b8 46 (vcs (cutF 8 32 y) Ap3 cp3 An3 cn3) * (row b7 46 (vcs (cutF 8 32 x) Ap2 cp2 An2 cn2) * R)) = H'
theorem mO {x y z : V} {B B2 B3 B4 : Frag} {R : HP} {b7 b8 b9 : Nat} {Ap2 An2 Ap3 An3 Ap4 An4 : Option Addr} {cp2 cn2 cp3 cn3 cp4 cn4 : Nat} (hB2 : B.le B2) (hB3 : B2.le B3) (hB4 : B3.le B4) (hv2 : ValR B2 9 (cutF 8 32 x) (vcs (cutF 8 32 x) Ap2 cp2 An2 cn2)) (hv3 : ValR B3 9 (cutF 8 32 y) (vcs (cutF 8 32 y) Ap3 cp3 An3 cn3)) (hv4 : ValR B4 9 (cutF 8 32 z) (vcs (cutF 8 32 z) Ap4 cp4 An4 cn4)) {H : HP} (hH : row b9 46 (vcs (cutF 8 32 z) Ap4 cp4 An4 cn4) * (row b8 46 (vcs (cutF 8 32 y) Ap3 cp3 An3 cn3) * (row b7 46 (vcs (cutF 8 32 x) Ap2 cp2 An2 cn2) * R)) = H) :
    MO x y z B R [(7, .pointer (some ⟨b7, 0, none⟩)), (8, .pointer (some ⟨b8, 0, none⟩)), (9, .pointer (some ⟨b9, 0, none⟩))] B4 H := ⟨_, _, _, _, _, _, _, _, _, _, _, _, _, _, _, rfl, Frag.le_trans hB2 (Frag.le_trans hB3 hB4), ValR.mono hB4 (ValR.mono hB3 hv2), ValR.mono hB4 hv3, hv4, hH⟩
theorem bytes_inj {a b : V} (h1 : CheckF 9 a = 0) (h2 : CheckF 9 b = 0) (r1 : Rg 9 a) (r2 : Rg 9 b) (h : bytesF 9 a = bytesF 9 b) : a = b := by
  have e1 := (dec_to h1 r1).2
  have e2 := (dec_to h2 r2).2
  rw [h] at e1
  exact e1.symm.trans e2
theorem ord3 {x y z : Ordering} (h : T3 x y z) (hx : ordI x ≤ 0) (hy : ordI y ≤ 0) : (!decide (ordI z > 0)) = true := by
  have h1 : x ≠ .gt := fun e => by subst e; exact absurd hx (by decide)
  have h2 : y ≠ .gt := fun e => by subst e; exact absurd hy (by decide)
  rw [h h1 h2]
  cases x <;> cases y <;> first | rfl | exact absurd rfl h1 | exact absurd rfl h2
theorem ordS {o q : Ordering} (h : q = o.swap) : (decide (ordI q > 0) == decide (ordI o < 0)) = true := by subst h; cases o <;> rfl
theorem ordL (o : Ordering) : (decide (ordI o < 0) != decide (o = .lt)) = false := by cases o <;> rfl
theorem ordG {o q : Ordering} (h : q = o.swap) : (decide (ordI o > 0) != decide (q = .lt)) = false := by subst h; cases o <;> rfl
theorem ordE (o : Ordering) : (decide (o = .eq) == decide (ordI o = 0)) = true := by cases o <;> rfl
theorem ordB {a b : V} (h1 : CheckF 9 a = 0) (h2 : CheckF 9 b = 0) (r1 : Rg 9 a) (r2 : Rg 9 b) : (decide (ordI (cmpF 9 a b) = 0) == decide (bytesF 9 a = bytesF 9 b)) = true := by
  have k1 := (CheckF_zero h1).1
  have k2 := (CheckF_zero h2).1
  rw [beq_iff_eq]
  refine decide_eq_decide.2 ⟨fun h => ?_, fun h => ?_⟩
  · have e := cmpF_eq 8 1 a b (by decide) k1 k2 (ordI_zero.1 h); rw [e]
  · have e := bytes_inj h1 h2 r1 r2 h; subst e; exact ordI_zero.2 (cmpF_refl 9 a)

set_option maxHeartbeats 8000000 in
theorem ValueOrders_ct (x y z : V) (cs cs1 cs0 : List Value) (d d1 d0 : Nat) (B : Frag) (hx : ValR B d x cs) (hy : ValR B d1 y cs1) (hz : ValR B d0 z cs0) : CtB Try.prog 8 [.agg cs.toArray, .agg cs1.toArray, .agg cs0.toArray] B (fun v _ => v = .bool true) := by
  obtain ⟨Ap, cp, An, cn, rfl⟩ := ValR.shape hx
  obtain ⟨Ap1, cp1, An1, cn1, rfl⟩ := ValR.shape hy
  obtain ⟨Ap0, cp0, An0, cn0, rfl⟩ := ValR.shape hz
  refine CtB.of_body Try.func8 rfl (nt := 114) rfl (by kernel_rfl) rfl ?_
  intro N0 w0 R
  refine Cx.seq (fun K1 k1 => ?_)
  refine Cx.region ?_
  refine Lx.new (boxA rfl) rfl (fun b3 => ?_)
  refine Lx.new (boxA rfl) rfl (fun b4 => ?_)
  refine Lx.new (boxA rfl) rfl (fun b5 => ?_)
  refine Lx.y (asg rfl) rfl ?_
  refine Lx.nil ?_
  refine Xx.tn (k1 _ _ _ _ ?_)
  refine Cx.cutK (ds' := []) (Sub.cons (s := 6) rfl (Sub.nil _)) (fun ρ' B' H' => MO x y z B (row b5 46 (vcs z Ap0 cp0 An0 cn0) * (row b4 46 (vcs y Ap1 cp1 An1 cn1) * (row b3 46 (vcs x Ap cp An cn) * R))) ρ' B' H') ?_ ?_
  · skip
    refine Cx.drawn (by kernel_rfl) ?_
    refine Dx.r (i := 0) rfl (by kernel_rfl) (ldv rfl rfl) rfl ?_
    refine Dx.r (i := 2) rfl (by kernel_rfl) (ldv rfl rfl) rfl ?_
    refine Dx.r (i := 4) rfl (by kernel_rfl) (ldv rfl rfl) rfl ?_
    refine Dx.four (i := 1) (j := 6) (l := 7) (m := 8) (by kernel_rfl) ?_ ?_ ?_ ?_
    · skip
      refine Dstep.o (i := 1) rfl (Ox.cb rfl rfl rfl (cut8 (hx))) rfl (fun v B' H' hΦ hB => ?_)
      obtain ⟨rfl, hΦ⟩ := hΦ
      obtain ⟨cs2, rfl, hv2⟩ := hΦ
      obtain ⟨Apcs2, cpcs2, Ancs2, cncs2, rfl⟩ := ValR.shape hv2
      have hB2 := hB
      refine ⟨jy (jy (je (JOk.top) (by kernel_rfl)) (ldv rfl rfl)) (ldv rfl rfl), ?_⟩
      refine Dx.four (i := 3) (j := 6) (l := 7) (m := 8) (by kernel_rfl) ?_ ?_ ?_ ?_
      · skip
        refine Dstep.o (i := 3) rfl (Ox.cb rfl rfl rfl (cut8 (ValR.mono hB2 hy))) rfl (fun v B' H' hΦ hB => ?_)
        obtain ⟨rfl, hΦ⟩ := hΦ
        obtain ⟨cs3, rfl, hv3⟩ := hΦ
        obtain ⟨Apcs3, cpcs3, Ancs3, cncs3, rfl⟩ := ValR.shape hv3
        have hB3 := hB
        refine ⟨jy (je (jy (JOk.top) (ldv rfl rfl)) (by kernel_rfl)) (ldv rfl rfl), ?_⟩
        refine Dx.four (i := 5) (j := 6) (l := 7) (m := 8) (by kernel_rfl) ?_ ?_ ?_ ?_
        · skip
          refine Dstep.o (i := 5) rfl (Ox.cb rfl rfl rfl (cut8 (ValR.mono hB3 (ValR.mono hB2 hz)))) rfl (fun v B' H' hΦ hB => ?_)
          obtain ⟨rfl, hΦ⟩ := hΦ
          obtain ⟨cs4, rfl, hv4⟩ := hΦ
          obtain ⟨Apcs4, cpcs4, Ancs4, cncs4, rfl⟩ := ValR.shape hv4
          have hB4 := hB
          refine ⟨je (jy (jy (JOk.top) (ldv rfl rfl)) (ldv rfl rfl)) (by kernel_rfl), ?_⟩
          refine Dx.three (i := 6) (j := 7) (l := 8) (by kernel_rfl) ?_ ?_ ?_
          · skip
            refine Dstep.o (i := 6) rfl (allocO ti46) rfl (fun v B' H' hΦ hB => ?_)
            obtain ⟨b7, rfl, rfl, rfl⟩ := hΦ; clear hB
            refine ⟨jy (jy (jy (JOk.top) (ldv rfl rfl)) (ldv rfl rfl)) (ldv rfl rfl), ?_⟩
            refine Dx.two (i := 7) (j := 8) (by kernel_rfl) ?_ ?_
            · skip
              refine Dstep.o (i := 7) rfl (allocO ti46) rfl (fun v B' H' hΦ hB => ?_)
              obtain ⟨b8, rfl, rfl, rfl⟩ := hΦ; clear hB
              refine ⟨jy (jy (jy (JOk.top) (ldv rfl rfl)) (ldv rfl rfl)) (ldv rfl rfl), ?_⟩
              refine Dx.one (i := 8) (by kernel_rfl) ?_
              refine Dstep.o (i := 8) rfl (allocO ti46) rfl (fun v B' H' hΦ hB => ?_)
              obtain ⟨b9, rfl, rfl, rfl⟩ := hΦ; clear hB
              refine ⟨jy (jy (jy (JOk.top) (ldv rfl rfl)) (ldv rfl rfl)) (ldv rfl rfl), ?_⟩
              refine Dx.one (i := 9) (by kernel_rfl) ?_
              refine Dstep.o0 (i := 9) rfl (st6 sz46 rfl rfl rfl rfl rfl rfl) (fun v B' H' hΦ hB => ?_)
              obtain ⟨rfl, rfl⟩ := hΦ; clear hB v
              refine ⟨jy (jy (je (JOk.top) (by kernel_rfl)) (ldv rfl rfl)) (ldv rfl rfl), ?_⟩
              refine Dx.one (i := 10) (by kernel_rfl) ?_
              refine Dstep.o0 (i := 10) rfl (st6 sz46 rfl rfl rfl rfl rfl rfl) (fun v B' H' hΦ hB => ?_)
              obtain ⟨rfl, rfl⟩ := hΦ; clear hB v
              refine ⟨jy (je (je (JOk.top) (by kernel_rfl)) (by kernel_rfl)) (ldv rfl rfl), ?_⟩
              refine Dx.one (i := 11) (by kernel_rfl) ?_
              refine Dstep.o0 (i := 11) rfl (st6 sz46 rfl rfl rfl rfl rfl rfl) (fun v B' H' hΦ hB => ?_)
              obtain ⟨rfl, rfl⟩ := hΦ; clear hB v
              refine ⟨je (je (je (JOk.top) (by kernel_rfl)) (by kernel_rfl)) (by kernel_rfl), ?_⟩
              refine Dx.done (by kernel_rfl) ?_
              exact Xx.mkK (mO hB2 hB3 hB4 hv2 hv3 hv4 rfl) (Sub.cons (s := 7) rfl (Sub.cons (s := 8) rfl (Sub.cons (s := 9) rfl (Sub.cons (s := 6) rfl (Sub.nil _)))))
            refine Dstep.o (i := 8) rfl (allocO ti46) rfl (fun v B' H' hΦ hB => ?_)
            obtain ⟨b9, rfl, rfl, rfl⟩ := hΦ; clear hB
            refine ⟨jy (jy (jy (JOk.top) (ldv rfl rfl)) (ldv rfl rfl)) (ldv rfl rfl), ?_⟩
            refine Dx.one (i := 7) (by kernel_rfl) ?_
            refine Dstep.o (i := 7) rfl (allocO ti46) rfl (fun v B' H' hΦ hB => ?_)
            obtain ⟨b8, rfl, rfl, rfl⟩ := hΦ; clear hB
            refine ⟨jy (jy (jy (JOk.top) (ldv rfl rfl)) (ldv rfl rfl)) (ldv rfl rfl), ?_⟩
            refine Dx.one (i := 9) (by kernel_rfl) ?_
            refine Dstep.o0 (i := 9) rfl (st6 sz46 rfl rfl rfl rfl rfl rfl) (fun v B' H' hΦ hB => ?_)
            obtain ⟨rfl, rfl⟩ := hΦ; clear hB v
            refine ⟨jy (jy (je (JOk.top) (by kernel_rfl)) (ldv rfl rfl)) (ldv rfl rfl), ?_⟩
            refine Dx.one (i := 10) (by kernel_rfl) ?_
            refine Dstep.o0 (i := 10) rfl (st6 sz46 rfl rfl rfl rfl rfl rfl) (fun v B' H' hΦ hB => ?_)
            obtain ⟨rfl, rfl⟩ := hΦ; clear hB v
            refine ⟨jy (je (je (JOk.top) (by kernel_rfl)) (by kernel_rfl)) (ldv rfl rfl), ?_⟩
            refine Dx.one (i := 11) (by kernel_rfl) ?_
            refine Dstep.o0 (i := 11) rfl (st6 sz46 rfl rfl rfl rfl rfl rfl) (fun v B' H' hΦ hB => ?_)
            obtain ⟨rfl, rfl⟩ := hΦ; clear hB v
            refine ⟨je (je (je (JOk.top) (by kernel_rfl)) (by kernel_rfl)) (by kernel_rfl), ?_⟩
            refine Dx.done (by kernel_rfl) ?_
            exact Xx.mkK (mO hB2 hB3 hB4 hv2 hv3 hv4 rfl) (Sub.cons (s := 7) rfl (Sub.cons (s := 8) rfl (Sub.cons (s := 9) rfl (Sub.cons (s := 6) rfl (Sub.nil _)))))
          · skip
            refine Dstep.o (i := 7) rfl (allocO ti46) rfl (fun v B' H' hΦ hB => ?_)
            obtain ⟨b8, rfl, rfl, rfl⟩ := hΦ; clear hB
            refine ⟨jy (jy (jy (JOk.top) (ldv rfl rfl)) (ldv rfl rfl)) (ldv rfl rfl), ?_⟩
            refine Dx.two (i := 6) (j := 8) (by kernel_rfl) ?_ ?_
            · skip
              refine Dstep.o (i := 6) rfl (allocO ti46) rfl (fun v B' H' hΦ hB => ?_)
              obtain ⟨b7, rfl, rfl, rfl⟩ := hΦ; clear hB
              refine ⟨jy (jy (jy (JOk.top) (ldv rfl rfl)) (ldv rfl rfl)) (ldv rfl rfl), ?_⟩
              refine Dx.one (i := 8) (by kernel_rfl) ?_
              refine Dstep.o (i := 8) rfl (allocO ti46) rfl (fun v B' H' hΦ hB => ?_)
              obtain ⟨b9, rfl, rfl, rfl⟩ := hΦ; clear hB
              refine ⟨jy (jy (jy (JOk.top) (ldv rfl rfl)) (ldv rfl rfl)) (ldv rfl rfl), ?_⟩
              refine Dx.one (i := 9) (by kernel_rfl) ?_
              refine Dstep.o0 (i := 9) rfl (st6 sz46 rfl rfl rfl rfl rfl rfl) (fun v B' H' hΦ hB => ?_)
              obtain ⟨rfl, rfl⟩ := hΦ; clear hB v
              refine ⟨jy (jy (je (JOk.top) (by kernel_rfl)) (ldv rfl rfl)) (ldv rfl rfl), ?_⟩
              refine Dx.one (i := 10) (by kernel_rfl) ?_
              refine Dstep.o0 (i := 10) rfl (st6 sz46 rfl rfl rfl rfl rfl rfl) (fun v B' H' hΦ hB => ?_)
              obtain ⟨rfl, rfl⟩ := hΦ; clear hB v
              refine ⟨jy (je (je (JOk.top) (by kernel_rfl)) (by kernel_rfl)) (ldv rfl rfl), ?_⟩
              refine Dx.one (i := 11) (by kernel_rfl) ?_
              refine Dstep.o0 (i := 11) rfl (st6 sz46 rfl rfl rfl rfl rfl rfl) (fun v B' H' hΦ hB => ?_)
              obtain ⟨rfl, rfl⟩ := hΦ; clear hB v
              refine ⟨je (je (je (JOk.top) (by kernel_rfl)) (by kernel_rfl)) (by kernel_rfl), ?_⟩
              refine Dx.done (by kernel_rfl) ?_
              exact Xx.mkK (mO hB2 hB3 hB4 hv2 hv3 hv4 rfl) (Sub.cons (s := 7) rfl (Sub.cons (s := 8) rfl (Sub.cons (s := 9) rfl (Sub.cons (s := 6) rfl (Sub.nil _)))))
            refine Dstep.o (i := 8) rfl (allocO ti46) rfl (fun v B' H' hΦ hB => ?_)
            obtain ⟨b9, rfl, rfl, rfl⟩ := hΦ; clear hB
            refine ⟨jy (jy (jy (JOk.top) (ldv rfl rfl)) (ldv rfl rfl)) (ldv rfl rfl), ?_⟩
            refine Dx.one (i := 6) (by kernel_rfl) ?_
            refine Dstep.o (i := 6) rfl (allocO ti46) rfl (fun v B' H' hΦ hB => ?_)
            obtain ⟨b7, rfl, rfl, rfl⟩ := hΦ; clear hB
            refine ⟨jy (jy (jy (JOk.top) (ldv rfl rfl)) (ldv rfl rfl)) (ldv rfl rfl), ?_⟩
            refine Dx.one (i := 9) (by kernel_rfl) ?_
            refine Dstep.o0 (i := 9) rfl (st6 sz46 rfl rfl rfl rfl rfl rfl) (fun v B' H' hΦ hB => ?_)
            obtain ⟨rfl, rfl⟩ := hΦ; clear hB v
            refine ⟨jy (jy (je (JOk.top) (by kernel_rfl)) (ldv rfl rfl)) (ldv rfl rfl), ?_⟩
            refine Dx.one (i := 10) (by kernel_rfl) ?_
            refine Dstep.o0 (i := 10) rfl (st6 sz46 rfl rfl rfl rfl rfl rfl) (fun v B' H' hΦ hB => ?_)
            obtain ⟨rfl, rfl⟩ := hΦ; clear hB v
            refine ⟨jy (je (je (JOk.top) (by kernel_rfl)) (by kernel_rfl)) (ldv rfl rfl), ?_⟩
            refine Dx.one (i := 11) (by kernel_rfl) ?_
            refine Dstep.o0 (i := 11) rfl (st6 sz46 rfl rfl rfl rfl rfl rfl) (fun v B' H' hΦ hB => ?_)
            obtain ⟨rfl, rfl⟩ := hΦ; clear hB v
            refine ⟨je (je (je (JOk.top) (by kernel_rfl)) (by kernel_rfl)) (by kernel_rfl), ?_⟩
            refine Dx.done (by kernel_rfl) ?_
            exact Xx.mkK (mO hB2 hB3 hB4 hv2 hv3 hv4 rfl) (Sub.cons (s := 7) rfl (Sub.cons (s := 8) rfl (Sub.cons (s := 9) rfl (Sub.cons (s := 6) rfl (Sub.nil _)))))
          refine Dstep.o (i := 8) rfl (allocO ti46) rfl (fun v B' H' hΦ hB => ?_)
          obtain ⟨b9, rfl, rfl, rfl⟩ := hΦ; clear hB
          refine ⟨jy (jy (jy (JOk.top) (ldv rfl rfl)) (ldv rfl rfl)) (ldv rfl rfl), ?_⟩
          refine Dx.two (i := 6) (j := 7) (by kernel_rfl) ?_ ?_
          · skip
            refine Dstep.o (i := 6) rfl (allocO ti46) rfl (fun v B' H' hΦ hB => ?_)
            obtain ⟨b7, rfl, rfl, rfl⟩ := hΦ; clear hB
            refine ⟨jy (jy (jy (JOk.top) (ldv rfl rfl)) (ldv rfl rfl)) (ldv rfl rfl), ?_⟩
            refine Dx.one (i := 7) (by kernel_rfl) ?_
            refine Dstep.o (i := 7) rfl (allocO ti46) rfl (fun v B' H' hΦ hB => ?_)
            obtain ⟨b8, rfl, rfl, rfl⟩ := hΦ; clear hB
            refine ⟨jy (jy (jy (JOk.top) (ldv rfl rfl)) (ldv rfl rfl)) (ldv rfl rfl), ?_⟩
            refine Dx.one (i := 9) (by kernel_rfl) ?_
            refine Dstep.o0 (i := 9) rfl (st6 sz46 rfl rfl rfl rfl rfl rfl) (fun v B' H' hΦ hB => ?_)
            obtain ⟨rfl, rfl⟩ := hΦ; clear hB v
            refine ⟨jy (jy (je (JOk.top) (by kernel_rfl)) (ldv rfl rfl)) (ldv rfl rfl), ?_⟩
            refine Dx.one (i := 10) (by kernel_rfl) ?_
            refine Dstep.o0 (i := 10) rfl (st6 sz46 rfl rfl rfl rfl rfl rfl) (fun v B' H' hΦ hB => ?_)
            obtain ⟨rfl, rfl⟩ := hΦ; clear hB v
            refine ⟨jy (je (je (JOk.top) (by kernel_rfl)) (by kernel_rfl)) (ldv rfl rfl), ?_⟩
            refine Dx.one (i := 11) (by kernel_rfl) ?_
            refine Dstep.o0 (i := 11) rfl (st6 sz46 rfl rfl rfl rfl rfl rfl) (fun v B' H' hΦ hB => ?_)
            obtain ⟨rfl, rfl⟩ := hΦ; clear hB v
            refine ⟨je (je (je (JOk.top) (by kernel_rfl)) (by kernel_rfl)) (by kernel_rfl), ?_⟩
            refine Dx.done (by kernel_rfl) ?_
            exact Xx.mkK (mO hB2 hB3 hB4 hv2 hv3 hv4 rfl) (Sub.cons (s := 7) rfl (Sub.cons (s := 8) rfl (Sub.cons (s := 9) rfl (Sub.cons (s := 6) rfl (Sub.nil _)))))
          refine Dstep.o (i := 7) rfl (allocO ti46) rfl (fun v B' H' hΦ hB => ?_)
          obtain ⟨b8, rfl, rfl, rfl⟩ := hΦ; clear hB
          refine ⟨jy (jy (jy (JOk.top) (ldv rfl rfl)) (ldv rfl rfl)) (ldv rfl rfl), ?_⟩
          refine Dx.one (i := 6) (by kernel_rfl) ?_
          refine Dstep.o (i := 6) rfl (allocO ti46) rfl (fun v B' H' hΦ hB => ?_)
          obtain ⟨b7, rfl, rfl, rfl⟩ := hΦ; clear hB
          refine ⟨jy (jy (jy (JOk.top) (ldv rfl rfl)) (ldv rfl rfl)) (ldv rfl rfl), ?_⟩
          refine Dx.one (i := 9) (by kernel_rfl) ?_
          refine Dstep.o0 (i := 9) rfl (st6 sz46 rfl rfl rfl rfl rfl rfl) (fun v B' H' hΦ hB => ?_)
          obtain ⟨rfl, rfl⟩ := hΦ; clear hB v
          refine ⟨jy (jy (je (JOk.top) (by kernel_rfl)) (ldv rfl rfl)) (ldv rfl rfl), ?_⟩
          refine Dx.one (i := 10) (by kernel_rfl) ?_
          refine Dstep.o0 (i := 10) rfl (st6 sz46 rfl rfl rfl rfl rfl rfl) (fun v B' H' hΦ hB => ?_)
          obtain ⟨rfl, rfl⟩ := hΦ; clear hB v
          refine ⟨jy (je (je (JOk.top) (by kernel_rfl)) (by kernel_rfl)) (ldv rfl rfl), ?_⟩
          refine Dx.one (i := 11) (by kernel_rfl) ?_
          refine Dstep.o0 (i := 11) rfl (st6 sz46 rfl rfl rfl rfl rfl rfl) (fun v B' H' hΦ hB => ?_)
          obtain ⟨rfl, rfl⟩ := hΦ; clear hB v
          refine ⟨je (je (je (JOk.top) (by kernel_rfl)) (by kernel_rfl)) (by kernel_rfl), ?_⟩
          refine Dx.done (by kernel_rfl) ?_
          exact Xx.mkK (mO hB2 hB3 hB4 hv2 hv3 hv4 rfl) (Sub.cons (s := 7) rfl (Sub.cons (s := 8) rfl (Sub.cons (s := 9) rfl (Sub.cons (s := 6) rfl (Sub.nil _)))))
        · skip
          refine Dstep.o (i := 6) rfl (allocO ti46) rfl (fun v B' H' hΦ hB => ?_)
          obtain ⟨b7, rfl, rfl, rfl⟩ := hΦ; clear hB
          refine ⟨jy (jy (jy (JOk.top) (ldv rfl rfl)) (ldv rfl rfl)) (ldv rfl rfl), ?_⟩
          refine Dx.three (i := 5) (j := 7) (l := 8) (by kernel_rfl) ?_ ?_ ?_
          · skip
            refine Dstep.o (i := 5) rfl (Ox.cb rfl rfl rfl (cut8 (ValR.mono hB3 (ValR.mono hB2 hz)))) rfl (fun v B' H' hΦ hB => ?_)
            obtain ⟨rfl, hΦ⟩ := hΦ
            obtain ⟨cs4, rfl, hv4⟩ := hΦ
            obtain ⟨Apcs4, cpcs4, Ancs4, cncs4, rfl⟩ := ValR.shape hv4
            have hB4 := hB
            refine ⟨je (jy (jy (JOk.top) (ldv rfl rfl)) (ldv rfl rfl)) (by kernel_rfl), ?_⟩
            refine Dx.two (i := 7) (j := 8) (by kernel_rfl) ?_ ?_
            · skip
              refine Dstep.o (i := 7) rfl (allocO ti46) rfl (fun v B' H' hΦ hB => ?_)
              obtain ⟨b8, rfl, rfl, rfl⟩ := hΦ; clear hB
              refine ⟨jy (jy (jy (JOk.top) (ldv rfl rfl)) (ldv rfl rfl)) (ldv rfl rfl), ?_⟩
              refine Dx.one (i := 8) (by kernel_rfl) ?_
              refine Dstep.o (i := 8) rfl (allocO ti46) rfl (fun v B' H' hΦ hB => ?_)
              obtain ⟨b9, rfl, rfl, rfl⟩ := hΦ; clear hB
              refine ⟨jy (jy (jy (JOk.top) (ldv rfl rfl)) (ldv rfl rfl)) (ldv rfl rfl), ?_⟩
              refine Dx.one (i := 9) (by kernel_rfl) ?_
              refine Dstep.o0 (i := 9) rfl (st6 sz46 rfl rfl rfl rfl rfl rfl) (fun v B' H' hΦ hB => ?_)
              obtain ⟨rfl, rfl⟩ := hΦ; clear hB v
              refine ⟨jy (jy (je (JOk.top) (by kernel_rfl)) (ldv rfl rfl)) (ldv rfl rfl), ?_⟩
              refine Dx.one (i := 10) (by kernel_rfl) ?_
              refine Dstep.o0 (i := 10) rfl (st6 sz46 rfl rfl rfl rfl rfl rfl) (fun v B' H' hΦ hB => ?_)
              obtain ⟨rfl, rfl⟩ := hΦ; clear hB v
              refine ⟨jy (je (je (JOk.top) (by kernel_rfl)) (by kernel_rfl)) (ldv rfl rfl), ?_⟩
              refine Dx.one (i := 11) (by kernel_rfl) ?_
              refine Dstep.o0 (i := 11) rfl (st6 sz46 rfl rfl rfl rfl rfl rfl) (fun v B' H' hΦ hB => ?_)
              obtain ⟨rfl, rfl⟩ := hΦ; clear hB v
              refine ⟨je (je (je (JOk.top) (by kernel_rfl)) (by kernel_rfl)) (by kernel_rfl), ?_⟩
              refine Dx.done (by kernel_rfl) ?_
              exact Xx.mkK (mO hB2 hB3 hB4 hv2 hv3 hv4 rfl) (Sub.cons (s := 7) rfl (Sub.cons (s := 8) rfl (Sub.cons (s := 9) rfl (Sub.cons (s := 6) rfl (Sub.nil _)))))
            refine Dstep.o (i := 8) rfl (allocO ti46) rfl (fun v B' H' hΦ hB => ?_)
            obtain ⟨b9, rfl, rfl, rfl⟩ := hΦ; clear hB
            refine ⟨jy (jy (jy (JOk.top) (ldv rfl rfl)) (ldv rfl rfl)) (ldv rfl rfl), ?_⟩
            refine Dx.one (i := 7) (by kernel_rfl) ?_
            refine Dstep.o (i := 7) rfl (allocO ti46) rfl (fun v B' H' hΦ hB => ?_)
            obtain ⟨b8, rfl, rfl, rfl⟩ := hΦ; clear hB
            refine ⟨jy (jy (jy (JOk.top) (ldv rfl rfl)) (ldv rfl rfl)) (ldv rfl rfl), ?_⟩
            refine Dx.one (i := 9) (by kernel_rfl) ?_
            refine Dstep.o0 (i := 9) rfl (st6 sz46 rfl rfl rfl rfl rfl rfl) (fun v B' H' hΦ hB => ?_)
            obtain ⟨rfl, rfl⟩ := hΦ; clear hB v
            refine ⟨jy (jy (je (JOk.top) (by kernel_rfl)) (ldv rfl rfl)) (ldv rfl rfl), ?_⟩
            refine Dx.one (i := 10) (by kernel_rfl) ?_
            refine Dstep.o0 (i := 10) rfl (st6 sz46 rfl rfl rfl rfl rfl rfl) (fun v B' H' hΦ hB => ?_)
            obtain ⟨rfl, rfl⟩ := hΦ; clear hB v
            refine ⟨jy (je (je (JOk.top) (by kernel_rfl)) (by kernel_rfl)) (ldv rfl rfl), ?_⟩
            refine Dx.one (i := 11) (by kernel_rfl) ?_
            refine Dstep.o0 (i := 11) rfl (st6 sz46 rfl rfl rfl rfl rfl rfl) (fun v B' H' hΦ hB => ?_)
            obtain ⟨rfl, rfl⟩ := hΦ; clear hB v
            refine ⟨je (je (je (JOk.top) (by kernel_rfl)) (by kernel_rfl)) (by kernel_rfl), ?_⟩
            refine Dx.done (by kernel_rfl) ?_
            exact Xx.mkK (mO hB2 hB3 hB4 hv2 hv3 hv4 rfl) (Sub.cons (s := 7) rfl (Sub.cons (s := 8) rfl (Sub.cons (s := 9) rfl (Sub.cons (s := 6) rfl (Sub.nil _)))))
          · skip
            refine Dstep.o (i := 7) rfl (allocO ti46) rfl (fun v B' H' hΦ hB => ?_)
            obtain ⟨b8, rfl, rfl, rfl⟩ := hΦ; clear hB
            refine ⟨jy (jy (jy (JOk.top) (ldv rfl rfl)) (ldv rfl rfl)) (ldv rfl rfl), ?_⟩
            refine Dx.two (i := 5) (j := 8) (by kernel_rfl) ?_ ?_
            · skip
              refine Dstep.o (i := 5) rfl (Ox.cb rfl rfl rfl (cut8 (ValR.mono hB3 (ValR.mono hB2 hz)))) rfl (fun v B' H' hΦ hB => ?_)
              obtain ⟨rfl, hΦ⟩ := hΦ
              obtain ⟨cs4, rfl, hv4⟩ := hΦ
              obtain ⟨Apcs4, cpcs4, Ancs4, cncs4, rfl⟩ := ValR.shape hv4
              have hB4 := hB
              refine ⟨je (jy (jy (JOk.top) (ldv rfl rfl)) (ldv rfl rfl)) (by kernel_rfl), ?_⟩
              refine Dx.one (i := 8) (by kernel_rfl) ?_
              refine Dstep.o (i := 8) rfl (allocO ti46) rfl (fun v B' H' hΦ hB => ?_)
              obtain ⟨b9, rfl, rfl, rfl⟩ := hΦ; clear hB
              refine ⟨jy (jy (jy (JOk.top) (ldv rfl rfl)) (ldv rfl rfl)) (ldv rfl rfl), ?_⟩
              refine Dx.one (i := 9) (by kernel_rfl) ?_
              refine Dstep.o0 (i := 9) rfl (st6 sz46 rfl rfl rfl rfl rfl rfl) (fun v B' H' hΦ hB => ?_)
              obtain ⟨rfl, rfl⟩ := hΦ; clear hB v
              refine ⟨jy (jy (je (JOk.top) (by kernel_rfl)) (ldv rfl rfl)) (ldv rfl rfl), ?_⟩
              refine Dx.one (i := 10) (by kernel_rfl) ?_
              refine Dstep.o0 (i := 10) rfl (st6 sz46 rfl rfl rfl rfl rfl rfl) (fun v B' H' hΦ hB => ?_)
              obtain ⟨rfl, rfl⟩ := hΦ; clear hB v
              refine ⟨jy (je (je (JOk.top) (by kernel_rfl)) (by kernel_rfl)) (ldv rfl rfl), ?_⟩
              refine Dx.one (i := 11) (by kernel_rfl) ?_
              refine Dstep.o0 (i := 11) rfl (st6 sz46 rfl rfl rfl rfl rfl rfl) (fun v B' H' hΦ hB => ?_)
              obtain ⟨rfl, rfl⟩ := hΦ; clear hB v
              refine ⟨je (je (je (JOk.top) (by kernel_rfl)) (by kernel_rfl)) (by kernel_rfl), ?_⟩
              refine Dx.done (by kernel_rfl) ?_
              exact Xx.mkK (mO hB2 hB3 hB4 hv2 hv3 hv4 rfl) (Sub.cons (s := 7) rfl (Sub.cons (s := 8) rfl (Sub.cons (s := 9) rfl (Sub.cons (s := 6) rfl (Sub.nil _)))))
            refine Dstep.o (i := 8) rfl (allocO ti46) rfl (fun v B' H' hΦ hB => ?_)
            obtain ⟨b9, rfl, rfl, rfl⟩ := hΦ; clear hB
            refine ⟨jy (jy (jy (JOk.top) (ldv rfl rfl)) (ldv rfl rfl)) (ldv rfl rfl), ?_⟩
            refine Dx.one (i := 5) (by kernel_rfl) ?_
            refine Dstep.o (i := 5) rfl (Ox.cb rfl rfl rfl (cut8 (ValR.mono hB3 (ValR.mono hB2 hz)))) rfl (fun v B' H' hΦ hB => ?_)
            obtain ⟨rfl, hΦ⟩ := hΦ
            obtain ⟨cs4, rfl, hv4⟩ := hΦ
            obtain ⟨Apcs4, cpcs4, Ancs4, cncs4, rfl⟩ := ValR.shape hv4
            have hB4 := hB
            refine ⟨je (jy (jy (JOk.top) (ldv rfl rfl)) (ldv rfl rfl)) (by kernel_rfl), ?_⟩
            refine Dx.one (i := 9) (by kernel_rfl) ?_
            refine Dstep.o0 (i := 9) rfl (st6 sz46 rfl rfl rfl rfl rfl rfl) (fun v B' H' hΦ hB => ?_)
            obtain ⟨rfl, rfl⟩ := hΦ; clear hB v
            refine ⟨jy (jy (je (JOk.top) (by kernel_rfl)) (ldv rfl rfl)) (ldv rfl rfl), ?_⟩
            refine Dx.one (i := 10) (by kernel_rfl) ?_
            refine Dstep.o0 (i := 10) rfl (st6 sz46 rfl rfl rfl rfl rfl rfl) (fun v B' H' hΦ hB => ?_)
            obtain ⟨rfl, rfl⟩ := hΦ; clear hB v
            refine ⟨jy (je (je (JOk.top) (by kernel_rfl)) (by kernel_rfl)) (ldv rfl rfl), ?_⟩
            refine Dx.one (i := 11) (by kernel_rfl) ?_
            refine Dstep.o0 (i := 11) rfl (st6 sz46 rfl rfl rfl rfl rfl rfl) (fun v B' H' hΦ hB => ?_)
            obtain ⟨rfl, rfl⟩ := hΦ; clear hB v
            refine ⟨je (je (je (JOk.top) (by kernel_rfl)) (by kernel_rfl)) (by kernel_rfl), ?_⟩
            refine Dx.done (by kernel_rfl) ?_
            exact Xx.mkK (mO hB2 hB3 hB4 hv2 hv3 hv4 rfl) (Sub.cons (s := 7) rfl (Sub.cons (s := 8) rfl (Sub.cons (s := 9) rfl (Sub.cons (s := 6) rfl (Sub.nil _)))))
          refine Dstep.o (i := 8) rfl (allocO ti46) rfl (fun v B' H' hΦ hB => ?_)
          obtain ⟨b9, rfl, rfl, rfl⟩ := hΦ; clear hB
          refine ⟨jy (jy (jy (JOk.top) (ldv rfl rfl)) (ldv rfl rfl)) (ldv rfl rfl), ?_⟩
          refine Dx.two (i := 5) (j := 7) (by kernel_rfl) ?_ ?_
          · skip
            refine Dstep.o (i := 5) rfl (Ox.cb rfl rfl rfl (cut8 (ValR.mono hB3 (ValR.mono hB2 hz)))) rfl (fun v B' H' hΦ hB => ?_)
            obtain ⟨rfl, hΦ⟩ := hΦ
            obtain ⟨cs4, rfl, hv4⟩ := hΦ
            obtain ⟨Apcs4, cpcs4, Ancs4, cncs4, rfl⟩ := ValR.shape hv4
            have hB4 := hB
            refine ⟨je (jy (jy (JOk.top) (ldv rfl rfl)) (ldv rfl rfl)) (by kernel_rfl), ?_⟩
            refine Dx.one (i := 7) (by kernel_rfl) ?_
            refine Dstep.o (i := 7) rfl (allocO ti46) rfl (fun v B' H' hΦ hB => ?_)
            obtain ⟨b8, rfl, rfl, rfl⟩ := hΦ; clear hB
            refine ⟨jy (jy (jy (JOk.top) (ldv rfl rfl)) (ldv rfl rfl)) (ldv rfl rfl), ?_⟩
            refine Dx.one (i := 9) (by kernel_rfl) ?_
            refine Dstep.o0 (i := 9) rfl (st6 sz46 rfl rfl rfl rfl rfl rfl) (fun v B' H' hΦ hB => ?_)
            obtain ⟨rfl, rfl⟩ := hΦ; clear hB v
            refine ⟨jy (jy (je (JOk.top) (by kernel_rfl)) (ldv rfl rfl)) (ldv rfl rfl), ?_⟩
            refine Dx.one (i := 10) (by kernel_rfl) ?_
            refine Dstep.o0 (i := 10) rfl (st6 sz46 rfl rfl rfl rfl rfl rfl) (fun v B' H' hΦ hB => ?_)
            obtain ⟨rfl, rfl⟩ := hΦ; clear hB v
            refine ⟨jy (je (je (JOk.top) (by kernel_rfl)) (by kernel_rfl)) (ldv rfl rfl), ?_⟩
            refine Dx.one (i := 11) (by kernel_rfl) ?_
            refine Dstep.o0 (i := 11) rfl (st6 sz46 rfl rfl rfl rfl rfl rfl) (fun v B' H' hΦ hB => ?_)
            obtain ⟨rfl, rfl⟩ := hΦ; clear hB v
            refine ⟨je (je (je (JOk.top) (by kernel_rfl)) (by kernel_rfl)) (by kernel_rfl), ?_⟩
            refine Dx.done (by kernel_rfl) ?_
            exact Xx.mkK (mO hB2 hB3 hB4 hv2 hv3 hv4 rfl) (Sub.cons (s := 7) rfl (Sub.cons (s := 8) rfl (Sub.cons (s := 9) rfl (Sub.cons (s := 6) rfl (Sub.nil _)))))
          refine Dstep.o (i := 7) rfl (allocO ti46) rfl (fun v B' H' hΦ hB => ?_)
          obtain ⟨b8, rfl, rfl, rfl⟩ := hΦ; clear hB
          refine ⟨jy (jy (jy (JOk.top) (ldv rfl rfl)) (ldv rfl rfl)) (ldv rfl rfl), ?_⟩
          refine Dx.one (i := 5) (by kernel_rfl) ?_
          refine Dstep.o (i := 5) rfl (Ox.cb rfl rfl rfl (cut8 (ValR.mono hB3 (ValR.mono hB2 hz)))) rfl (fun v B' H' hΦ hB => ?_)
          obtain ⟨rfl, hΦ⟩ := hΦ
          obtain ⟨cs4, rfl, hv4⟩ := hΦ
          obtain ⟨Apcs4, cpcs4, Ancs4, cncs4, rfl⟩ := ValR.shape hv4
          have hB4 := hB
          refine ⟨je (jy (jy (JOk.top) (ldv rfl rfl)) (ldv rfl rfl)) (by kernel_rfl), ?_⟩
          refine Dx.one (i := 9) (by kernel_rfl) ?_
          refine Dstep.o0 (i := 9) rfl (st6 sz46 rfl rfl rfl rfl rfl rfl) (fun v B' H' hΦ hB => ?_)
          obtain ⟨rfl, rfl⟩ := hΦ; clear hB v
          refine ⟨jy (jy (je (JOk.top) (by kernel_rfl)) (ldv rfl rfl)) (ldv rfl rfl), ?_⟩
          refine Dx.one (i := 10) (by kernel_rfl) ?_
          refine Dstep.o0 (i := 10) rfl (st6 sz46 rfl rfl rfl rfl rfl rfl) (fun v B' H' hΦ hB => ?_)
          obtain ⟨rfl, rfl⟩ := hΦ; clear hB v
          refine ⟨jy (je (je (JOk.top) (by kernel_rfl)) (by kernel_rfl)) (ldv rfl rfl), ?_⟩
          refine Dx.one (i := 11) (by kernel_rfl) ?_
          refine Dstep.o0 (i := 11) rfl (st6 sz46 rfl rfl rfl rfl rfl rfl) (fun v B' H' hΦ hB => ?_)
          obtain ⟨rfl, rfl⟩ := hΦ; clear hB v
          refine ⟨je (je (je (JOk.top) (by kernel_rfl)) (by kernel_rfl)) (by kernel_rfl), ?_⟩
          refine Dx.done (by kernel_rfl) ?_
          exact Xx.mkK (mO hB2 hB3 hB4 hv2 hv3 hv4 rfl) (Sub.cons (s := 7) rfl (Sub.cons (s := 8) rfl (Sub.cons (s := 9) rfl (Sub.cons (s := 6) rfl (Sub.nil _)))))
        · skip
          refine Dstep.o (i := 7) rfl (allocO ti46) rfl (fun v B' H' hΦ hB => ?_)
          obtain ⟨b8, rfl, rfl, rfl⟩ := hΦ; clear hB
          refine ⟨jy (jy (jy (JOk.top) (ldv rfl rfl)) (ldv rfl rfl)) (ldv rfl rfl), ?_⟩
          refine Dx.three (i := 5) (j := 6) (l := 8) (by kernel_rfl) ?_ ?_ ?_
          · skip
            refine Dstep.o (i := 5) rfl (Ox.cb rfl rfl rfl (cut8 (ValR.mono hB3 (ValR.mono hB2 hz)))) rfl (fun v B' H' hΦ hB => ?_)
            obtain ⟨rfl, hΦ⟩ := hΦ
            obtain ⟨cs4, rfl, hv4⟩ := hΦ
            obtain ⟨Apcs4, cpcs4, Ancs4, cncs4, rfl⟩ := ValR.shape hv4
            have hB4 := hB
            refine ⟨je (jy (jy (JOk.top) (ldv rfl rfl)) (ldv rfl rfl)) (by kernel_rfl), ?_⟩
            refine Dx.two (i := 6) (j := 8) (by kernel_rfl) ?_ ?_
            · skip
              refine Dstep.o (i := 6) rfl (allocO ti46) rfl (fun v B' H' hΦ hB => ?_)
              obtain ⟨b7, rfl, rfl, rfl⟩ := hΦ; clear hB
              refine ⟨jy (jy (jy (JOk.top) (ldv rfl rfl)) (ldv rfl rfl)) (ldv rfl rfl), ?_⟩
              refine Dx.one (i := 8) (by kernel_rfl) ?_
              refine Dstep.o (i := 8) rfl (allocO ti46) rfl (fun v B' H' hΦ hB => ?_)
              obtain ⟨b9, rfl, rfl, rfl⟩ := hΦ; clear hB
              refine ⟨jy (jy (jy (JOk.top) (ldv rfl rfl)) (ldv rfl rfl)) (ldv rfl rfl), ?_⟩
              refine Dx.one (i := 9) (by kernel_rfl) ?_
              refine Dstep.o0 (i := 9) rfl (st6 sz46 rfl rfl rfl rfl rfl rfl) (fun v B' H' hΦ hB => ?_)
              obtain ⟨rfl, rfl⟩ := hΦ; clear hB v
              refine ⟨jy (jy (je (JOk.top) (by kernel_rfl)) (ldv rfl rfl)) (ldv rfl rfl), ?_⟩
              refine Dx.one (i := 10) (by kernel_rfl) ?_
              refine Dstep.o0 (i := 10) rfl (st6 sz46 rfl rfl rfl rfl rfl rfl) (fun v B' H' hΦ hB => ?_)
              obtain ⟨rfl, rfl⟩ := hΦ; clear hB v
              refine ⟨jy (je (je (JOk.top) (by kernel_rfl)) (by kernel_rfl)) (ldv rfl rfl), ?_⟩
              refine Dx.one (i := 11) (by kernel_rfl) ?_
              refine Dstep.o0 (i := 11) rfl (st6 sz46 rfl rfl rfl rfl rfl rfl) (fun v B' H' hΦ hB => ?_)
              obtain ⟨rfl, rfl⟩ := hΦ; clear hB v
              refine ⟨je (je (je (JOk.top) (by kernel_rfl)) (by kernel_rfl)) (by kernel_rfl), ?_⟩
              refine Dx.done (by kernel_rfl) ?_
              exact Xx.mkK (mO hB2 hB3 hB4 hv2 hv3 hv4 rfl) (Sub.cons (s := 7) rfl (Sub.cons (s := 8) rfl (Sub.cons (s := 9) rfl (Sub.cons (s := 6) rfl (Sub.nil _)))))
            refine Dstep.o (i := 8) rfl (allocO ti46) rfl (fun v B' H' hΦ hB => ?_)
            obtain ⟨b9, rfl, rfl, rfl⟩ := hΦ; clear hB
            refine ⟨jy (jy (jy (JOk.top) (ldv rfl rfl)) (ldv rfl rfl)) (ldv rfl rfl), ?_⟩
            refine Dx.one (i := 6) (by kernel_rfl) ?_
            refine Dstep.o (i := 6) rfl (allocO ti46) rfl (fun v B' H' hΦ hB => ?_)
            obtain ⟨b7, rfl, rfl, rfl⟩ := hΦ; clear hB
            refine ⟨jy (jy (jy (JOk.top) (ldv rfl rfl)) (ldv rfl rfl)) (ldv rfl rfl), ?_⟩
            refine Dx.one (i := 9) (by kernel_rfl) ?_
            refine Dstep.o0 (i := 9) rfl (st6 sz46 rfl rfl rfl rfl rfl rfl) (fun v B' H' hΦ hB => ?_)
            obtain ⟨rfl, rfl⟩ := hΦ; clear hB v
            refine ⟨jy (jy (je (JOk.top) (by kernel_rfl)) (ldv rfl rfl)) (ldv rfl rfl), ?_⟩
            refine Dx.one (i := 10) (by kernel_rfl) ?_
            refine Dstep.o0 (i := 10) rfl (st6 sz46 rfl rfl rfl rfl rfl rfl) (fun v B' H' hΦ hB => ?_)
            obtain ⟨rfl, rfl⟩ := hΦ; clear hB v
            refine ⟨jy (je (je (JOk.top) (by kernel_rfl)) (by kernel_rfl)) (ldv rfl rfl), ?_⟩
            refine Dx.one (i := 11) (by kernel_rfl) ?_
            refine Dstep.o0 (i := 11) rfl (st6 sz46 rfl rfl rfl rfl rfl rfl) (fun v B' H' hΦ hB => ?_)
            obtain ⟨rfl, rfl⟩ := hΦ; clear hB v
            refine ⟨je (je (je (JOk.top) (by kernel_rfl)) (by kernel_rfl)) (by kernel_rfl), ?_⟩
            refine Dx.done (by kernel_rfl) ?_
            exact Xx.mkK (mO hB2 hB3 hB4 hv2 hv3 hv4 rfl) (Sub.cons (s := 7) rfl (Sub.cons (s := 8) rfl (Sub.cons (s := 9) rfl (Sub.cons (s := 6) rfl (Sub.nil _)))))
          · skip
            refine Dstep.o (i := 6) rfl (allocO ti46) rfl (fun v B' H' hΦ hB => ?_)
            obtain ⟨b7, rfl, rfl, rfl⟩ := hΦ; clear hB
            refine ⟨jy (jy (jy (JOk.top) (ldv rfl rfl)) (ldv rfl rfl)) (ldv rfl rfl), ?_⟩
            refine Dx.two (i := 5) (j := 8) (by kernel_rfl) ?_ ?_
            · skip
              refine Dstep.o (i := 5) rfl (Ox.cb rfl rfl rfl (cut8 (ValR.mono hB3 (ValR.mono hB2 hz)))) rfl (fun v B' H' hΦ hB => ?_)
              obtain ⟨rfl, hΦ⟩ := hΦ
              obtain ⟨cs4, rfl, hv4⟩ := hΦ
              obtain ⟨Apcs4, cpcs4, Ancs4, cncs4, rfl⟩ := ValR.shape hv4
              have hB4 := hB
              refine ⟨je (jy (jy (JOk.top) (ldv rfl rfl)) (ldv rfl rfl)) (by kernel_rfl), ?_⟩
              refine Dx.one (i := 8) (by kernel_rfl) ?_
              refine Dstep.o (i := 8) rfl (allocO ti46) rfl (fun v B' H' hΦ hB => ?_)
              obtain ⟨b9, rfl, rfl, rfl⟩ := hΦ; clear hB
              refine ⟨jy (jy (jy (JOk.top) (ldv rfl rfl)) (ldv rfl rfl)) (ldv rfl rfl), ?_⟩
              refine Dx.one (i := 9) (by kernel_rfl) ?_
              refine Dstep.o0 (i := 9) rfl (st6 sz46 rfl rfl rfl rfl rfl rfl) (fun v B' H' hΦ hB => ?_)
              obtain ⟨rfl, rfl⟩ := hΦ; clear hB v
              refine ⟨jy (jy (je (JOk.top) (by kernel_rfl)) (ldv rfl rfl)) (ldv rfl rfl), ?_⟩
              refine Dx.one (i := 10) (by kernel_rfl) ?_
              refine Dstep.o0 (i := 10) rfl (st6 sz46 rfl rfl rfl rfl rfl rfl) (fun v B' H' hΦ hB => ?_)
              obtain ⟨rfl, rfl⟩ := hΦ; clear hB v
              refine ⟨jy (je (je (JOk.top) (by kernel_rfl)) (by kernel_rfl)) (ldv rfl rfl), ?_⟩
              refine Dx.one (i := 11) (by kernel_rfl) ?_
              refine Dstep.o0 (i := 11) rfl (st6 sz46 rfl rfl rfl rfl rfl rfl) (fun v B' H' hΦ hB => ?_)
              obtain ⟨rfl, rfl⟩ := hΦ; clear hB v
              refine ⟨je (je (je (JOk.top) (by kernel_rfl)) (by kernel_rfl)) (by kernel_rfl), ?_⟩
              refine Dx.done (by kernel_rfl) ?_
              exact Xx.mkK (mO hB2 hB3 hB4 hv2 hv3 hv4 rfl) (Sub.cons (s := 7) rfl (Sub.cons (s := 8) rfl (Sub.cons (s := 9) rfl (Sub.cons (s := 6) rfl (Sub.nil _)))))
            refine Dstep.o (i := 8) rfl (allocO ti46) rfl (fun v B' H' hΦ hB => ?_)
            obtain ⟨b9, rfl, rfl, rfl⟩ := hΦ; clear hB
            refine ⟨jy (jy (jy (JOk.top) (ldv rfl rfl)) (ldv rfl rfl)) (ldv rfl rfl), ?_⟩
            refine Dx.one (i := 5) (by kernel_rfl) ?_
            refine Dstep.o (i := 5) rfl (Ox.cb rfl rfl rfl (cut8 (ValR.mono hB3 (ValR.mono hB2 hz)))) rfl (fun v B' H' hΦ hB => ?_)
            obtain ⟨rfl, hΦ⟩ := hΦ
            obtain ⟨cs4, rfl, hv4⟩ := hΦ
            obtain ⟨Apcs4, cpcs4, Ancs4, cncs4, rfl⟩ := ValR.shape hv4
            have hB4 := hB
            refine ⟨je (jy (jy (JOk.top) (ldv rfl rfl)) (ldv rfl rfl)) (by kernel_rfl), ?_⟩
            refine Dx.one (i := 9) (by kernel_rfl) ?_
            refine Dstep.o0 (i := 9) rfl (st6 sz46 rfl rfl rfl rfl rfl rfl) (fun v B' H' hΦ hB => ?_)
            obtain ⟨rfl, rfl⟩ := hΦ; clear hB v
            refine ⟨jy (jy (je (JOk.top) (by kernel_rfl)) (ldv rfl rfl)) (ldv rfl rfl), ?_⟩
            refine Dx.one (i := 10) (by kernel_rfl) ?_
            refine Dstep.o0 (i := 10) rfl (st6 sz46 rfl rfl rfl rfl rfl rfl) (fun v B' H' hΦ hB => ?_)
            obtain ⟨rfl, rfl⟩ := hΦ; clear hB v
            refine ⟨jy (je (je (JOk.top) (by kernel_rfl)) (by kernel_rfl)) (ldv rfl rfl), ?_⟩
            refine Dx.one (i := 11) (by kernel_rfl) ?_
            refine Dstep.o0 (i := 11) rfl (st6 sz46 rfl rfl rfl rfl rfl rfl) (fun v B' H' hΦ hB => ?_)
            obtain ⟨rfl, rfl⟩ := hΦ; clear hB v
            refine ⟨je (je (je (JOk.top) (by kernel_rfl)) (by kernel_rfl)) (by kernel_rfl), ?_⟩
            refine Dx.done (by kernel_rfl) ?_
            exact Xx.mkK (mO hB2 hB3 hB4 hv2 hv3 hv4 rfl) (Sub.cons (s := 7) rfl (Sub.cons (s := 8) rfl (Sub.cons (s := 9) rfl (Sub.cons (s := 6) rfl (Sub.nil _)))))
          refine Dstep.o (i := 8) rfl (allocO ti46) rfl (fun v B' H' hΦ hB => ?_)
          obtain ⟨b9, rfl, rfl, rfl⟩ := hΦ; clear hB
          refine ⟨jy (jy (jy (JOk.top) (ldv rfl rfl)) (ldv rfl rfl)) (ldv rfl rfl), ?_⟩
          refine Dx.two (i := 5) (j := 6) (by kernel_rfl) ?_ ?_
          · skip
            refine Dstep.o (i := 5) rfl (Ox.cb rfl rfl rfl (cut8 (ValR.mono hB3 (ValR.mono hB2 hz)))) rfl (fun v B' H' hΦ hB => ?_)
            obtain ⟨rfl, hΦ⟩ := hΦ
            obtain ⟨cs4, rfl, hv4⟩ := hΦ
            obtain ⟨Apcs4, cpcs4, Ancs4, cncs4, rfl⟩ := ValR.shape hv4
            have hB4 := hB
            refine ⟨je (jy (jy (JOk.top) (ldv rfl rfl)) (ldv rfl rfl)) (by kernel_rfl), ?_⟩
            refine Dx.one (i := 6) (by kernel_rfl) ?_
            refine Dstep.o (i := 6) rfl (allocO ti46) rfl (fun v B' H' hΦ hB => ?_)
            obtain ⟨b7, rfl, rfl, rfl⟩ := hΦ; clear hB
            refine ⟨jy (jy (jy (JOk.top) (ldv rfl rfl)) (ldv rfl rfl)) (ldv rfl rfl), ?_⟩
            refine Dx.one (i := 9) (by kernel_rfl) ?_
            refine Dstep.o0 (i := 9) rfl (st6 sz46 rfl rfl rfl rfl rfl rfl) (fun v B' H' hΦ hB => ?_)
            obtain ⟨rfl, rfl⟩ := hΦ; clear hB v
            refine ⟨jy (jy (je (JOk.top) (by kernel_rfl)) (ldv rfl rfl)) (ldv rfl rfl), ?_⟩
            refine Dx.one (i := 10) (by kernel_rfl) ?_
            refine Dstep.o0 (i := 10) rfl (st6 sz46 rfl rfl rfl rfl rfl rfl) (fun v B' H' hΦ hB => ?_)
            obtain ⟨rfl, rfl⟩ := hΦ; clear hB v
            refine ⟨jy (je (je (JOk.top) (by kernel_rfl)) (by kernel_rfl)) (ldv rfl rfl), ?_⟩
            refine Dx.one (i := 11) (by kernel_rfl) ?_
            refine Dstep.o0 (i := 11) rfl (st6 sz46 rfl rfl rfl rfl rfl rfl) (fun v B' H' hΦ hB => ?_)
            obtain ⟨rfl, rfl⟩ := hΦ; clear hB v
            refine ⟨je (je (je (JOk.top) (by kernel_rfl)) (by kernel_rfl)) (by kernel_rfl), ?_⟩
            refine Dx.done (by kernel_rfl) ?_
            exact Xx.mkK (mO hB2 hB3 hB4 hv2 hv3 hv4 rfl) (Sub.cons (s := 7) rfl (Sub.cons (s := 8) rfl (Sub.cons (s := 9) rfl (Sub.cons (s := 6) rfl (Sub.nil _)))))
          refine Dstep.o (i := 6) rfl (allocO ti46) rfl (fun v B' H' hΦ hB => ?_)
          obtain ⟨b7, rfl, rfl, rfl⟩ := hΦ; clear hB
          refine ⟨jy (jy (jy (JOk.top) (ldv rfl rfl)) (ldv rfl rfl)) (ldv rfl rfl), ?_⟩
          refine Dx.one (i := 5) (by kernel_rfl) ?_
          refine Dstep.o (i := 5) rfl (Ox.cb rfl rfl rfl (cut8 (ValR.mono hB3 (ValR.mono hB2 hz)))) rfl (fun v B' H' hΦ hB => ?_)
          obtain ⟨rfl, hΦ⟩ := hΦ
          obtain ⟨cs4, rfl, hv4⟩ := hΦ
          obtain ⟨Apcs4, cpcs4, Ancs4, cncs4, rfl⟩ := ValR.shape hv4
          have hB4 := hB
          refine ⟨je (jy (jy (JOk.top) (ldv rfl rfl)) (ldv rfl rfl)) (by kernel_rfl), ?_⟩
          refine Dx.one (i := 9) (by kernel_rfl) ?_
          refine Dstep.o0 (i := 9) rfl (st6 sz46 rfl rfl rfl rfl rfl rfl) (fun v B' H' hΦ hB => ?_)
          obtain ⟨rfl, rfl⟩ := hΦ; clear hB v
          refine ⟨jy (jy (je (JOk.top) (by kernel_rfl)) (ldv rfl rfl)) (ldv rfl rfl), ?_⟩
          refine Dx.one (i := 10) (by kernel_rfl) ?_
          refine Dstep.o0 (i := 10) rfl (st6 sz46 rfl rfl rfl rfl rfl rfl) (fun v B' H' hΦ hB => ?_)
          obtain ⟨rfl, rfl⟩ := hΦ; clear hB v
          refine ⟨jy (je (je (JOk.top) (by kernel_rfl)) (by kernel_rfl)) (ldv rfl rfl), ?_⟩
          refine Dx.one (i := 11) (by kernel_rfl) ?_
          refine Dstep.o0 (i := 11) rfl (st6 sz46 rfl rfl rfl rfl rfl rfl) (fun v B' H' hΦ hB => ?_)
          obtain ⟨rfl, rfl⟩ := hΦ; clear hB v
          refine ⟨je (je (je (JOk.top) (by kernel_rfl)) (by kernel_rfl)) (by kernel_rfl), ?_⟩
          refine Dx.done (by kernel_rfl) ?_
          exact Xx.mkK (mO hB2 hB3 hB4 hv2 hv3 hv4 rfl) (Sub.cons (s := 7) rfl (Sub.cons (s := 8) rfl (Sub.cons (s := 9) rfl (Sub.cons (s := 6) rfl (Sub.nil _)))))
        refine Dstep.o (i := 8) rfl (allocO ti46) rfl (fun v B' H' hΦ hB => ?_)
        obtain ⟨b9, rfl, rfl, rfl⟩ := hΦ; clear hB
        refine ⟨jy (jy (jy (JOk.top) (ldv rfl rfl)) (ldv rfl rfl)) (ldv rfl rfl), ?_⟩
        refine Dx.three (i := 5) (j := 6) (l := 7) (by kernel_rfl) ?_ ?_ ?_
        · skip
          refine Dstep.o (i := 5) rfl (Ox.cb rfl rfl rfl (cut8 (ValR.mono hB3 (ValR.mono hB2 hz)))) rfl (fun v B' H' hΦ hB => ?_)
          obtain ⟨rfl, hΦ⟩ := hΦ
          obtain ⟨cs4, rfl, hv4⟩ := hΦ
          obtain ⟨Apcs4, cpcs4, Ancs4, cncs4, rfl⟩ := ValR.shape hv4
          have hB4 := hB
          refine ⟨je (jy (jy (JOk.top) (ldv rfl rfl)) (ldv rfl rfl)) (by kernel_rfl), ?_⟩
          refine Dx.two (i := 6) (j := 7) (by kernel_rfl) ?_ ?_
          · skip
            refine Dstep.o (i := 6) rfl (allocO ti46) rfl (fun v B' H' hΦ hB => ?_)
            obtain ⟨b7, rfl, rfl, rfl⟩ := hΦ; clear hB
            refine ⟨jy (jy (jy (JOk.top) (ldv rfl rfl)) (ldv rfl rfl)) (ldv rfl rfl), ?_⟩
            refine Dx.one (i := 7) (by kernel_rfl) ?_
            refine Dstep.o (i := 7) rfl (allocO ti46) rfl (fun v B' H' hΦ hB => ?_)
            obtain ⟨b8, rfl, rfl, rfl⟩ := hΦ; clear hB
            refine ⟨jy (jy (jy (JOk.top) (ldv rfl rfl)) (ldv rfl rfl)) (ldv rfl rfl), ?_⟩
            refine Dx.one (i := 9) (by kernel_rfl) ?_
            refine Dstep.o0 (i := 9) rfl (st6 sz46 rfl rfl rfl rfl rfl rfl) (fun v B' H' hΦ hB => ?_)
            obtain ⟨rfl, rfl⟩ := hΦ; clear hB v
            refine ⟨jy (jy (je (JOk.top) (by kernel_rfl)) (ldv rfl rfl)) (ldv rfl rfl), ?_⟩
            refine Dx.one (i := 10) (by kernel_rfl) ?_
            refine Dstep.o0 (i := 10) rfl (st6 sz46 rfl rfl rfl rfl rfl rfl) (fun v B' H' hΦ hB => ?_)
            obtain ⟨rfl, rfl⟩ := hΦ; clear hB v
            refine ⟨jy (je (je (JOk.top) (by kernel_rfl)) (by kernel_rfl)) (ldv rfl rfl), ?_⟩
            refine Dx.one (i := 11) (by kernel_rfl) ?_
            refine Dstep.o0 (i := 11) rfl (st6 sz46 rfl rfl rfl rfl rfl rfl) (fun v B' H' hΦ hB => ?_)
            obtain ⟨rfl, rfl⟩ := hΦ; clear hB v
            refine ⟨je (je (je (JOk.top) (by kernel_rfl)) (by kernel_rfl)) (by kernel_rfl), ?_⟩
            refine Dx.done (by kernel_rfl) ?_
            exact Xx.mkK (mO hB2 hB3 hB4 hv2 hv3 hv4 rfl) (Sub.cons (s := 7) rfl (Sub.cons (s := 8) rfl (Sub.cons (s := 9) rfl (Sub.cons (s := 6) rfl (Sub.nil _)))))
          refine Dstep.o (i := 7) rfl (allocO ti46) rfl (fun v B' H' hΦ hB => ?_)
          obtain ⟨b8, rfl, rfl, rfl⟩ := hΦ; clear hB
          refine ⟨jy (jy (jy (JOk.top) (ldv rfl rfl)) (ldv rfl rfl)) (ldv rfl rfl), ?_⟩
          refine Dx.one (i := 6) (by kernel_rfl) ?_
          refine Dstep.o (i := 6) rfl (allocO ti46) rfl (fun v B' H' hΦ hB => ?_)
          obtain ⟨b7, rfl, rfl, rfl⟩ := hΦ; clear hB
          refine ⟨jy (jy (jy (JOk.top) (ldv rfl rfl)) (ldv rfl rfl)) (ldv rfl rfl), ?_⟩
          refine Dx.one (i := 9) (by kernel_rfl) ?_
          refine Dstep.o0 (i := 9) rfl (st6 sz46 rfl rfl rfl rfl rfl rfl) (fun v B' H' hΦ hB => ?_)
          obtain ⟨rfl, rfl⟩ := hΦ; clear hB v
          refine ⟨jy (jy (je (JOk.top) (by kernel_rfl)) (ldv rfl rfl)) (ldv rfl rfl), ?_⟩
          refine Dx.one (i := 10) (by kernel_rfl) ?_
          refine Dstep.o0 (i := 10) rfl (st6 sz46 rfl rfl rfl rfl rfl rfl) (fun v B' H' hΦ hB => ?_)
          obtain ⟨rfl, rfl⟩ := hΦ; clear hB v
          refine ⟨jy (je (je (JOk.top) (by kernel_rfl)) (by kernel_rfl)) (ldv rfl rfl), ?_⟩
          refine Dx.one (i := 11) (by kernel_rfl) ?_
          refine Dstep.o0 (i := 11) rfl (st6 sz46 rfl rfl rfl rfl rfl rfl) (fun v B' H' hΦ hB => ?_)
          obtain ⟨rfl, rfl⟩ := hΦ; clear hB v
          refine ⟨je (je (je (JOk.top) (by kernel_rfl)) (by kernel_rfl)) (by kernel_rfl), ?_⟩
          refine Dx.done (by kernel_rfl) ?_
          exact Xx.mkK (mO hB2 hB3 hB4 hv2 hv3 hv4 rfl) (Sub.cons (s := 7) rfl (Sub.cons (s := 8) rfl (Sub.cons (s := 9) rfl (Sub.cons (s := 6) rfl (Sub.nil _)))))
        · skip
          refine Dstep.o (i := 6) rfl (allocO ti46) rfl (fun v B' H' hΦ hB => ?_)
          obtain ⟨b7, rfl, rfl, rfl⟩ := hΦ; clear hB
          refine ⟨jy (jy (jy (JOk.top) (ldv rfl rfl)) (ldv rfl rfl)) (ldv rfl rfl), ?_⟩
          refine Dx.two (i := 5) (j := 7) (by kernel_rfl) ?_ ?_
          · skip
            refine Dstep.o (i := 5) rfl (Ox.cb rfl rfl rfl (cut8 (ValR.mono hB3 (ValR.mono hB2 hz)))) rfl (fun v B' H' hΦ hB => ?_)
            obtain ⟨rfl, hΦ⟩ := hΦ
            obtain ⟨cs4, rfl, hv4⟩ := hΦ
            obtain ⟨Apcs4, cpcs4, Ancs4, cncs4, rfl⟩ := ValR.shape hv4
            have hB4 := hB
            refine ⟨je (jy (jy (JOk.top) (ldv rfl rfl)) (ldv rfl rfl)) (by kernel_rfl), ?_⟩
            refine Dx.one (i := 7) (by kernel_rfl) ?_
            refine Dstep.o (i := 7) rfl (allocO ti46) rfl (fun v B' H' hΦ hB => ?_)
            obtain ⟨b8, rfl, rfl, rfl⟩ := hΦ; clear hB
            refine ⟨jy (jy (jy (JOk.top) (ldv rfl rfl)) (ldv rfl rfl)) (ldv rfl rfl), ?_⟩
            refine Dx.one (i := 9) (by kernel_rfl) ?_
            refine Dstep.o0 (i := 9) rfl (st6 sz46 rfl rfl rfl rfl rfl rfl) (fun v B' H' hΦ hB => ?_)
            obtain ⟨rfl, rfl⟩ := hΦ; clear hB v
            refine ⟨jy (jy (je (JOk.top) (by kernel_rfl)) (ldv rfl rfl)) (ldv rfl rfl), ?_⟩
            refine Dx.one (i := 10) (by kernel_rfl) ?_
            refine Dstep.o0 (i := 10) rfl (st6 sz46 rfl rfl rfl rfl rfl rfl) (fun v B' H' hΦ hB => ?_)
            obtain ⟨rfl, rfl⟩ := hΦ; clear hB v
            refine ⟨jy (je (je (JOk.top) (by kernel_rfl)) (by kernel_rfl)) (ldv rfl rfl), ?_⟩
            refine Dx.one (i := 11) (by kernel_rfl) ?_
            refine Dstep.o0 (i := 11) rfl (st6 sz46 rfl rfl rfl rfl rfl rfl) (fun v B' H' hΦ hB => ?_)
            obtain ⟨rfl, rfl⟩ := hΦ; clear hB v
            refine ⟨je (je (je (JOk.top) (by kernel_rfl)) (by kernel_rfl)) (by kernel_rfl), ?_⟩
            refine Dx.done (by kernel_rfl) ?_
            exact Xx.mkK (mO hB2 hB3 hB4 hv2 hv3 hv4 rfl) (Sub.cons (s := 7) rfl (Sub.cons (s := 8) rfl (Sub.cons (s := 9) rfl (Sub.cons (s := 6) rfl (Sub.nil _)))))
          refine Dstep.o (i := 7) rfl (allocO ti46) rfl (fun v B' H' hΦ hB => ?_)
          obtain ⟨b8, rfl, rfl, rfl⟩ := hΦ; clear hB
          refine ⟨jy (jy (jy (JOk.top) (ldv rfl rfl)) (ldv rfl rfl)) (ldv rfl rfl), ?_⟩
          refine Dx.one (i := 5) (by kernel_rfl) ?_
          refine Dstep.o (i := 5) rfl (Ox.cb rfl rfl rfl (cut8 (ValR.mono hB3 (ValR.mono hB2 hz)))) rfl (fun v B' H' hΦ hB => ?_)
          obtain ⟨rfl, hΦ⟩ := hΦ
          obtain ⟨cs4, rfl, hv4⟩ := hΦ
          obtain ⟨Apcs4, cpcs4, Ancs4, cncs4, rfl⟩ := ValR.shape hv4
          have hB4 := hB
          refine ⟨je (jy (jy (JOk.top) (ldv rfl rfl)) (ldv rfl rfl)) (by kernel_rfl), ?_⟩
          refine Dx.one (i := 9) (by kernel_rfl) ?_
          refine Dstep.o0 (i := 9) rfl (st6 sz46 rfl rfl rfl rfl rfl rfl) (fun v B' H' hΦ hB => ?_)
          obtain ⟨rfl, rfl⟩ := hΦ; clear hB v
          refine ⟨jy (jy (je (JOk.top) (by kernel_rfl)) (ldv rfl rfl)) (ldv rfl rfl), ?_⟩
          refine Dx.one (i := 10) (by kernel_rfl) ?_
          refine Dstep.o0 (i := 10) rfl (st6 sz46 rfl rfl rfl rfl rfl rfl) (fun v B' H' hΦ hB => ?_)
          obtain ⟨rfl, rfl⟩ := hΦ; clear hB v
          refine ⟨jy (je (je (JOk.top) (by kernel_rfl)) (by kernel_rfl)) (ldv rfl rfl), ?_⟩
          refine Dx.one (i := 11) (by kernel_rfl) ?_
          refine Dstep.o0 (i := 11) rfl (st6 sz46 rfl rfl rfl rfl rfl rfl) (fun v B' H' hΦ hB => ?_)
          obtain ⟨rfl, rfl⟩ := hΦ; clear hB v
          refine ⟨je (je (je (JOk.top) (by kernel_rfl)) (by kernel_rfl)) (by kernel_rfl), ?_⟩
          refine Dx.done (by kernel_rfl) ?_
          exact Xx.mkK (mO hB2 hB3 hB4 hv2 hv3 hv4 rfl) (Sub.cons (s := 7) rfl (Sub.cons (s := 8) rfl (Sub.cons (s := 9) rfl (Sub.cons (s := 6) rfl (Sub.nil _)))))
        refine Dstep.o (i := 7) rfl (allocO ti46) rfl (fun v B' H' hΦ hB => ?_)
        obtain ⟨b8, rfl, rfl, rfl⟩ := hΦ; clear hB
        refine ⟨jy (jy (jy (JOk.top) (ldv rfl rfl)) (ldv rfl rfl)) (ldv rfl rfl), ?_⟩
        refine Dx.two (i := 5) (j := 6) (by kernel_rfl) ?_ ?_
        · skip
          refine Dstep.o (i := 5) rfl (Ox.cb rfl rfl rfl (cut8 (ValR.mono hB3 (ValR.mono hB2 hz)))) rfl (fun v B' H' hΦ hB => ?_)
          obtain ⟨rfl, hΦ⟩ := hΦ
          obtain ⟨cs4, rfl, hv4⟩ := hΦ
          obtain ⟨Apcs4, cpcs4, Ancs4, cncs4, rfl⟩ := ValR.shape hv4
          have hB4 := hB
          refine ⟨je (jy (jy (JOk.top) (ldv rfl rfl)) (ldv rfl rfl)) (by kernel_rfl), ?_⟩
          refine Dx.one (i := 6) (by kernel_rfl) ?_
          refine Dstep.o (i := 6) rfl (allocO ti46) rfl (fun v B' H' hΦ hB => ?_)
          obtain ⟨b7, rfl, rfl, rfl⟩ := hΦ; clear hB
          refine ⟨jy (jy (jy (JOk.top) (ldv rfl rfl)) (ldv rfl rfl)) (ldv rfl rfl), ?_⟩
          refine Dx.one (i := 9) (by kernel_rfl) ?_
          refine Dstep.o0 (i := 9) rfl (st6 sz46 rfl rfl rfl rfl rfl rfl) (fun v B' H' hΦ hB => ?_)
          obtain ⟨rfl, rfl⟩ := hΦ; clear hB v
          refine ⟨jy (jy (je (JOk.top) (by kernel_rfl)) (ldv rfl rfl)) (ldv rfl rfl), ?_⟩
          refine Dx.one (i := 10) (by kernel_rfl) ?_
          refine Dstep.o0 (i := 10) rfl (st6 sz46 rfl rfl rfl rfl rfl rfl) (fun v B' H' hΦ hB => ?_)
          obtain ⟨rfl, rfl⟩ := hΦ; clear hB v
          refine ⟨jy (je (je (JOk.top) (by kernel_rfl)) (by kernel_rfl)) (ldv rfl rfl), ?_⟩
          refine Dx.one (i := 11) (by kernel_rfl) ?_
          refine Dstep.o0 (i := 11) rfl (st6 sz46 rfl rfl rfl rfl rfl rfl) (fun v B' H' hΦ hB => ?_)
          obtain ⟨rfl, rfl⟩ := hΦ; clear hB v
          refine ⟨je (je (je (JOk.top) (by kernel_rfl)) (by kernel_rfl)) (by kernel_rfl), ?_⟩
          refine Dx.done (by kernel_rfl) ?_
          exact Xx.mkK (mO hB2 hB3 hB4 hv2 hv3 hv4 rfl) (Sub.cons (s := 7) rfl (Sub.cons (s := 8) rfl (Sub.cons (s := 9) rfl (Sub.cons (s := 6) rfl (Sub.nil _)))))
        refine Dstep.o (i := 6) rfl (allocO ti46) rfl (fun v B' H' hΦ hB => ?_)
        obtain ⟨b7, rfl, rfl, rfl⟩ := hΦ; clear hB
        refine ⟨jy (jy (jy (JOk.top) (ldv rfl rfl)) (ldv rfl rfl)) (ldv rfl rfl), ?_⟩
        refine Dx.one (i := 5) (by kernel_rfl) ?_
        refine Dstep.o (i := 5) rfl (Ox.cb rfl rfl rfl (cut8 (ValR.mono hB3 (ValR.mono hB2 hz)))) rfl (fun v B' H' hΦ hB => ?_)
        obtain ⟨rfl, hΦ⟩ := hΦ
        obtain ⟨cs4, rfl, hv4⟩ := hΦ
        obtain ⟨Apcs4, cpcs4, Ancs4, cncs4, rfl⟩ := ValR.shape hv4
        have hB4 := hB
        refine ⟨je (jy (jy (JOk.top) (ldv rfl rfl)) (ldv rfl rfl)) (by kernel_rfl), ?_⟩
        refine Dx.one (i := 9) (by kernel_rfl) ?_
        refine Dstep.o0 (i := 9) rfl (st6 sz46 rfl rfl rfl rfl rfl rfl) (fun v B' H' hΦ hB => ?_)
        obtain ⟨rfl, rfl⟩ := hΦ; clear hB v
        refine ⟨jy (jy (je (JOk.top) (by kernel_rfl)) (ldv rfl rfl)) (ldv rfl rfl), ?_⟩
        refine Dx.one (i := 10) (by kernel_rfl) ?_
        refine Dstep.o0 (i := 10) rfl (st6 sz46 rfl rfl rfl rfl rfl rfl) (fun v B' H' hΦ hB => ?_)
        obtain ⟨rfl, rfl⟩ := hΦ; clear hB v
        refine ⟨jy (je (je (JOk.top) (by kernel_rfl)) (by kernel_rfl)) (ldv rfl rfl), ?_⟩
        refine Dx.one (i := 11) (by kernel_rfl) ?_
        refine Dstep.o0 (i := 11) rfl (st6 sz46 rfl rfl rfl rfl rfl rfl) (fun v B' H' hΦ hB => ?_)
        obtain ⟨rfl, rfl⟩ := hΦ; clear hB v
        refine ⟨je (je (je (JOk.top) (by kernel_rfl)) (by kernel_rfl)) (by kernel_rfl), ?_⟩
        refine Dx.done (by kernel_rfl) ?_
        exact Xx.mkK (mO hB2 hB3 hB4 hv2 hv3 hv4 rfl) (Sub.cons (s := 7) rfl (Sub.cons (s := 8) rfl (Sub.cons (s := 9) rfl (Sub.cons (s := 6) rfl (Sub.nil _)))))
      · skip
        refine Dstep.o (i := 6) rfl (allocO ti46) rfl (fun v B' H' hΦ hB => ?_)
        obtain ⟨b7, rfl, rfl, rfl⟩ := hΦ; clear hB
        refine ⟨jy (jy (jy (JOk.top) (ldv rfl rfl)) (ldv rfl rfl)) (ldv rfl rfl), ?_⟩
        refine Dx.three (i := 3) (j := 7) (l := 8) (by kernel_rfl) ?_ ?_ ?_
        · skip
          refine Dstep.o (i := 3) rfl (Ox.cb rfl rfl rfl (cut8 (ValR.mono hB2 hy))) rfl (fun v B' H' hΦ hB => ?_)
          obtain ⟨rfl, hΦ⟩ := hΦ
          obtain ⟨cs3, rfl, hv3⟩ := hΦ
          obtain ⟨Apcs3, cpcs3, Ancs3, cncs3, rfl⟩ := ValR.shape hv3
          have hB3 := hB
          refine ⟨jy (je (jy (JOk.top) (ldv rfl rfl)) (by kernel_rfl)) (ldv rfl rfl), ?_⟩
          refine Dx.three (i := 5) (j := 7) (l := 8) (by kernel_rfl) ?_ ?_ ?_
          · skip
            refine Dstep.o (i := 5) rfl (Ox.cb rfl rfl rfl (cut8 (ValR.mono hB3 (ValR.mono hB2 hz)))) rfl (fun v B' H' hΦ hB => ?_)
            obtain ⟨rfl, hΦ⟩ := hΦ
            obtain ⟨cs4, rfl, hv4⟩ := hΦ
            obtain ⟨Apcs4, cpcs4, Ancs4, cncs4, rfl⟩ := ValR.shape hv4
            have hB4 := hB
            refine ⟨je (jy (jy (JOk.top) (ldv rfl rfl)) (ldv rfl rfl)) (by kernel_rfl), ?_⟩
            refine Dx.two (i := 7) (j := 8) (by kernel_rfl) ?_ ?_
            · skip
              refine Dstep.o (i := 7) rfl (allocO ti46) rfl (fun v B' H' hΦ hB => ?_)
              obtain ⟨b8, rfl, rfl, rfl⟩ := hΦ; clear hB
              refine ⟨jy (jy (jy (JOk.top) (ldv rfl rfl)) (ldv rfl rfl)) (ldv rfl rfl), ?_⟩
              refine Dx.one (i := 8) (by kernel_rfl) ?_
              refine Dstep.o (i := 8) rfl (allocO ti46) rfl (fun v B' H' hΦ hB => ?_)
              obtain ⟨b9, rfl, rfl, rfl⟩ := hΦ; clear hB
              refine ⟨jy (jy (jy (JOk.top) (ldv rfl rfl)) (ldv rfl rfl)) (ldv rfl rfl), ?_⟩
              refine Dx.one (i := 9) (by kernel_rfl) ?_
              refine Dstep.o0 (i := 9) rfl (st6 sz46 rfl rfl rfl rfl rfl rfl) (fun v B' H' hΦ hB => ?_)
              obtain ⟨rfl, rfl⟩ := hΦ; clear hB v
              refine ⟨jy (jy (je (JOk.top) (by kernel_rfl)) (ldv rfl rfl)) (ldv rfl rfl), ?_⟩
              refine Dx.one (i := 10) (by kernel_rfl) ?_
              refine Dstep.o0 (i := 10) rfl (st6 sz46 rfl rfl rfl rfl rfl rfl) (fun v B' H' hΦ hB => ?_)
              obtain ⟨rfl, rfl⟩ := hΦ; clear hB v
              refine ⟨jy (je (je (JOk.top) (by kernel_rfl)) (by kernel_rfl)) (ldv rfl rfl), ?_⟩
              refine Dx.one (i := 11) (by kernel_rfl) ?_
              refine Dstep.o0 (i := 11) rfl (st6 sz46 rfl rfl rfl rfl rfl rfl) (fun v B' H' hΦ hB => ?_)
              obtain ⟨rfl, rfl⟩ := hΦ; clear hB v
              refine ⟨je (je (je (JOk.top) (by kernel_rfl)) (by kernel_rfl)) (by kernel_rfl), ?_⟩
              refine Dx.done (by kernel_rfl) ?_
              exact Xx.mkK (mO hB2 hB3 hB4 hv2 hv3 hv4 rfl) (Sub.cons (s := 7) rfl (Sub.cons (s := 8) rfl (Sub.cons (s := 9) rfl (Sub.cons (s := 6) rfl (Sub.nil _)))))
            refine Dstep.o (i := 8) rfl (allocO ti46) rfl (fun v B' H' hΦ hB => ?_)
            obtain ⟨b9, rfl, rfl, rfl⟩ := hΦ; clear hB
            refine ⟨jy (jy (jy (JOk.top) (ldv rfl rfl)) (ldv rfl rfl)) (ldv rfl rfl), ?_⟩
            refine Dx.one (i := 7) (by kernel_rfl) ?_
            refine Dstep.o (i := 7) rfl (allocO ti46) rfl (fun v B' H' hΦ hB => ?_)
            obtain ⟨b8, rfl, rfl, rfl⟩ := hΦ; clear hB
            refine ⟨jy (jy (jy (JOk.top) (ldv rfl rfl)) (ldv rfl rfl)) (ldv rfl rfl), ?_⟩
            refine Dx.one (i := 9) (by kernel_rfl) ?_
            refine Dstep.o0 (i := 9) rfl (st6 sz46 rfl rfl rfl rfl rfl rfl) (fun v B' H' hΦ hB => ?_)
            obtain ⟨rfl, rfl⟩ := hΦ; clear hB v
            refine ⟨jy (jy (je (JOk.top) (by kernel_rfl)) (ldv rfl rfl)) (ldv rfl rfl), ?_⟩
            refine Dx.one (i := 10) (by kernel_rfl) ?_
            refine Dstep.o0 (i := 10) rfl (st6 sz46 rfl rfl rfl rfl rfl rfl) (fun v B' H' hΦ hB => ?_)
            obtain ⟨rfl, rfl⟩ := hΦ; clear hB v
            refine ⟨jy (je (je (JOk.top) (by kernel_rfl)) (by kernel_rfl)) (ldv rfl rfl), ?_⟩
            refine Dx.one (i := 11) (by kernel_rfl) ?_
            refine Dstep.o0 (i := 11) rfl (st6 sz46 rfl rfl rfl rfl rfl rfl) (fun v B' H' hΦ hB => ?_)
            obtain ⟨rfl, rfl⟩ := hΦ; clear hB v
            refine ⟨je (je (je (JOk.top) (by kernel_rfl)) (by kernel_rfl)) (by kernel_rfl), ?_⟩
            refine Dx.done (by kernel_rfl) ?_
            exact Xx.mkK (mO hB2 hB3 hB4 hv2 hv3 hv4 rfl) (Sub.cons (s := 7) rfl (Sub.cons (s := 8) rfl (Sub.cons (s := 9) rfl (Sub.cons (s := 6) rfl (Sub.nil _)))))
          · skip
            refine Dstep.o (i := 7) rfl (allocO ti46) rfl (fun v B' H' hΦ hB => ?_)
            obtain ⟨b8, rfl, rfl, rfl⟩ := hΦ; clear hB
            refine ⟨jy (jy (jy (JOk.top) (ldv rfl rfl)) (ldv rfl rfl)) (ldv rfl rfl), ?_⟩
            refine Dx.two (i := 5) (j := 8) (by kernel_rfl) ?_ ?_
            · skip
              refine Dstep.o (i := 5) rfl (Ox.cb rfl rfl rfl (cut8 (ValR.mono hB3 (ValR.mono hB2 hz)))) rfl (fun v B' H' hΦ hB => ?_)
              obtain ⟨rfl, hΦ⟩ := hΦ
              obtain ⟨cs4, rfl, hv4⟩ := hΦ
              obtain ⟨Apcs4, cpcs4, Ancs4, cncs4, rfl⟩ := ValR.shape hv4
              have hB4 := hB
              refine ⟨je (jy (jy (JOk.top) (ldv rfl rfl)) (ldv rfl rfl)) (by kernel_rfl), ?_⟩
              refine Dx.one (i := 8) (by kernel_rfl) ?_
              refine Dstep.o (i := 8) rfl (allocO ti46) rfl (fun v B' H' hΦ hB => ?_)
              obtain ⟨b9, rfl, rfl, rfl⟩ := hΦ; clear hB
              refine ⟨jy (jy (jy (JOk.top) (ldv rfl rfl)) (ldv rfl rfl)) (ldv rfl rfl), ?_⟩
              refine Dx.one (i := 9) (by kernel_rfl) ?_
              refine Dstep.o0 (i := 9) rfl (st6 sz46 rfl rfl rfl rfl rfl rfl) (fun v B' H' hΦ hB => ?_)
              obtain ⟨rfl, rfl⟩ := hΦ; clear hB v
              refine ⟨jy (jy (je (JOk.top) (by kernel_rfl)) (ldv rfl rfl)) (ldv rfl rfl), ?_⟩
              refine Dx.one (i := 10) (by kernel_rfl) ?_
              refine Dstep.o0 (i := 10) rfl (st6 sz46 rfl rfl rfl rfl rfl rfl) (fun v B' H' hΦ hB => ?_)
              obtain ⟨rfl, rfl⟩ := hΦ; clear hB v
              refine ⟨jy (je (je (JOk.top) (by kernel_rfl)) (by kernel_rfl)) (ldv rfl rfl), ?_⟩
              refine Dx.one (i := 11) (by kernel_rfl) ?_
              refine Dstep.o0 (i := 11) rfl (st6 sz46 rfl rfl rfl rfl rfl rfl) (fun v B' H' hΦ hB => ?_)
              obtain ⟨rfl, rfl⟩ := hΦ; clear hB v
              refine ⟨je (je (je (JOk.top) (by kernel_rfl)) (by kernel_rfl)) (by kernel_rfl), ?_⟩
              refine Dx.done (by kernel_rfl) ?_
              exact Xx.mkK (mO hB2 hB3 hB4 hv2 hv3 hv4 rfl) (Sub.cons (s := 7) rfl (Sub.cons (s := 8) rfl (Sub.cons (s := 9) rfl (Sub.cons (s := 6) rfl (Sub.nil _)))))
            refine Dstep.o (i := 8) rfl (allocO ti46) rfl (fun v B' H' hΦ hB => ?_)
            obtain ⟨b9, rfl, rfl, rfl⟩ := hΦ; clear hB
            refine ⟨jy (jy (jy (JOk.top) (ldv rfl rfl)) (ldv rfl rfl)) (ldv rfl rfl), ?_⟩
            refine Dx.one (i := 5) (by kernel_rfl) ?_
            refine Dstep.o (i := 5) rfl (Ox.cb rfl rfl rfl (cut8 (ValR.mono hB3 (ValR.mono hB2 hz)))) rfl (fun v B' H' hΦ hB => ?_)
            obtain ⟨rfl, hΦ⟩ := hΦ
            obtain ⟨cs4, rfl, hv4⟩ := hΦ
            obtain ⟨Apcs4, cpcs4, Ancs4, cncs4, rfl⟩ := ValR.shape hv4
            have hB4 := hB
            refine ⟨je (jy (jy (JOk.top) (ldv rfl rfl)) (ldv rfl rfl)) (by kernel_rfl), ?_⟩
            refine Dx.one (i := 9) (by kernel_rfl) ?_
            refine Dstep.o0 (i := 9) rfl (st6 sz46 rfl rfl rfl rfl rfl rfl) (fun v B' H' hΦ hB => ?_)
            obtain ⟨rfl, rfl⟩ := hΦ; clear hB v
            refine ⟨jy (jy (je (JOk.top) (by kernel_rfl)) (ldv rfl rfl)) (ldv rfl rfl), ?_⟩
            refine Dx.one (i := 10) (by kernel_rfl) ?_
            refine Dstep.o0 (i := 10) rfl (st6 sz46 rfl rfl rfl rfl rfl rfl) (fun v B' H' hΦ hB => ?_)
            obtain ⟨rfl, rfl⟩ := hΦ; clear hB v
            refine ⟨jy (je (je (JOk.top) (by kernel_rfl)) (by kernel_rfl)) (ldv rfl rfl), ?_⟩
            refine Dx.one (i := 11) (by kernel_rfl) ?_
            refine Dstep.o0 (i := 11) rfl (st6 sz46 rfl rfl rfl rfl rfl rfl) (fun v B' H' hΦ hB => ?_)
            obtain ⟨rfl, rfl⟩ := hΦ; clear hB v
            refine ⟨je (je (je (JOk.top) (by kernel_rfl)) (by kernel_rfl)) (by kernel_rfl), ?_⟩
            refine Dx.done (by kernel_rfl) ?_
            exact Xx.mkK (mO hB2 hB3 hB4 hv2 hv3 hv4 rfl) (Sub.cons (s := 7) rfl (Sub.cons (s := 8) rfl (Sub.cons (s := 9) rfl (Sub.cons (s := 6) rfl (Sub.nil _)))))
          refine Dstep.o (i := 8) rfl (allocO ti46) rfl (fun v B' H' hΦ hB => ?_)
          obtain ⟨b9, rfl, rfl, rfl⟩ := hΦ; clear hB
          refine ⟨jy (jy (jy (JOk.top) (ldv rfl rfl)) (ldv rfl rfl)) (ldv rfl rfl), ?_⟩
          refine Dx.two (i := 5) (j := 7) (by kernel_rfl) ?_ ?_
          · skip
            refine Dstep.o (i := 5) rfl (Ox.cb rfl rfl rfl (cut8 (ValR.mono hB3 (ValR.mono hB2 hz)))) rfl (fun v B' H' hΦ hB => ?_)
            obtain ⟨rfl, hΦ⟩ := hΦ
            obtain ⟨cs4, rfl, hv4⟩ := hΦ
            obtain ⟨Apcs4, cpcs4, Ancs4, cncs4, rfl⟩ := ValR.shape hv4
            have hB4 := hB
            refine ⟨je (jy (jy (JOk.top) (ldv rfl rfl)) (ldv rfl rfl)) (by kernel_rfl), ?_⟩
            refine Dx.one (i := 7) (by kernel_rfl) ?_
            refine Dstep.o (i := 7) rfl (allocO ti46) rfl (fun v B' H' hΦ hB => ?_)
            obtain ⟨b8, rfl, rfl, rfl⟩ := hΦ; clear hB
            refine ⟨jy (jy (jy (JOk.top) (ldv rfl rfl)) (ldv rfl rfl)) (ldv rfl rfl), ?_⟩
            refine Dx.one (i := 9) (by kernel_rfl) ?_
            refine Dstep.o0 (i := 9) rfl (st6 sz46 rfl rfl rfl rfl rfl rfl) (fun v B' H' hΦ hB => ?_)
            obtain ⟨rfl, rfl⟩ := hΦ; clear hB v
            refine ⟨jy (jy (je (JOk.top) (by kernel_rfl)) (ldv rfl rfl)) (ldv rfl rfl), ?_⟩
            refine Dx.one (i := 10) (by kernel_rfl) ?_
            refine Dstep.o0 (i := 10) rfl (st6 sz46 rfl rfl rfl rfl rfl rfl) (fun v B' H' hΦ hB => ?_)
            obtain ⟨rfl, rfl⟩ := hΦ; clear hB v
            refine ⟨jy (je (je (JOk.top) (by kernel_rfl)) (by kernel_rfl)) (ldv rfl rfl), ?_⟩
            refine Dx.one (i := 11) (by kernel_rfl) ?_
            refine Dstep.o0 (i := 11) rfl (st6 sz46 rfl rfl rfl rfl rfl rfl) (fun v B' H' hΦ hB => ?_)
            obtain ⟨rfl, rfl⟩ := hΦ; clear hB v
            refine ⟨je (je (je (JOk.top) (by kernel_rfl)) (by kernel_rfl)) (by kernel_rfl), ?_⟩
            refine Dx.done (by kernel_rfl) ?_
            exact Xx.mkK (mO hB2 hB3 hB4 hv2 hv3 hv4 rfl) (Sub.cons (s := 7) rfl (Sub.cons (s := 8) rfl (Sub.cons (s := 9) rfl (Sub.cons (s := 6) rfl (Sub.nil _)))))
          refine Dstep.o (i := 7) rfl (allocO ti46) rfl (fun v B' H' hΦ hB => ?_)
          obtain ⟨b8, rfl, rfl, rfl⟩ := hΦ; clear hB
          refine ⟨jy (jy (jy (JOk.top) (ldv rfl rfl)) (ldv rfl rfl)) (ldv rfl rfl), ?_⟩
          refine Dx.one (i := 5) (by kernel_rfl) ?_
          refine Dstep.o (i := 5) rfl (Ox.cb rfl rfl rfl (cut8 (ValR.mono hB3 (ValR.mono hB2 hz)))) rfl (fun v B' H' hΦ hB => ?_)
          obtain ⟨rfl, hΦ⟩ := hΦ
          obtain ⟨cs4, rfl, hv4⟩ := hΦ
          obtain ⟨Apcs4, cpcs4, Ancs4, cncs4, rfl⟩ := ValR.shape hv4
          have hB4 := hB
          refine ⟨je (jy (jy (JOk.top) (ldv rfl rfl)) (ldv rfl rfl)) (by kernel_rfl), ?_⟩
          refine Dx.one (i := 9) (by kernel_rfl) ?_
          refine Dstep.o0 (i := 9) rfl (st6 sz46 rfl rfl rfl rfl rfl rfl) (fun v B' H' hΦ hB => ?_)
          obtain ⟨rfl, rfl⟩ := hΦ; clear hB v
          refine ⟨jy (jy (je (JOk.top) (by kernel_rfl)) (ldv rfl rfl)) (ldv rfl rfl), ?_⟩
          refine Dx.one (i := 10) (by kernel_rfl) ?_
          refine Dstep.o0 (i := 10) rfl (st6 sz46 rfl rfl rfl rfl rfl rfl) (fun v B' H' hΦ hB => ?_)
          obtain ⟨rfl, rfl⟩ := hΦ; clear hB v
          refine ⟨jy (je (je (JOk.top) (by kernel_rfl)) (by kernel_rfl)) (ldv rfl rfl), ?_⟩
          refine Dx.one (i := 11) (by kernel_rfl) ?_
          refine Dstep.o0 (i := 11) rfl (st6 sz46 rfl rfl rfl rfl rfl rfl) (fun v B' H' hΦ hB => ?_)
          obtain ⟨rfl, rfl⟩ := hΦ; clear hB v
          refine ⟨je (je (je (JOk.top) (by kernel_rfl)) (by kernel_rfl)) (by kernel_rfl), ?_⟩
          refine Dx.done (by kernel_rfl) ?_
          exact Xx.mkK (mO hB2 hB3 hB4 hv2 hv3 hv4 rfl) (Sub.cons (s := 7) rfl (Sub.cons (s := 8) rfl (Sub.cons (s := 9) rfl (Sub.cons (s := 6) rfl (Sub.nil _)))))
        · skip
          refine Dstep.o (i := 7) rfl (allocO ti46) rfl (fun v B' H' hΦ hB => ?_)
          obtain ⟨b8, rfl, rfl, rfl⟩ := hΦ; clear hB
          refine ⟨jy (jy (jy (JOk.top) (ldv rfl rfl)) (ldv rfl rfl)) (ldv rfl rfl), ?_⟩
          refine Dx.two (i := 3) (j := 8) (by kernel_rfl) ?_ ?_
          · skip
            refine Dstep.o (i := 3) rfl (Ox.cb rfl rfl rfl (cut8 (ValR.mono hB2 hy))) rfl (fun v B' H' hΦ hB => ?_)
            obtain ⟨rfl, hΦ⟩ := hΦ
            obtain ⟨cs3, rfl, hv3⟩ := hΦ
            obtain ⟨Apcs3, cpcs3, Ancs3, cncs3, rfl⟩ := ValR.shape hv3
            have hB3 := hB
            refine ⟨jy (je (jy (JOk.top) (ldv rfl rfl)) (by kernel_rfl)) (ldv rfl rfl), ?_⟩
            refine Dx.two (i := 5) (j := 8) (by kernel_rfl) ?_ ?_
            · skip
              refine Dstep.o (i := 5) rfl (Ox.cb rfl rfl rfl (cut8 (ValR.mono hB3 (ValR.mono hB2 hz)))) rfl (fun v B' H' hΦ hB => ?_)
              obtain ⟨rfl, hΦ⟩ := hΦ
              obtain ⟨cs4, rfl, hv4⟩ := hΦ
              obtain ⟨Apcs4, cpcs4, Ancs4, cncs4, rfl⟩ := ValR.shape hv4
              have hB4 := hB
              refine ⟨je (jy (jy (JOk.top) (ldv rfl rfl)) (ldv rfl rfl)) (by kernel_rfl), ?_⟩
              refine Dx.one (i := 8) (by kernel_rfl) ?_
              refine Dstep.o (i := 8) rfl (allocO ti46) rfl (fun v B' H' hΦ hB => ?_)
              obtain ⟨b9, rfl, rfl, rfl⟩ := hΦ; clear hB
              refine ⟨jy (jy (jy (JOk.top) (ldv rfl rfl)) (ldv rfl rfl)) (ldv rfl rfl), ?_⟩
              refine Dx.one (i := 9) (by kernel_rfl) ?_
              refine Dstep.o0 (i := 9) rfl (st6 sz46 rfl rfl rfl rfl rfl rfl) (fun v B' H' hΦ hB => ?_)
              obtain ⟨rfl, rfl⟩ := hΦ; clear hB v
              refine ⟨jy (jy (je (JOk.top) (by kernel_rfl)) (ldv rfl rfl)) (ldv rfl rfl), ?_⟩
              refine Dx.one (i := 10) (by kernel_rfl) ?_
              refine Dstep.o0 (i := 10) rfl (st6 sz46 rfl rfl rfl rfl rfl rfl) (fun v B' H' hΦ hB => ?_)
              obtain ⟨rfl, rfl⟩ := hΦ; clear hB v
              refine ⟨jy (je (je (JOk.top) (by kernel_rfl)) (by kernel_rfl)) (ldv rfl rfl), ?_⟩
              refine Dx.one (i := 11) (by kernel_rfl) ?_
              refine Dstep.o0 (i := 11) rfl (st6 sz46 rfl rfl rfl rfl rfl rfl) (fun v B' H' hΦ hB => ?_)
              obtain ⟨rfl, rfl⟩ := hΦ; clear hB v
              refine ⟨je (je (je (JOk.top) (by kernel_rfl)) (by kernel_rfl)) (by kernel_rfl), ?_⟩
              refine Dx.done (by kernel_rfl) ?_
              exact Xx.mkK (mO hB2 hB3 hB4 hv2 hv3 hv4 rfl) (Sub.cons (s := 7) rfl (Sub.cons (s := 8) rfl (Sub.cons (s := 9) rfl (Sub.cons (s := 6) rfl (Sub.nil _)))))
            refine Dstep.o (i := 8) rfl (allocO ti46) rfl (fun v B' H' hΦ hB => ?_)
            obtain ⟨b9, rfl, rfl, rfl⟩ := hΦ; clear hB
            refine ⟨jy (jy (jy (JOk.top) (ldv rfl rfl)) (ldv rfl rfl)) (ldv rfl rfl), ?_⟩
            refine Dx.one (i := 5) (by kernel_rfl) ?_
            refine Dstep.o (i := 5) rfl (Ox.cb rfl rfl rfl (cut8 (ValR.mono hB3 (ValR.mono hB2 hz)))) rfl (fun v B' H' hΦ hB => ?_)
            obtain ⟨rfl, hΦ⟩ := hΦ
            obtain ⟨cs4, rfl, hv4⟩ := hΦ
            obtain ⟨Apcs4, cpcs4, Ancs4, cncs4, rfl⟩ := ValR.shape hv4
            have hB4 := hB
            refine ⟨je (jy (jy (JOk.top) (ldv rfl rfl)) (ldv rfl rfl)) (by kernel_rfl), ?_⟩
            refine Dx.one (i := 9) (by kernel_rfl) ?_
            refine Dstep.o0 (i := 9) rfl (st6 sz46 rfl rfl rfl rfl rfl rfl) (fun v B' H' hΦ hB => ?_)
            obtain ⟨rfl, rfl⟩ := hΦ; clear hB v
            refine ⟨jy (jy (je (JOk.top) (by kernel_rfl)) (ldv rfl rfl)) (ldv rfl rfl), ?_⟩
            refine Dx.one (i := 10) (by kernel_rfl) ?_
            refine Dstep.o0 (i := 10) rfl (st6 sz46 rfl rfl rfl rfl rfl rfl) (fun v B' H' hΦ hB => ?_)
            obtain ⟨rfl, rfl⟩ := hΦ; clear hB v
            refine ⟨jy (je (je (JOk.top) (by kernel_rfl)) (by kernel_rfl)) (ldv rfl rfl), ?_⟩
            refine Dx.one (i := 11) (by kernel_rfl) ?_
            refine Dstep.o0 (i := 11) rfl (st6 sz46 rfl rfl rfl rfl rfl rfl) (fun v B' H' hΦ hB => ?_)
            obtain ⟨rfl, rfl⟩ := hΦ; clear hB v
            refine ⟨je (je (je (JOk.top) (by kernel_rfl)) (by kernel_rfl)) (by kernel_rfl), ?_⟩
            refine Dx.done (by kernel_rfl) ?_
            exact Xx.mkK (mO hB2 hB3 hB4 hv2 hv3 hv4 rfl) (Sub.cons (s := 7) rfl (Sub.cons (s := 8) rfl (Sub.cons (s := 9) rfl (Sub.cons (s := 6) rfl (Sub.nil _)))))
          refine Dstep.o (i := 8) rfl (allocO ti46) rfl (fun v B' H' hΦ hB => ?_)
          obtain ⟨b9, rfl, rfl, rfl⟩ := hΦ; clear hB
          refine ⟨jy (jy (jy (JOk.top) (ldv rfl rfl)) (ldv rfl rfl)) (ldv rfl rfl), ?_⟩
          refine Dx.one (i := 3) (by kernel_rfl) ?_
          refine Dstep.o (i := 3) rfl (Ox.cb rfl rfl rfl (cut8 (ValR.mono hB2 hy))) rfl (fun v B' H' hΦ hB => ?_)
          obtain ⟨rfl, hΦ⟩ := hΦ
          obtain ⟨cs3, rfl, hv3⟩ := hΦ
          obtain ⟨Apcs3, cpcs3, Ancs3, cncs3, rfl⟩ := ValR.shape hv3
          have hB3 := hB
          refine ⟨jy (je (jy (JOk.top) (ldv rfl rfl)) (by kernel_rfl)) (ldv rfl rfl), ?_⟩
          refine Dx.one (i := 5) (by kernel_rfl) ?_
          refine Dstep.o (i := 5) rfl (Ox.cb rfl rfl rfl (cut8 (ValR.mono hB3 (ValR.mono hB2 hz)))) rfl (fun v B' H' hΦ hB => ?_)
          obtain ⟨rfl, hΦ⟩ := hΦ
          obtain ⟨cs4, rfl, hv4⟩ := hΦ
          obtain ⟨Apcs4, cpcs4, Ancs4, cncs4, rfl⟩ := ValR.shape hv4
          have hB4 := hB
          refine ⟨je (jy (jy (JOk.top) (ldv rfl rfl)) (ldv rfl rfl)) (by kernel_rfl), ?_⟩
          refine Dx.one (i := 9) (by kernel_rfl) ?_
          refine Dstep.o0 (i := 9) rfl (st6 sz46 rfl rfl rfl rfl rfl rfl) (fun v B' H' hΦ hB => ?_)
          obtain ⟨rfl, rfl⟩ := hΦ; clear hB v
          refine ⟨jy (jy (je (JOk.top) (by kernel_rfl)) (ldv rfl rfl)) (ldv rfl rfl), ?_⟩
          refine Dx.one (i := 10) (by kernel_rfl) ?_
          refine Dstep.o0 (i := 10) rfl (st6 sz46 rfl rfl rfl rfl rfl rfl) (fun v B' H' hΦ hB => ?_)
          obtain ⟨rfl, rfl⟩ := hΦ; clear hB v
          refine ⟨jy (je (je (JOk.top) (by kernel_rfl)) (by kernel_rfl)) (ldv rfl rfl), ?_⟩
          refine Dx.one (i := 11) (by kernel_rfl) ?_
          refine Dstep.o0 (i := 11) rfl (st6 sz46 rfl rfl rfl rfl rfl rfl) (fun v B' H' hΦ hB => ?_)
          obtain ⟨rfl, rfl⟩ := hΦ; clear hB v
          refine ⟨je (je (je (JOk.top) (by kernel_rfl)) (by kernel_rfl)) (by kernel_rfl), ?_⟩
          refine Dx.done (by kernel_rfl) ?_
          exact Xx.mkK (mO hB2 hB3 hB4 hv2 hv3 hv4 rfl) (Sub.cons (s := 7) rfl (Sub.cons (s := 8) rfl (Sub.cons (s := 9) rfl (Sub.cons (s := 6) rfl (Sub.nil _)))))
        refine Dstep.o (i := 8) rfl (allocO ti46) rfl (fun v B' H' hΦ hB => ?_)
        obtain ⟨b9, rfl, rfl, rfl⟩ := hΦ; clear hB
        refine ⟨jy (jy (jy (JOk.top) (ldv rfl rfl)) (ldv rfl rfl)) (ldv rfl rfl), ?_⟩
        refine Dx.two (i := 3) (j := 7) (by kernel_rfl) ?_ ?_
        · skip
          refine Dstep.o (i := 3) rfl (Ox.cb rfl rfl rfl (cut8 (ValR.mono hB2 hy))) rfl (fun v B' H' hΦ hB => ?_)
          obtain ⟨rfl, hΦ⟩ := hΦ
          obtain ⟨cs3, rfl, hv3⟩ := hΦ
          obtain ⟨Apcs3, cpcs3, Ancs3, cncs3, rfl⟩ := ValR.shape hv3
          have hB3 := hB
          refine ⟨jy (je (jy (JOk.top) (ldv rfl rfl)) (by kernel_rfl)) (ldv rfl rfl), ?_⟩
          refine Dx.two (i := 5) (j := 7) (by kernel_rfl) ?_ ?_
          · skip
            refine Dstep.o (i := 5) rfl (Ox.cb rfl rfl rfl (cut8 (ValR.mono hB3 (ValR.mono hB2 hz)))) rfl (fun v B' H' hΦ hB => ?_)
            obtain ⟨rfl, hΦ⟩ := hΦ
            obtain ⟨cs4, rfl, hv4⟩ := hΦ
            obtain ⟨Apcs4, cpcs4, Ancs4, cncs4, rfl⟩ := ValR.shape hv4
            have hB4 := hB
            refine ⟨je (jy (jy (JOk.top) (ldv rfl rfl)) (ldv rfl rfl)) (by kernel_rfl), ?_⟩
            refine Dx.one (i := 7) (by kernel_rfl) ?_
            refine Dstep.o (i := 7) rfl (allocO ti46) rfl (fun v B' H' hΦ hB => ?_)
            obtain ⟨b8, rfl, rfl, rfl⟩ := hΦ; clear hB
            refine ⟨jy (jy (jy (JOk.top) (ldv rfl rfl)) (ldv rfl rfl)) (ldv rfl rfl), ?_⟩
            refine Dx.one (i := 9) (by kernel_rfl) ?_
            refine Dstep.o0 (i := 9) rfl (st6 sz46 rfl rfl rfl rfl rfl rfl) (fun v B' H' hΦ hB => ?_)
            obtain ⟨rfl, rfl⟩ := hΦ; clear hB v
            refine ⟨jy (jy (je (JOk.top) (by kernel_rfl)) (ldv rfl rfl)) (ldv rfl rfl), ?_⟩
            refine Dx.one (i := 10) (by kernel_rfl) ?_
            refine Dstep.o0 (i := 10) rfl (st6 sz46 rfl rfl rfl rfl rfl rfl) (fun v B' H' hΦ hB => ?_)
            obtain ⟨rfl, rfl⟩ := hΦ; clear hB v
            refine ⟨jy (je (je (JOk.top) (by kernel_rfl)) (by kernel_rfl)) (ldv rfl rfl), ?_⟩
            refine Dx.one (i := 11) (by kernel_rfl) ?_
            refine Dstep.o0 (i := 11) rfl (st6 sz46 rfl rfl rfl rfl rfl rfl) (fun v B' H' hΦ hB => ?_)
            obtain ⟨rfl, rfl⟩ := hΦ; clear hB v
            refine ⟨je (je (je (JOk.top) (by kernel_rfl)) (by kernel_rfl)) (by kernel_rfl), ?_⟩
            refine Dx.done (by kernel_rfl) ?_
            exact Xx.mkK (mO hB2 hB3 hB4 hv2 hv3 hv4 rfl) (Sub.cons (s := 7) rfl (Sub.cons (s := 8) rfl (Sub.cons (s := 9) rfl (Sub.cons (s := 6) rfl (Sub.nil _)))))
          refine Dstep.o (i := 7) rfl (allocO ti46) rfl (fun v B' H' hΦ hB => ?_)
          obtain ⟨b8, rfl, rfl, rfl⟩ := hΦ; clear hB
          refine ⟨jy (jy (jy (JOk.top) (ldv rfl rfl)) (ldv rfl rfl)) (ldv rfl rfl), ?_⟩
          refine Dx.one (i := 5) (by kernel_rfl) ?_
          refine Dstep.o (i := 5) rfl (Ox.cb rfl rfl rfl (cut8 (ValR.mono hB3 (ValR.mono hB2 hz)))) rfl (fun v B' H' hΦ hB => ?_)
          obtain ⟨rfl, hΦ⟩ := hΦ
          obtain ⟨cs4, rfl, hv4⟩ := hΦ
          obtain ⟨Apcs4, cpcs4, Ancs4, cncs4, rfl⟩ := ValR.shape hv4
          have hB4 := hB
          refine ⟨je (jy (jy (JOk.top) (ldv rfl rfl)) (ldv rfl rfl)) (by kernel_rfl), ?_⟩
          refine Dx.one (i := 9) (by kernel_rfl) ?_
          refine Dstep.o0 (i := 9) rfl (st6 sz46 rfl rfl rfl rfl rfl rfl) (fun v B' H' hΦ hB => ?_)
          obtain ⟨rfl, rfl⟩ := hΦ; clear hB v
          refine ⟨jy (jy (je (JOk.top) (by kernel_rfl)) (ldv rfl rfl)) (ldv rfl rfl), ?_⟩
          refine Dx.one (i := 10) (by kernel_rfl) ?_
          refine Dstep.o0 (i := 10) rfl (st6 sz46 rfl rfl rfl rfl rfl rfl) (fun v B' H' hΦ hB => ?_)
          obtain ⟨rfl, rfl⟩ := hΦ; clear hB v
          refine ⟨jy (je (je (JOk.top) (by kernel_rfl)) (by kernel_rfl)) (ldv rfl rfl), ?_⟩
          refine Dx.one (i := 11) (by kernel_rfl) ?_
          refine Dstep.o0 (i := 11) rfl (st6 sz46 rfl rfl rfl rfl rfl rfl) (fun v B' H' hΦ hB => ?_)
          obtain ⟨rfl, rfl⟩ := hΦ; clear hB v
          refine ⟨je (je (je (JOk.top) (by kernel_rfl)) (by kernel_rfl)) (by kernel_rfl), ?_⟩
          refine Dx.done (by kernel_rfl) ?_
          exact Xx.mkK (mO hB2 hB3 hB4 hv2 hv3 hv4 rfl) (Sub.cons (s := 7) rfl (Sub.cons (s := 8) rfl (Sub.cons (s := 9) rfl (Sub.cons (s := 6) rfl (Sub.nil _)))))
        refine Dstep.o (i := 7) rfl (allocO ti46) rfl (fun v B' H' hΦ hB => ?_)
        obtain ⟨b8, rfl, rfl, rfl⟩ := hΦ; clear hB
        refine ⟨jy (jy (jy (JOk.top) (ldv rfl rfl)) (ldv rfl rfl)) (ldv rfl rfl), ?_⟩
        refine Dx.one (i := 3) (by kernel_rfl) ?_
        refine Dstep.o (i := 3) rfl (Ox.cb rfl rfl rfl (cut8 (ValR.mono hB2 hy))) rfl (fun v B' H' hΦ hB => ?_)
        obtain ⟨rfl, hΦ⟩ := hΦ
        obtain ⟨cs3, rfl, hv3⟩ := hΦ
        obtain ⟨Apcs3, cpcs3, Ancs3, cncs3, rfl⟩ := ValR.shape hv3
        have hB3 := hB
        refine ⟨jy (je (jy (JOk.top) (ldv rfl rfl)) (by kernel_rfl)) (ldv rfl rfl), ?_⟩
        refine Dx.one (i := 5) (by kernel_rfl) ?_
        refine Dstep.o (i := 5) rfl (Ox.cb rfl rfl rfl (cut8 (ValR.mono hB3 (ValR.mono hB2 hz)))) rfl (fun v B' H' hΦ hB => ?_)
        obtain ⟨rfl, hΦ⟩ := hΦ
        obtain ⟨cs4, rfl, hv4⟩ := hΦ
        obtain ⟨Apcs4, cpcs4, Ancs4, cncs4, rfl⟩ := ValR.shape hv4
        have hB4 := hB
        refine ⟨je (jy (jy (JOk.top) (ldv rfl rfl)) (ldv rfl rfl)) (by kernel_rfl), ?_⟩
        refine Dx.one (i := 9) (by kernel_rfl) ?_
        refine Dstep.o0 (i := 9) rfl (st6 sz46 rfl rfl rfl rfl rfl rfl) (fun v B' H' hΦ hB => ?_)
        obtain ⟨rfl, rfl⟩ := hΦ; clear hB v
        refine ⟨jy (jy (je (JOk.top) (by kernel_rfl)) (ldv rfl rfl)) (ldv rfl rfl), ?_⟩
        refine Dx.one (i := 10) (by kernel_rfl) ?_
        refine Dstep.o0 (i := 10) rfl (st6 sz46 rfl rfl rfl rfl rfl rfl) (fun v B' H' hΦ hB => ?_)
        obtain ⟨rfl, rfl⟩ := hΦ; clear hB v
        refine ⟨jy (je (je (JOk.top) (by kernel_rfl)) (by kernel_rfl)) (ldv rfl rfl), ?_⟩
        refine Dx.one (i := 11) (by kernel_rfl) ?_
        refine Dstep.o0 (i := 11) rfl (st6 sz46 rfl rfl rfl rfl rfl rfl) (fun v B' H' hΦ hB => ?_)
        obtain ⟨rfl, rfl⟩ := hΦ; clear hB v
        refine ⟨je (je (je (JOk.top) (by kernel_rfl)) (by kernel_rfl)) (by kernel_rfl), ?_⟩
        refine Dx.done (by kernel_rfl) ?_
        exact Xx.mkK (mO hB2 hB3 hB4 hv2 hv3 hv4 rfl) (Sub.cons (s := 7) rfl (Sub.cons (s := 8) rfl (Sub.cons (s := 9) rfl (Sub.cons (s := 6) rfl (Sub.nil _)))))
      · skip
        refine Dstep.o (i := 7) rfl (allocO ti46) rfl (fun v B' H' hΦ hB => ?_)
        obtain ⟨b8, rfl, rfl, rfl⟩ := hΦ; clear hB
        refine ⟨jy (jy (jy (JOk.top) (ldv rfl rfl)) (ldv rfl rfl)) (ldv rfl rfl), ?_⟩
        refine Dx.three (i := 3) (j := 6) (l := 8) (by kernel_rfl) ?_ ?_ ?_
        · skip
          refine Dstep.o (i := 3) rfl (Ox.cb rfl rfl rfl (cut8 (ValR.mono hB2 hy))) rfl (fun v B' H' hΦ hB => ?_)
          obtain ⟨rfl, hΦ⟩ := hΦ
          obtain ⟨cs3, rfl, hv3⟩ := hΦ
          obtain ⟨Apcs3, cpcs3, Ancs3, cncs3, rfl⟩ := ValR.shape hv3
          have hB3 := hB
          refine ⟨jy (je (jy (JOk.top) (ldv rfl rfl)) (by kernel_rfl)) (ldv rfl rfl), ?_⟩
          refine Dx.three (i := 5) (j := 6) (l := 8) (by kernel_rfl) ?_ ?_ ?_
          · skip
            refine Dstep.o (i := 5) rfl (Ox.cb rfl rfl rfl (cut8 (ValR.mono hB3 (ValR.mono hB2 hz)))) rfl (fun v B' H' hΦ hB => ?_)
            obtain ⟨rfl, hΦ⟩ := hΦ
            obtain ⟨cs4, rfl, hv4⟩ := hΦ
            obtain ⟨Apcs4, cpcs4, Ancs4, cncs4, rfl⟩ := ValR.shape hv4
            have hB4 := hB
            refine ⟨je (jy (jy (JOk.top) (ldv rfl rfl)) (ldv rfl rfl)) (by kernel_rfl), ?_⟩
            refine Dx.two (i := 6) (j := 8) (by kernel_rfl) ?_ ?_
            · skip
              refine Dstep.o (i := 6) rfl (allocO ti46) rfl (fun v B' H' hΦ hB => ?_)
              obtain ⟨b7, rfl, rfl, rfl⟩ := hΦ; clear hB
              refine ⟨jy (jy (jy (JOk.top) (ldv rfl rfl)) (ldv rfl rfl)) (ldv rfl rfl), ?_⟩
              refine Dx.one (i := 8) (by kernel_rfl) ?_
              refine Dstep.o (i := 8) rfl (allocO ti46) rfl (fun v B' H' hΦ hB => ?_)
              obtain ⟨b9, rfl, rfl, rfl⟩ := hΦ; clear hB
              refine ⟨jy (jy (jy (JOk.top) (ldv rfl rfl)) (ldv rfl rfl)) (ldv rfl rfl), ?_⟩
              refine Dx.one (i := 9) (by kernel_rfl) ?_
              refine Dstep.o0 (i := 9) rfl (st6 sz46 rfl rfl rfl rfl rfl rfl) (fun v B' H' hΦ hB => ?_)
              obtain ⟨rfl, rfl⟩ := hΦ; clear hB v
              refine ⟨jy (jy (je (JOk.top) (by kernel_rfl)) (ldv rfl rfl)) (ldv rfl rfl), ?_⟩
              refine Dx.one (i := 10) (by kernel_rfl) ?_
              refine Dstep.o0 (i := 10) rfl (st6 sz46 rfl rfl rfl rfl rfl rfl) (fun v B' H' hΦ hB => ?_)
              obtain ⟨rfl, rfl⟩ := hΦ; clear hB v
              refine ⟨jy (je (je (JOk.top) (by kernel_rfl)) (by kernel_rfl)) (ldv rfl rfl), ?_⟩
              refine Dx.one (i := 11) (by kernel_rfl) ?_
              refine Dstep.o0 (i := 11) rfl (st6 sz46 rfl rfl rfl rfl rfl rfl) (fun v B' H' hΦ hB => ?_)
              obtain ⟨rfl, rfl⟩ := hΦ; clear hB v
              refine ⟨je (je (je (JOk.top) (by kernel_rfl)) (by kernel_rfl)) (by kernel_rfl), ?_⟩
              refine Dx.done (by kernel_rfl) ?_
              exact Xx.mkK (mO hB2 hB3 hB4 hv2 hv3 hv4 rfl) (Sub.cons (s := 7) rfl (Sub.cons (s := 8) rfl (Sub.cons (s := 9) rfl (Sub.cons (s := 6) rfl (Sub.nil _)))))
            refine Dstep.o (i := 8) rfl (allocO ti46) rfl (fun v B' H' hΦ hB => ?_)
            obtain ⟨b9, rfl, rfl, rfl⟩ := hΦ; clear hB
            refine ⟨jy (jy (jy (JOk.top) (ldv rfl rfl)) (ldv rfl rfl)) (ldv rfl rfl), ?_⟩
            refine Dx.one (i := 6) (by kernel_rfl) ?_
            refine Dstep.o (i := 6) rfl (allocO ti46) rfl (fun v B' H' hΦ hB => ?_)
            obtain ⟨b7, rfl, rfl, rfl⟩ := hΦ; clear hB
            refine ⟨jy (jy (jy (JOk.top) (ldv rfl rfl)) (ldv rfl rfl)) (ldv rfl rfl), ?_⟩
            refine Dx.one (i := 9) (by kernel_rfl) ?_
            refine Dstep.o0 (i := 9) rfl (st6 sz46 rfl rfl rfl rfl rfl rfl) (fun v B' H' hΦ hB => ?_)
            obtain ⟨rfl, rfl⟩ := hΦ; clear hB v
            refine ⟨jy (jy (je (JOk.top) (by kernel_rfl)) (ldv rfl rfl)) (ldv rfl rfl), ?_⟩
            refine Dx.one (i := 10) (by kernel_rfl) ?_
            refine Dstep.o0 (i := 10) rfl (st6 sz46 rfl rfl rfl rfl rfl rfl) (fun v B' H' hΦ hB => ?_)
            obtain ⟨rfl, rfl⟩ := hΦ; clear hB v
            refine ⟨jy (je (je (JOk.top) (by kernel_rfl)) (by kernel_rfl)) (ldv rfl rfl), ?_⟩
            refine Dx.one (i := 11) (by kernel_rfl) ?_
            refine Dstep.o0 (i := 11) rfl (st6 sz46 rfl rfl rfl rfl rfl rfl) (fun v B' H' hΦ hB => ?_)
            obtain ⟨rfl, rfl⟩ := hΦ; clear hB v
            refine ⟨je (je (je (JOk.top) (by kernel_rfl)) (by kernel_rfl)) (by kernel_rfl), ?_⟩
            refine Dx.done (by kernel_rfl) ?_
            exact Xx.mkK (mO hB2 hB3 hB4 hv2 hv3 hv4 rfl) (Sub.cons (s := 7) rfl (Sub.cons (s := 8) rfl (Sub.cons (s := 9) rfl (Sub.cons (s := 6) rfl (Sub.nil _)))))
          · skip
            refine Dstep.o (i := 6) rfl (allocO ti46) rfl (fun v B' H' hΦ hB => ?_)
            obtain ⟨b7, rfl, rfl, rfl⟩ := hΦ; clear hB
            refine ⟨jy (jy (jy (JOk.top) (ldv rfl rfl)) (ldv rfl rfl)) (ldv rfl rfl), ?_⟩
            refine Dx.two (i := 5) (j := 8) (by kernel_rfl) ?_ ?_
            · skip
              refine Dstep.o (i := 5) rfl (Ox.cb rfl rfl rfl (cut8 (ValR.mono hB3 (ValR.mono hB2 hz)))) rfl (fun v B' H' hΦ hB => ?_)
              obtain ⟨rfl, hΦ⟩ := hΦ
              obtain ⟨cs4, rfl, hv4⟩ := hΦ
              obtain ⟨Apcs4, cpcs4, Ancs4, cncs4, rfl⟩ := ValR.shape hv4
              have hB4 := hB
              refine ⟨je (jy (jy (JOk.top) (ldv rfl rfl)) (ldv rfl rfl)) (by kernel_rfl), ?_⟩
              refine Dx.one (i := 8) (by kernel_rfl) ?_
              refine Dstep.o (i := 8) rfl (allocO ti46) rfl (fun v B' H' hΦ hB => ?_)
              obtain ⟨b9, rfl, rfl, rfl⟩ := hΦ; clear hB
              refine ⟨jy (jy (jy (JOk.top) (ldv rfl rfl)) (ldv rfl rfl)) (ldv rfl rfl), ?_⟩
              refine Dx.one (i := 9) (by kernel_rfl) ?_
              refine Dstep.o0 (i := 9) rfl (st6 sz46 rfl rfl rfl rfl rfl rfl) (fun v B' H' hΦ hB => ?_)
              obtain ⟨rfl, rfl⟩ := hΦ; clear hB v
              refine ⟨jy (jy (je (JOk.top) (by kernel_rfl)) (ldv rfl rfl)) (ldv rfl rfl), ?_⟩
              refine Dx.one (i := 10) (by kernel_rfl) ?_
              refine Dstep.o0 (i := 10) rfl (st6 sz46 rfl rfl rfl rfl rfl rfl) (fun v B' H' hΦ hB => ?_)
              obtain ⟨rfl, rfl⟩ := hΦ; clear hB v
              refine ⟨jy (je (je (JOk.top) (by kernel_rfl)) (by kernel_rfl)) (ldv rfl rfl), ?_⟩
              refine Dx.one (i := 11) (by kernel_rfl) ?_
              refine Dstep.o0 (i := 11) rfl (st6 sz46 rfl rfl rfl rfl rfl rfl) (fun v B' H' hΦ hB => ?_)
              obtain ⟨rfl, rfl⟩ := hΦ; clear hB v
              refine ⟨je (je (je (JOk.top) (by kernel_rfl)) (by kernel_rfl)) (by kernel_rfl), ?_⟩
              refine Dx.done (by kernel_rfl) ?_
              exact Xx.mkK (mO hB2 hB3 hB4 hv2 hv3 hv4 rfl) (Sub.cons (s := 7) rfl (Sub.cons (s := 8) rfl (Sub.cons (s := 9) rfl (Sub.cons (s := 6) rfl (Sub.nil _)))))
            refine Dstep.o (i := 8) rfl (allocO ti46) rfl (fun v B' H' hΦ hB => ?_)
            obtain ⟨b9, rfl, rfl, rfl⟩ := hΦ; clear hB
            refine ⟨jy (jy (jy (JOk.top) (ldv rfl rfl)) (ldv rfl rfl)) (ldv rfl rfl), ?_⟩
            refine Dx.one (i := 5) (by kernel_rfl) ?_
            refine Dstep.o (i := 5) rfl (Ox.cb rfl rfl rfl (cut8 (ValR.mono hB3 (ValR.mono hB2 hz)))) rfl (fun v B' H' hΦ hB => ?_)
            obtain ⟨rfl, hΦ⟩ := hΦ
            obtain ⟨cs4, rfl, hv4⟩ := hΦ
            obtain ⟨Apcs4, cpcs4, Ancs4, cncs4, rfl⟩ := ValR.shape hv4
            have hB4 := hB
            refine ⟨je (jy (jy (JOk.top) (ldv rfl rfl)) (ldv rfl rfl)) (by kernel_rfl), ?_⟩
            refine Dx.one (i := 9) (by kernel_rfl) ?_
            refine Dstep.o0 (i := 9) rfl (st6 sz46 rfl rfl rfl rfl rfl rfl) (fun v B' H' hΦ hB => ?_)
            obtain ⟨rfl, rfl⟩ := hΦ; clear hB v
            refine ⟨jy (jy (je (JOk.top) (by kernel_rfl)) (ldv rfl rfl)) (ldv rfl rfl), ?_⟩
            refine Dx.one (i := 10) (by kernel_rfl) ?_
            refine Dstep.o0 (i := 10) rfl (st6 sz46 rfl rfl rfl rfl rfl rfl) (fun v B' H' hΦ hB => ?_)
            obtain ⟨rfl, rfl⟩ := hΦ; clear hB v
            refine ⟨jy (je (je (JOk.top) (by kernel_rfl)) (by kernel_rfl)) (ldv rfl rfl), ?_⟩
            refine Dx.one (i := 11) (by kernel_rfl) ?_
            refine Dstep.o0 (i := 11) rfl (st6 sz46 rfl rfl rfl rfl rfl rfl) (fun v B' H' hΦ hB => ?_)
            obtain ⟨rfl, rfl⟩ := hΦ; clear hB v
            refine ⟨je (je (je (JOk.top) (by kernel_rfl)) (by kernel_rfl)) (by kernel_rfl), ?_⟩
            refine Dx.done (by kernel_rfl) ?_
            exact Xx.mkK (mO hB2 hB3 hB4 hv2 hv3 hv4 rfl) (Sub.cons (s := 7) rfl (Sub.cons (s := 8) rfl (Sub.cons (s := 9) rfl (Sub.cons (s := 6) rfl (Sub.nil _)))))
          refine Dstep.o (i := 8) rfl (allocO ti46) rfl (fun v B' H' hΦ hB => ?_)
          obtain ⟨b9, rfl, rfl, rfl⟩ := hΦ; clear hB
          refine ⟨jy (jy (jy (JOk.top) (ldv rfl rfl)) (ldv rfl rfl)) (ldv rfl rfl), ?_⟩
          refine Dx.two (i := 5) (j := 6) (by kernel_rfl) ?_ ?_
          · skip
            refine Dstep.o (i := 5) rfl (Ox.cb rfl rfl rfl (cut8 (ValR.mono hB3 (ValR.mono hB2 hz)))) rfl (fun v B' H' hΦ hB => ?_)
            obtain ⟨rfl, hΦ⟩ := hΦ
            obtain ⟨cs4, rfl, hv4⟩ := hΦ
            obtain ⟨Apcs4, cpcs4, Ancs4, cncs4, rfl⟩ := ValR.shape hv4
            have hB4 := hB
            refine ⟨je (jy (jy (JOk.top) (ldv rfl rfl)) (ldv rfl rfl)) (by kernel_rfl), ?_⟩
            refine Dx.one (i := 6) (by kernel_rfl) ?_
            refine Dstep.o (i := 6) rfl (allocO ti46) rfl (fun v B' H' hΦ hB => ?_)
            obtain ⟨b7, rfl, rfl, rfl⟩ := hΦ; clear hB
            refine ⟨jy (jy (jy (JOk.top) (ldv rfl rfl)) (ldv rfl rfl)) (ldv rfl rfl), ?_⟩
            refine Dx.one (i := 9) (by kernel_rfl) ?_
            refine Dstep.o0 (i := 9) rfl (st6 sz46 rfl rfl rfl rfl rfl rfl) (fun v B' H' hΦ hB => ?_)
            obtain ⟨rfl, rfl⟩ := hΦ; clear hB v
            refine ⟨jy (jy (je (JOk.top) (by kernel_rfl)) (ldv rfl rfl)) (ldv rfl rfl), ?_⟩
            refine Dx.one (i := 10) (by kernel_rfl) ?_
            refine Dstep.o0 (i := 10) rfl (st6 sz46 rfl rfl rfl rfl rfl rfl) (fun v B' H' hΦ hB => ?_)
            obtain ⟨rfl, rfl⟩ := hΦ; clear hB v
            refine ⟨jy (je (je (JOk.top) (by kernel_rfl)) (by kernel_rfl)) (ldv rfl rfl), ?_⟩
            refine Dx.one (i := 11) (by kernel_rfl) ?_
            refine Dstep.o0 (i := 11) rfl (st6 sz46 rfl rfl rfl rfl rfl rfl) (fun v B' H' hΦ hB => ?_)
            obtain ⟨rfl, rfl⟩ := hΦ; clear hB v
            refine ⟨je (je (je (JOk.top) (by kernel_rfl)) (by kernel_rfl)) (by kernel_rfl), ?_⟩
            refine Dx.done (by kernel_rfl) ?_
            exact Xx.mkK (mO hB2 hB3 hB4 hv2 hv3 hv4 rfl) (Sub.cons (s := 7) rfl (Sub.cons (s := 8) rfl (Sub.cons (s := 9) rfl (Sub.cons (s := 6) rfl (Sub.nil _)))))
          refine Dstep.o (i := 6) rfl (allocO ti46) rfl (fun v B' H' hΦ hB => ?_)
          obtain ⟨b7, rfl, rfl, rfl⟩ := hΦ; clear hB
          refine ⟨jy (jy (jy (JOk.top) (ldv rfl rfl)) (ldv rfl rfl)) (ldv rfl rfl), ?_⟩
          refine Dx.one (i := 5) (by kernel_rfl) ?_
          refine Dstep.o (i := 5) rfl (Ox.cb rfl rfl rfl (cut8 (ValR.mono hB3 (ValR.mono hB2 hz)))) rfl (fun v B' H' hΦ hB => ?_)
          obtain ⟨rfl, hΦ⟩ := hΦ
          obtain ⟨cs4, rfl, hv4⟩ := hΦ
          obtain ⟨Apcs4, cpcs4, Ancs4, cncs4, rfl⟩ := ValR.shape hv4
          have hB4 := hB
          refine ⟨je (jy (jy (JOk.top) (ldv rfl rfl)) (ldv rfl rfl)) (by kernel_rfl), ?_⟩
          refine Dx.one (i := 9) (by kernel_rfl) ?_
          refine Dstep.o0 (i := 9) rfl (st6 sz46 rfl rfl rfl rfl rfl rfl) (fun v B' H' hΦ hB => ?_)
          obtain ⟨rfl, rfl⟩ := hΦ; clear hB v
          refine ⟨jy (jy (je (JOk.top) (by kernel_rfl)) (ldv rfl rfl)) (ldv rfl rfl), ?_⟩
          refine Dx.one (i := 10) (by kernel_rfl) ?_
          refine Dstep.o0 (i := 10) rfl (st6 sz46 rfl rfl rfl rfl rfl rfl) (fun v B' H' hΦ hB => ?_)
          obtain ⟨rfl, rfl⟩ := hΦ; clear hB v
          refine ⟨jy (je (je (JOk.top) (by kernel_rfl)) (by kernel_rfl)) (ldv rfl rfl), ?_⟩
          refine Dx.one (i := 11) (by kernel_rfl) ?_
          refine Dstep.o0 (i := 11) rfl (st6 sz46 rfl rfl rfl rfl rfl rfl) (fun v B' H' hΦ hB => ?_)
          obtain ⟨rfl, rfl⟩ := hΦ; clear hB v
          refine ⟨je (je (je (JOk.top) (by kernel_rfl)) (by kernel_rfl)) (by kernel_rfl), ?_⟩
          refine Dx.done (by kernel_rfl) ?_
          exact Xx.mkK (mO hB2 hB3 hB4 hv2 hv3 hv4 rfl) (Sub.cons (s := 7) rfl (Sub.cons (s := 8) rfl (Sub.cons (s := 9) rfl (Sub.cons (s := 6) rfl (Sub.nil _)))))
        · skip
          refine Dstep.o (i := 6) rfl (allocO ti46) rfl (fun v B' H' hΦ hB => ?_)
          obtain ⟨b7, rfl, rfl, rfl⟩ := hΦ; clear hB
          refine ⟨jy (jy (jy (JOk.top) (ldv rfl rfl)) (ldv rfl rfl)) (ldv rfl rfl), ?_⟩
          refine Dx.two (i := 3) (j := 8) (by kernel_rfl) ?_ ?_
          · skip
            refine Dstep.o (i := 3) rfl (Ox.cb rfl rfl rfl (cut8 (ValR.mono hB2 hy))) rfl (fun v B' H' hΦ hB => ?_)
            obtain ⟨rfl, hΦ⟩ := hΦ
            obtain ⟨cs3, rfl, hv3⟩ := hΦ
            obtain ⟨Apcs3, cpcs3, Ancs3, cncs3, rfl⟩ := ValR.shape hv3
            have hB3 := hB
            refine ⟨jy (je (jy (JOk.top) (ldv rfl rfl)) (by kernel_rfl)) (ldv rfl rfl), ?_⟩
            refine Dx.two (i := 5) (j := 8) (by kernel_rfl) ?_ ?_
            · skip
              refine Dstep.o (i := 5) rfl (Ox.cb rfl rfl rfl (cut8 (ValR.mono hB3 (ValR.mono hB2 hz)))) rfl (fun v B' H' hΦ hB => ?_)
              obtain ⟨rfl, hΦ⟩ := hΦ
              obtain ⟨cs4, rfl, hv4⟩ := hΦ
              obtain ⟨Apcs4, cpcs4, Ancs4, cncs4, rfl⟩ := ValR.shape hv4
              have hB4 := hB
              refine ⟨je (jy (jy (JOk.top) (ldv rfl rfl)) (ldv rfl rfl)) (by kernel_rfl), ?_⟩
              refine Dx.one (i := 8) (by kernel_rfl) ?_
              refine Dstep.o (i := 8) rfl (allocO ti46) rfl (fun v B' H' hΦ hB => ?_)
              obtain ⟨b9, rfl, rfl, rfl⟩ := hΦ; clear hB
              refine ⟨jy (jy (jy (JOk.top) (ldv rfl rfl)) (ldv rfl rfl)) (ldv rfl rfl), ?_⟩
              refine Dx.one (i := 9) (by kernel_rfl) ?_
              refine Dstep.o0 (i := 9) rfl (st6 sz46 rfl rfl rfl rfl rfl rfl) (fun v B' H' hΦ hB => ?_)
              obtain ⟨rfl, rfl⟩ := hΦ; clear hB v
              refine ⟨jy (jy (je (JOk.top) (by kernel_rfl)) (ldv rfl rfl)) (ldv rfl rfl), ?_⟩
              refine Dx.one (i := 10) (by kernel_rfl) ?_
              refine Dstep.o0 (i := 10) rfl (st6 sz46 rfl rfl rfl rfl rfl rfl) (fun v B' H' hΦ hB => ?_)
              obtain ⟨rfl, rfl⟩ := hΦ; clear hB v
              refine ⟨jy (je (je (JOk.top) (by kernel_rfl)) (by kernel_rfl)) (ldv rfl rfl), ?_⟩
              refine Dx.one (i := 11) (by kernel_rfl) ?_
              refine Dstep.o0 (i := 11) rfl (st6 sz46 rfl rfl rfl rfl rfl rfl) (fun v B' H' hΦ hB => ?_)
              obtain ⟨rfl, rfl⟩ := hΦ; clear hB v
              refine ⟨je (je (je (JOk.top) (by kernel_rfl)) (by kernel_rfl)) (by kernel_rfl), ?_⟩
              refine Dx.done (by kernel_rfl) ?_
              exact Xx.mkK (mO hB2 hB3 hB4 hv2 hv3 hv4 rfl) (Sub.cons (s := 7) rfl (Sub.cons (s := 8) rfl (Sub.cons (s := 9) rfl (Sub.cons (s := 6) rfl (Sub.nil _)))))
            refine Dstep.o (i := 8) rfl (allocO ti46) rfl (fun v B' H' hΦ hB => ?_)
            obtain ⟨b9, rfl, rfl, rfl⟩ := hΦ; clear hB
            refine ⟨jy (jy (jy (JOk.top) (ldv rfl rfl)) (ldv rfl rfl)) (ldv rfl rfl), ?_⟩
            refine Dx.one (i := 5) (by kernel_rfl) ?_
            refine Dstep.o (i := 5) rfl (Ox.cb rfl rfl rfl (cut8 (ValR.mono hB3 (ValR.mono hB2 hz)))) rfl (fun v B' H' hΦ hB => ?_)
            obtain ⟨rfl, hΦ⟩ := hΦ
            obtain ⟨cs4, rfl, hv4⟩ := hΦ
            obtain ⟨Apcs4, cpcs4, Ancs4, cncs4, rfl⟩ := ValR.shape hv4
            have hB4 := hB
            refine ⟨je (jy (jy (JOk.top) (ldv rfl rfl)) (ldv rfl rfl)) (by kernel_rfl), ?_⟩
            refine Dx.one (i := 9) (by kernel_rfl) ?_
            refine Dstep.o0 (i := 9) rfl (st6 sz46 rfl rfl rfl rfl rfl rfl) (fun v B' H' hΦ hB => ?_)
            obtain ⟨rfl, rfl⟩ := hΦ; clear hB v
            refine ⟨jy (jy (je (JOk.top) (by kernel_rfl)) (ldv rfl rfl)) (ldv rfl rfl), ?_⟩
            refine Dx.one (i := 10) (by kernel_rfl) ?_
            refine Dstep.o0 (i := 10) rfl (st6 sz46 rfl rfl rfl rfl rfl rfl) (fun v B' H' hΦ hB => ?_)
            obtain ⟨rfl, rfl⟩ := hΦ; clear hB v
            refine ⟨jy (je (je (JOk.top) (by kernel_rfl)) (by kernel_rfl)) (ldv rfl rfl), ?_⟩
            refine Dx.one (i := 11) (by kernel_rfl) ?_
            refine Dstep.o0 (i := 11) rfl (st6 sz46 rfl rfl rfl rfl rfl rfl) (fun v B' H' hΦ hB => ?_)
            obtain ⟨rfl, rfl⟩ := hΦ; clear hB v
            refine ⟨je (je (je (JOk.top) (by kernel_rfl)) (by kernel_rfl)) (by kernel_rfl), ?_⟩
            refine Dx.done (by kernel_rfl) ?_
            exact Xx.mkK (mO hB2 hB3 hB4 hv2 hv3 hv4 rfl) (Sub.cons (s := 7) rfl (Sub.cons (s := 8) rfl (Sub.cons (s := 9) rfl (Sub.cons (s := 6) rfl (Sub.nil _)))))
          refine Dstep.o (i := 8) rfl (allocO ti46) rfl (fun v B' H' hΦ hB => ?_)
          obtain ⟨b9, rfl, rfl, rfl⟩ := hΦ; clear hB
          refine ⟨jy (jy (jy (JOk.top) (ldv rfl rfl)) (ldv rfl rfl)) (ldv rfl rfl), ?_⟩
          refine Dx.one (i := 3) (by kernel_rfl) ?_
          refine Dstep.o (i := 3) rfl (Ox.cb rfl rfl rfl (cut8 (ValR.mono hB2 hy))) rfl (fun v B' H' hΦ hB => ?_)
          obtain ⟨rfl, hΦ⟩ := hΦ
          obtain ⟨cs3, rfl, hv3⟩ := hΦ
          obtain ⟨Apcs3, cpcs3, Ancs3, cncs3, rfl⟩ := ValR.shape hv3
          have hB3 := hB
          refine ⟨jy (je (jy (JOk.top) (ldv rfl rfl)) (by kernel_rfl)) (ldv rfl rfl), ?_⟩
          refine Dx.one (i := 5) (by kernel_rfl) ?_
          refine Dstep.o (i := 5) rfl (Ox.cb rfl rfl rfl (cut8 (ValR.mono hB3 (ValR.mono hB2 hz)))) rfl (fun v B' H' hΦ hB => ?_)
          obtain ⟨rfl, hΦ⟩ := hΦ
          obtain ⟨cs4, rfl, hv4⟩ := hΦ
          obtain ⟨Apcs4, cpcs4, Ancs4, cncs4, rfl⟩ := ValR.shape hv4
          have hB4 := hB
          refine ⟨je (jy (jy (JOk.top) (ldv rfl rfl)) (ldv rfl rfl)) (by kernel_rfl), ?_⟩
          refine Dx.one (i := 9) (by kernel_rfl) ?_
          refine Dstep.o0 (i := 9) rfl (st6 sz46 rfl rfl rfl rfl rfl rfl) (fun v B' H' hΦ hB => ?_)
          obtain ⟨rfl, rfl⟩ := hΦ; clear hB v
          refine ⟨jy (jy (je (JOk.top) (by kernel_rfl)) (ldv rfl rfl)) (ldv rfl rfl), ?_⟩
          refine Dx.one (i := 10) (by kernel_rfl) ?_
          refine Dstep.o0 (i := 10) rfl (st6 sz46 rfl rfl rfl rfl rfl rfl) (fun v B' H' hΦ hB => ?_)
          obtain ⟨rfl, rfl⟩ := hΦ; clear hB v
          refine ⟨jy (je (je (JOk.top) (by kernel_rfl)) (by kernel_rfl)) (ldv rfl rfl), ?_⟩
          refine Dx.one (i := 11) (by kernel_rfl) ?_
          refine Dstep.o0 (i := 11) rfl (st6 sz46 rfl rfl rfl rfl rfl rfl) (fun v B' H' hΦ hB => ?_)
          obtain ⟨rfl, rfl⟩ := hΦ; clear hB v
          refine ⟨je (je (je (JOk.top) (by kernel_rfl)) (by kernel_rfl)) (by kernel_rfl), ?_⟩
          refine Dx.done (by kernel_rfl) ?_
          exact Xx.mkK (mO hB2 hB3 hB4 hv2 hv3 hv4 rfl) (Sub.cons (s := 7) rfl (Sub.cons (s := 8) rfl (Sub.cons (s := 9) rfl (Sub.cons (s := 6) rfl (Sub.nil _)))))
        refine Dstep.o (i := 8) rfl (allocO ti46) rfl (fun v B' H' hΦ hB => ?_)
        obtain ⟨b9, rfl, rfl, rfl⟩ := hΦ; clear hB
        refine ⟨jy (jy (jy (JOk.top) (ldv rfl rfl)) (ldv rfl rfl)) (ldv rfl rfl), ?_⟩
        refine Dx.two (i := 3) (j := 6) (by kernel_rfl) ?_ ?_
        · skip
          refine Dstep.o (i := 3) rfl (Ox.cb rfl rfl rfl (cut8 (ValR.mono hB2 hy))) rfl (fun v B' H' hΦ hB => ?_)
          obtain ⟨rfl, hΦ⟩ := hΦ
          obtain ⟨cs3, rfl, hv3⟩ := hΦ
          obtain ⟨Apcs3, cpcs3, Ancs3, cncs3, rfl⟩ := ValR.shape hv3
          have hB3 := hB
          refine ⟨jy (je (jy (JOk.top) (ldv rfl rfl)) (by kernel_rfl)) (ldv rfl rfl), ?_⟩
          refine Dx.two (i := 5) (j := 6) (by kernel_rfl) ?_ ?_
          · skip
            refine Dstep.o (i := 5) rfl (Ox.cb rfl rfl rfl (cut8 (ValR.mono hB3 (ValR.mono hB2 hz)))) rfl (fun v B' H' hΦ hB => ?_)
            obtain ⟨rfl, hΦ⟩ := hΦ
            obtain ⟨cs4, rfl, hv4⟩ := hΦ
            obtain ⟨Apcs4, cpcs4, Ancs4, cncs4, rfl⟩ := ValR.shape hv4
            have hB4 := hB
            refine ⟨je (jy (jy (JOk.top) (ldv rfl rfl)) (ldv rfl rfl)) (by kernel_rfl), ?_⟩
            refine Dx.one (i := 6) (by kernel_rfl) ?_
            refine Dstep.o (i := 6) rfl (allocO ti46) rfl (fun v B' H' hΦ hB => ?_)
            obtain ⟨b7, rfl, rfl, rfl⟩ := hΦ; clear hB
            refine ⟨jy (jy (jy (JOk.top) (ldv rfl rfl)) (ldv rfl rfl)) (ldv rfl rfl), ?_⟩
            refine Dx.one (i := 9) (by kernel_rfl) ?_
            refine Dstep.o0 (i := 9) rfl (st6 sz46 rfl rfl rfl rfl rfl rfl) (fun v B' H' hΦ hB => ?_)
            obtain ⟨rfl, rfl⟩ := hΦ; clear hB v
            refine ⟨jy (jy (je (JOk.top) (by kernel_rfl)) (ldv rfl rfl)) (ldv rfl rfl), ?_⟩
            refine Dx.one (i := 10) (by kernel_rfl) ?_
            refine Dstep.o0 (i := 10) rfl (st6 sz46 rfl rfl rfl rfl rfl rfl) (fun v B' H' hΦ hB => ?_)
            obtain ⟨rfl, rfl⟩ := hΦ; clear hB v
            refine ⟨jy (je (je (JOk.top) (by kernel_rfl)) (by kernel_rfl)) (ldv rfl rfl), ?_⟩
            refine Dx.one (i := 11) (by kernel_rfl) ?_
            refine Dstep.o0 (i := 11) rfl (st6 sz46 rfl rfl rfl rfl rfl rfl) (fun v B' H' hΦ hB => ?_)
            obtain ⟨rfl, rfl⟩ := hΦ; clear hB v
            refine ⟨je (je (je (JOk.top) (by kernel_rfl)) (by kernel_rfl)) (by kernel_rfl), ?_⟩
            refine Dx.done (by kernel_rfl) ?_
            exact Xx.mkK (mO hB2 hB3 hB4 hv2 hv3 hv4 rfl) (Sub.cons (s := 7) rfl (Sub.cons (s := 8) rfl (Sub.cons (s := 9) rfl (Sub.cons (s := 6) rfl (Sub.nil _)))))
          refine Dstep.o (i := 6) rfl (allocO ti46) rfl (fun v B' H' hΦ hB => ?_)
          obtain ⟨b7, rfl, rfl, rfl⟩ := hΦ; clear hB
          refine ⟨jy (jy (jy (JOk.top) (ldv rfl rfl)) (ldv rfl rfl)) (ldv rfl rfl), ?_⟩
          refine Dx.one (i := 5) (by kernel_rfl) ?_
          refine Dstep.o (i := 5) rfl (Ox.cb rfl rfl rfl (cut8 (ValR.mono hB3 (ValR.mono hB2 hz)))) rfl (fun v B' H' hΦ hB => ?_)
          obtain ⟨rfl, hΦ⟩ := hΦ
          obtain ⟨cs4, rfl, hv4⟩ := hΦ
          obtain ⟨Apcs4, cpcs4, Ancs4, cncs4, rfl⟩ := ValR.shape hv4
          have hB4 := hB
          refine ⟨je (jy (jy (JOk.top) (ldv rfl rfl)) (ldv rfl rfl)) (by kernel_rfl), ?_⟩
          refine Dx.one (i := 9) (by kernel_rfl) ?_
          refine Dstep.o0 (i := 9) rfl (st6 sz46 rfl rfl rfl rfl rfl rfl) (fun v B' H' hΦ hB => ?_)
          obtain ⟨rfl, rfl⟩ := hΦ; clear hB v
          refine ⟨jy (jy (je (JOk.top) (by kernel_rfl)) (ldv rfl rfl)) (ldv rfl rfl), ?_⟩
          refine Dx.one (i := 10) (by kernel_rfl) ?_
          refine Dstep.o0 (i := 10) rfl (st6 sz46 rfl rfl rfl rfl rfl rfl) (fun v B' H' hΦ hB => ?_)
          obtain ⟨rfl, rfl⟩ := hΦ; clear hB v
          refine ⟨jy (je (je (JOk.top) (by kernel_rfl)) (by kernel_rfl)) (ldv rfl rfl), ?_⟩
          refine Dx.one (i := 11) (by kernel_rfl) ?_
          refine Dstep.o0 (i := 11) rfl (st6 sz46 rfl rfl rfl rfl rfl rfl) (fun v B' H' hΦ hB => ?_)
          obtain ⟨rfl, rfl⟩ := hΦ; clear hB v
          refine ⟨je (je (je (JOk.top) (by kernel_rfl)) (by kernel_rfl)) (by kernel_rfl), ?_⟩
          refine Dx.done (by kernel_rfl) ?_
          exact Xx.mkK (mO hB2 hB3 hB4 hv2 hv3 hv4 rfl) (Sub.cons (s := 7) rfl (Sub.cons (s := 8) rfl (Sub.cons (s := 9) rfl (Sub.cons (s := 6) rfl (Sub.nil _)))))
        refine Dstep.o (i := 6) rfl (allocO ti46) rfl (fun v B' H' hΦ hB => ?_)
        obtain ⟨b7, rfl, rfl, rfl⟩ := hΦ; clear hB
        refine ⟨jy (jy (jy (JOk.top) (ldv rfl rfl)) (ldv rfl rfl)) (ldv rfl rfl), ?_⟩
        refine Dx.one (i := 3) (by kernel_rfl) ?_
        refine Dstep.o (i := 3) rfl (Ox.cb rfl rfl rfl (cut8 (ValR.mono hB2 hy))) rfl (fun v B' H' hΦ hB => ?_)
        obtain ⟨rfl, hΦ⟩ := hΦ
        obtain ⟨cs3, rfl, hv3⟩ := hΦ
        obtain ⟨Apcs3, cpcs3, Ancs3, cncs3, rfl⟩ := ValR.shape hv3
        have hB3 := hB
        refine ⟨jy (je (jy (JOk.top) (ldv rfl rfl)) (by kernel_rfl)) (ldv rfl rfl), ?_⟩
        refine Dx.one (i := 5) (by kernel_rfl) ?_
        refine Dstep.o (i := 5) rfl (Ox.cb rfl rfl rfl (cut8 (ValR.mono hB3 (ValR.mono hB2 hz)))) rfl (fun v B' H' hΦ hB => ?_)
        obtain ⟨rfl, hΦ⟩ := hΦ
        obtain ⟨cs4, rfl, hv4⟩ := hΦ
        obtain ⟨Apcs4, cpcs4, Ancs4, cncs4, rfl⟩ := ValR.shape hv4
        have hB4 := hB
        refine ⟨je (jy (jy (JOk.top) (ldv rfl rfl)) (ldv rfl rfl)) (by kernel_rfl), ?_⟩
        refine Dx.one (i := 9) (by kernel_rfl) ?_
        refine Dstep.o0 (i := 9) rfl (st6 sz46 rfl rfl rfl rfl rfl rfl) (fun v B' H' hΦ hB => ?_)
        obtain ⟨rfl, rfl⟩ := hΦ; clear hB v
        refine ⟨jy (jy (je (JOk.top) (by kernel_rfl)) (ldv rfl rfl)) (ldv rfl rfl), ?_⟩
        refine Dx.one (i := 10) (by kernel_rfl) ?_
        refine Dstep.o0 (i := 10) rfl (st6 sz46 rfl rfl rfl rfl rfl rfl) (fun v B' H' hΦ hB => ?_)
        obtain ⟨rfl, rfl⟩ := hΦ; clear hB v
        refine ⟨jy (je (je (JOk.top) (by kernel_rfl)) (by kernel_rfl)) (ldv rfl rfl), ?_⟩
        refine Dx.one (i := 11) (by kernel_rfl) ?_
        refine Dstep.o0 (i := 11) rfl (st6 sz46 rfl rfl rfl rfl rfl rfl) (fun v B' H' hΦ hB => ?_)
        obtain ⟨rfl, rfl⟩ := hΦ; clear hB v
        refine ⟨je (je (je (JOk.top) (by kernel_rfl)) (by kernel_rfl)) (by kernel_rfl), ?_⟩
        refine Dx.done (by kernel_rfl) ?_
        exact Xx.mkK (mO hB2 hB3 hB4 hv2 hv3 hv4 rfl) (Sub.cons (s := 7) rfl (Sub.cons (s := 8) rfl (Sub.cons (s := 9) rfl (Sub.cons (s := 6) rfl (Sub.nil _)))))
      refine Dstep.o (i := 8) rfl (allocO ti46) rfl (fun v B' H' hΦ hB => ?_)
      obtain ⟨b9, rfl, rfl, rfl⟩ := hΦ; clear hB
      refine ⟨jy (jy (jy (JOk.top) (ldv rfl rfl)) (ldv rfl rfl)) (ldv rfl rfl), ?_⟩
      refine Dx.three (i := 3) (j := 6) (l := 7) (by kernel_rfl) ?_ ?_ ?_
      · skip
        refine Dstep.o (i := 3) rfl (Ox.cb rfl rfl rfl (cut8 (ValR.mono hB2 hy))) rfl (fun v B' H' hΦ hB => ?_)
        obtain ⟨rfl, hΦ⟩ := hΦ
        obtain ⟨cs3, rfl, hv3⟩ := hΦ
        obtain ⟨Apcs3, cpcs3, Ancs3, cncs3, rfl⟩ := ValR.shape hv3
        have hB3 := hB
        refine ⟨jy (je (jy (JOk.top) (ldv rfl rfl)) (by kernel_rfl)) (ldv rfl rfl), ?_⟩
        refine Dx.three (i := 5) (j := 6) (l := 7) (by kernel_rfl) ?_ ?_ ?_
        · skip
          refine Dstep.o (i := 5) rfl (Ox.cb rfl rfl rfl (cut8 (ValR.mono hB3 (ValR.mono hB2 hz)))) rfl (fun v B' H' hΦ hB => ?_)
          obtain ⟨rfl, hΦ⟩ := hΦ
          obtain ⟨cs4, rfl, hv4⟩ := hΦ
          obtain ⟨Apcs4, cpcs4, Ancs4, cncs4, rfl⟩ := ValR.shape hv4
          have hB4 := hB
          refine ⟨je (jy (jy (JOk.top) (ldv rfl rfl)) (ldv rfl rfl)) (by kernel_rfl), ?_⟩
          refine Dx.two (i := 6) (j := 7) (by kernel_rfl) ?_ ?_
          · skip
            refine Dstep.o (i := 6) rfl (allocO ti46) rfl (fun v B' H' hΦ hB => ?_)
            obtain ⟨b7, rfl, rfl, rfl⟩ := hΦ; clear hB
            refine ⟨jy (jy (jy (JOk.top) (ldv rfl rfl)) (ldv rfl rfl)) (ldv rfl rfl), ?_⟩
            refine Dx.one (i := 7) (by kernel_rfl) ?_
            refine Dstep.o (i := 7) rfl (allocO ti46) rfl (fun v B' H' hΦ hB => ?_)
            obtain ⟨b8, rfl, rfl, rfl⟩ := hΦ; clear hB
            refine ⟨jy (jy (jy (JOk.top) (ldv rfl rfl)) (ldv rfl rfl)) (ldv rfl rfl), ?_⟩
            refine Dx.one (i := 9) (by kernel_rfl) ?_
            refine Dstep.o0 (i := 9) rfl (st6 sz46 rfl rfl rfl rfl rfl rfl) (fun v B' H' hΦ hB => ?_)
            obtain ⟨rfl, rfl⟩ := hΦ; clear hB v
            refine ⟨jy (jy (je (JOk.top) (by kernel_rfl)) (ldv rfl rfl)) (ldv rfl rfl), ?_⟩
            refine Dx.one (i := 10) (by kernel_rfl) ?_
            refine Dstep.o0 (i := 10) rfl (st6 sz46 rfl rfl rfl rfl rfl rfl) (fun v B' H' hΦ hB => ?_)
            obtain ⟨rfl, rfl⟩ := hΦ; clear hB v
            refine ⟨jy (je (je (JOk.top) (by kernel_rfl)) (by kernel_rfl)) (ldv rfl rfl), ?_⟩
            refine Dx.one (i := 11) (by kernel_rfl) ?_
            refine Dstep.o0 (i := 11) rfl (st6 sz46 rfl rfl rfl rfl rfl rfl) (fun v B' H' hΦ hB => ?_)
            obtain ⟨rfl, rfl⟩ := hΦ; clear hB v
            refine ⟨je (je (je (JOk.top) (by kernel_rfl)) (by kernel_rfl)) (by kernel_rfl), ?_⟩
            refine Dx.done (by kernel_rfl) ?_
            exact Xx.mkK (mO hB2 hB3 hB4 hv2 hv3 hv4 rfl) (Sub.cons (s := 7) rfl (Sub.cons (s := 8) rfl (Sub.cons (s := 9) rfl (Sub.cons (s := 6) rfl (Sub.nil _)))))
          refine Dstep.o (i := 7) rfl (allocO ti46) rfl (fun v B' H' hΦ hB => ?_)
          obtain ⟨b8, rfl, rfl, rfl⟩ := hΦ; clear hB
          refine ⟨jy (jy (jy (JOk.top) (ldv rfl rfl)) (ldv rfl rfl)) (ldv rfl rfl), ?_⟩
          refine Dx.one (i := 6) (by kernel_rfl) ?_
          refine Dstep.o (i := 6) rfl (allocO ti46) rfl (fun v B' H' hΦ hB => ?_)
          obtain ⟨b7, rfl, rfl, rfl⟩ := hΦ; clear hB
          refine ⟨jy (jy (jy (JOk.top) (ldv rfl rfl)) (ldv rfl rfl)) (ldv rfl rfl), ?_⟩
          refine Dx.one (i := 9) (by kernel_rfl) ?_
          refine Dstep.o0 (i := 9) rfl (st6 sz46 rfl rfl rfl rfl rfl rfl) (fun v B' H' hΦ hB => ?_)
          obtain ⟨rfl, rfl⟩ := hΦ; clear hB v
          refine ⟨jy (jy (je (JOk.top) (by kernel_rfl)) (ldv rfl rfl)) (ldv rfl rfl), ?_⟩
          refine Dx.one (i := 10) (by kernel_rfl) ?_
          refine Dstep.o0 (i := 10) rfl (st6 sz46 rfl rfl rfl rfl rfl rfl) (fun v B' H' hΦ hB => ?_)
          obtain ⟨rfl, rfl⟩ := hΦ; clear hB v
          refine ⟨jy (je (je (JOk.top) (by kernel_rfl)) (by kernel_rfl)) (ldv rfl rfl), ?_⟩
          refine Dx.one (i := 11) (by kernel_rfl) ?_
          refine Dstep.o0 (i := 11) rfl (st6 sz46 rfl rfl rfl rfl rfl rfl) (fun v B' H' hΦ hB => ?_)
          obtain ⟨rfl, rfl⟩ := hΦ; clear hB v
          refine ⟨je (je (je (JOk.top) (by kernel_rfl)) (by kernel_rfl)) (by kernel_rfl), ?_⟩
          refine Dx.done (by kernel_rfl) ?_
          exact Xx.mkK (mO hB2 hB3 hB4 hv2 hv3 hv4 rfl) (Sub.cons (s := 7) rfl (Sub.cons (s := 8) rfl (Sub.cons (s := 9) rfl (Sub.cons (s := 6) rfl (Sub.nil _)))))
        · skip
          refine Dstep.o (i := 6) rfl (allocO ti46) rfl (fun v B' H' hΦ hB => ?_)
          obtain ⟨b7, rfl, rfl, rfl⟩ := hΦ; clear hB
          refine ⟨jy (jy (jy (JOk.top) (ldv rfl rfl)) (ldv rfl rfl)) (ldv rfl rfl), ?_⟩
          refine Dx.two (i := 5) (j := 7) (by kernel_rfl) ?_ ?_
          · skip
            refine Dstep.o (i := 5) rfl (Ox.cb rfl rfl rfl (cut8 (ValR.mono hB3 (ValR.mono hB2 hz)))) rfl (fun v B' H' hΦ hB => ?_)
            obtain ⟨rfl, hΦ⟩ := hΦ
            obtain ⟨cs4, rfl, hv4⟩ := hΦ
            obtain ⟨Apcs4, cpcs4, Ancs4, cncs4, rfl⟩ := ValR.shape hv4
            have hB4 := hB
            refine ⟨je (jy (jy (JOk.top) (ldv rfl rfl)) (ldv rfl rfl)) (by kernel_rfl), ?_⟩
            refine Dx.one (i := 7) (by kernel_rfl) ?_
            refine Dstep.o (i := 7) rfl (allocO ti46) rfl (fun v B' H' hΦ hB => ?_)
            obtain ⟨b8, rfl, rfl, rfl⟩ := hΦ; clear hB
            refine ⟨jy (jy (jy (JOk.top) (ldv rfl rfl)) (ldv rfl rfl)) (ldv rfl rfl), ?_⟩
            refine Dx.one (i := 9) (by kernel_rfl) ?_
            refine Dstep.o0 (i := 9) rfl (st6 sz46 rfl rfl rfl rfl rfl rfl) (fun v B' H' hΦ hB => ?_)
            obtain ⟨rfl, rfl⟩ := hΦ; clear hB v
            refine ⟨jy (jy (je (JOk.top) (by kernel_rfl)) (ldv rfl rfl)) (ldv rfl rfl), ?_⟩
            refine Dx.one (i := 10) (by kernel_rfl) ?_
            refine Dstep.o0 (i := 10) rfl (st6 sz46 rfl rfl rfl rfl rfl rfl) (fun v B' H' hΦ hB => ?_)
            obtain ⟨rfl, rfl⟩ := hΦ; clear hB v
            refine ⟨jy (je (je (JOk.top) (by kernel_rfl)) (by kernel_rfl)) (ldv rfl rfl), ?_⟩
            refine Dx.one (i := 11) (by kernel_rfl) ?_
            refine Dstep.o0 (i := 11) rfl (st6 sz46 rfl rfl rfl rfl rfl rfl) (fun v B' H' hΦ hB => ?_)
            obtain ⟨rfl, rfl⟩ := hΦ; clear hB v
            refine ⟨je (je (je (JOk.top) (by kernel_rfl)) (by kernel_rfl)) (by kernel_rfl), ?_⟩
            refine Dx.done (by kernel_rfl) ?_
            exact Xx.mkK (mO hB2 hB3 hB4 hv2 hv3 hv4 rfl) (Sub.cons (s := 7) rfl (Sub.cons (s := 8) rfl (Sub.cons (s := 9) rfl (Sub.cons (s := 6) rfl (Sub.nil _)))))
          refine Dstep.o (i := 7) rfl (allocO ti46) rfl (fun v B' H' hΦ hB => ?_)
          obtain ⟨b8, rfl, rfl, rfl⟩ := hΦ; clear hB
          refine ⟨jy (jy (jy (JOk.top) (ldv rfl rfl)) (ldv rfl rfl)) (ldv rfl rfl), ?_⟩
          refine Dx.one (i := 5) (by kernel_rfl) ?_
          refine Dstep.o (i := 5) rfl (Ox.cb rfl rfl rfl (cut8 (ValR.mono hB3 (ValR.mono hB2 hz)))) rfl (fun v B' H' hΦ hB => ?_)
          obtain ⟨rfl, hΦ⟩ := hΦ
          obtain ⟨cs4, rfl, hv4⟩ := hΦ
          obtain ⟨Apcs4, cpcs4, Ancs4, cncs4, rfl⟩ := ValR.shape hv4
          have hB4 := hB
          refine ⟨je (jy (jy (JOk.top) (ldv rfl rfl)) (ldv rfl rfl)) (by kernel_rfl), ?_⟩
          refine Dx.one (i := 9) (by kernel_rfl) ?_
          refine Dstep.o0 (i := 9) rfl (st6 sz46 rfl rfl rfl rfl rfl rfl) (fun v B' H' hΦ hB => ?_)
          obtain ⟨rfl, rfl⟩ := hΦ; clear hB v
          refine ⟨jy (jy (je (JOk.top) (by kernel_rfl)) (ldv rfl rfl)) (ldv rfl rfl), ?_⟩
          refine Dx.one (i := 10) (by kernel_rfl) ?_
          refine Dstep.o0 (i := 10) rfl (st6 sz46 rfl rfl rfl rfl rfl rfl) (fun v B' H' hΦ hB => ?_)
          obtain ⟨rfl, rfl⟩ := hΦ; clear hB v
          refine ⟨jy (je (je (JOk.top) (by kernel_rfl)) (by kernel_rfl)) (ldv rfl rfl), ?_⟩
          refine Dx.one (i := 11) (by kernel_rfl) ?_
          refine Dstep.o0 (i := 11) rfl (st6 sz46 rfl rfl rfl rfl rfl rfl) (fun v B' H' hΦ hB => ?_)
          obtain ⟨rfl, rfl⟩ := hΦ; clear hB v
          refine ⟨je (je (je (JOk.top) (by kernel_rfl)) (by kernel_rfl)) (by kernel_rfl), ?_⟩
          refine Dx.done (by kernel_rfl) ?_
          exact Xx.mkK (mO hB2 hB3 hB4 hv2 hv3 hv4 rfl) (Sub.cons (s := 7) rfl (Sub.cons (s := 8) rfl (Sub.cons (s := 9) rfl (Sub.cons (s := 6) rfl (Sub.nil _)))))
        refine Dstep.o (i := 7) rfl (allocO ti46) rfl (fun v B' H' hΦ hB => ?_)
        obtain ⟨b8, rfl, rfl, rfl⟩ := hΦ; clear hB
        refine ⟨jy (jy (jy (JOk.top) (ldv rfl rfl)) (ldv rfl rfl)) (ldv rfl rfl), ?_⟩
        refine Dx.two (i := 5) (j := 6) (by kernel_rfl) ?_ ?_
        · skip
          refine Dstep.o (i := 5) rfl (Ox.cb rfl rfl rfl (cut8 (ValR.mono hB3 (ValR.mono hB2 hz)))) rfl (fun v B' H' hΦ hB => ?_)
          obtain ⟨rfl, hΦ⟩ := hΦ
          obtain ⟨cs4, rfl, hv4⟩ := hΦ
          obtain ⟨Apcs4, cpcs4, Ancs4, cncs4, rfl⟩ := ValR.shape hv4
          have hB4 := hB
          refine ⟨je (jy (jy (JOk.top) (ldv rfl rfl)) (ldv rfl rfl)) (by kernel_rfl), ?_⟩
          refine Dx.one (i := 6) (by kernel_rfl) ?_
          refine Dstep.o (i := 6) rfl (allocO ti46) rfl (fun v B' H' hΦ hB => ?_)
          obtain ⟨b7, rfl, rfl, rfl⟩ := hΦ; clear hB
          refine ⟨jy (jy (jy (JOk.top) (ldv rfl rfl)) (ldv rfl rfl)) (ldv rfl rfl), ?_⟩
          refine Dx.one (i := 9) (by kernel_rfl) ?_
          refine Dstep.o0 (i := 9) rfl (st6 sz46 rfl rfl rfl rfl rfl rfl) (fun v B' H' hΦ hB => ?_)
          obtain ⟨rfl, rfl⟩ := hΦ; clear hB v
          refine ⟨jy (jy (je (JOk.top) (by kernel_rfl)) (ldv rfl rfl)) (ldv rfl rfl), ?_⟩
          refine Dx.one (i := 10) (by kernel_rfl) ?_
          refine Dstep.o0 (i := 10) rfl (st6 sz46 rfl rfl rfl rfl rfl rfl) (fun v B' H' hΦ hB => ?_)
          obtain ⟨rfl, rfl⟩ := hΦ; clear hB v
          refine ⟨jy (je (je (JOk.top) (by kernel_rfl)) (by kernel_rfl)) (ldv rfl rfl), ?_⟩
          refine Dx.one (i := 11) (by kernel_rfl) ?_
          refine Dstep.o0 (i := 11) rfl (st6 sz46 rfl rfl rfl rfl rfl rfl) (fun v B' H' hΦ hB => ?_)
          obtain ⟨rfl, rfl⟩ := hΦ; clear hB v
          refine ⟨je (je (je (JOk.top) (by kernel_rfl)) (by kernel_rfl)) (by kernel_rfl), ?_⟩
          refine Dx.done (by kernel_rfl) ?_
          exact Xx.mkK (mO hB2 hB3 hB4 hv2 hv3 hv4 rfl) (Sub.cons (s := 7) rfl (Sub.cons (s := 8) rfl (Sub.cons (s := 9) rfl (Sub.cons (s := 6) rfl (Sub.nil _)))))
        refine Dstep.o (i := 6) rfl (allocO ti46) rfl (fun v B' H' hΦ hB => ?_)
        obtain ⟨b7, rfl, rfl, rfl⟩ := hΦ; clear hB
        refine ⟨jy (jy (jy (JOk.top) (ldv rfl rfl)) (ldv rfl rfl)) (ldv rfl rfl), ?_⟩
        refine Dx.one (i := 5) (by kernel_rfl) ?_
        refine Dstep.o (i := 5) rfl (Ox.cb rfl rfl rfl (cut8 (ValR.mono hB3 (ValR.mono hB2 hz)))) rfl (fun v B' H' hΦ hB => ?_)
        obtain ⟨rfl, hΦ⟩ := hΦ
        obtain ⟨cs4, rfl, hv4⟩ := hΦ
        obtain ⟨Apcs4, cpcs4, Ancs4, cncs4, rfl⟩ := ValR.shape hv4
        have hB4 := hB
        refine ⟨je (jy (jy (JOk.top) (ldv rfl rfl)) (ldv rfl rfl)) (by kernel_rfl), ?_⟩
        refine Dx.one (i := 9) (by kernel_rfl) ?_
        refine Dstep.o0 (i := 9) rfl (st6 sz46 rfl rfl rfl rfl rfl rfl) (fun v B' H' hΦ hB => ?_)
        obtain ⟨rfl, rfl⟩ := hΦ; clear hB v
        refine ⟨jy (jy (je (JOk.top) (by kernel_rfl)) (ldv rfl rfl)) (ldv rfl rfl), ?_⟩
        refine Dx.one (i := 10) (by kernel_rfl) ?_
        refine Dstep.o0 (i := 10) rfl (st6 sz46 rfl rfl rfl rfl rfl rfl) (fun v B' H' hΦ hB => ?_)
        obtain ⟨rfl, rfl⟩ := hΦ; clear hB v
        refine ⟨jy (je (je (JOk.top) (by kernel_rfl)) (by kernel_rfl)) (ldv rfl rfl), ?_⟩
        refine Dx.one (i := 11) (by kernel_rfl) ?_
        refine Dstep.o0 (i := 11) rfl (st6 sz46 rfl rfl rfl rfl rfl rfl) (fun v B' H' hΦ hB => ?_)
        obtain ⟨rfl, rfl⟩ := hΦ; clear hB v
        refine ⟨je (je (je (JOk.top) (by kernel_rfl)) (by kernel_rfl)) (by kernel_rfl), ?_⟩
        refine Dx.done (by kernel_rfl) ?_
        exact Xx.mkK (mO hB2 hB3 hB4 hv2 hv3 hv4 rfl) (Sub.cons (s := 7) rfl (Sub.cons (s := 8) rfl (Sub.cons (s := 9) rfl (Sub.cons (s := 6) rfl (Sub.nil _)))))
      · skip
        refine Dstep.o (i := 6) rfl (allocO ti46) rfl (fun v B' H' hΦ hB => ?_)
        obtain ⟨b7, rfl, rfl, rfl⟩ := hΦ; clear hB
        refine ⟨jy (jy (jy (JOk.top) (ldv rfl rfl)) (ldv rfl rfl)) (ldv rfl rfl), ?_⟩
        refine Dx.two (i := 3) (j := 7) (by kernel_rfl) ?_ ?_
        · skip
          refine Dstep.o (i := 3) rfl (Ox.cb rfl rfl rfl (cut8 (ValR.mono hB2 hy))) rfl (fun v B' H' hΦ hB => ?_)
          obtain ⟨rfl, hΦ⟩ := hΦ
          obtain ⟨cs3, rfl, hv3⟩ := hΦ
          obtain ⟨Apcs3, cpcs3, Ancs3, cncs3, rfl⟩ := ValR.shape hv3
          have hB3 := hB
          refine ⟨jy (je (jy (JOk.top) (ldv rfl rfl)) (by kernel_rfl)) (ldv rfl rfl), ?_⟩
          refine Dx.two (i := 5) (j := 7) (by kernel_rfl) ?_ ?_
          · skip
            refine Dstep.o (i := 5) rfl (Ox.cb rfl rfl rfl (cut8 (ValR.mono hB3 (ValR.mono hB2 hz)))) rfl (fun v B' H' hΦ hB => ?_)
            obtain ⟨rfl, hΦ⟩ := hΦ
            obtain ⟨cs4, rfl, hv4⟩ := hΦ
            obtain ⟨Apcs4, cpcs4, Ancs4, cncs4, rfl⟩ := ValR.shape hv4
            have hB4 := hB
            refine ⟨je (jy (jy (JOk.top) (ldv rfl rfl)) (ldv rfl rfl)) (by kernel_rfl), ?_⟩
            refine Dx.one (i := 7) (by kernel_rfl) ?_
            refine Dstep.o (i := 7) rfl (allocO ti46) rfl (fun v B' H' hΦ hB => ?_)
            obtain ⟨b8, rfl, rfl, rfl⟩ := hΦ; clear hB
            refine ⟨jy (jy (jy (JOk.top) (ldv rfl rfl)) (ldv rfl rfl)) (ldv rfl rfl), ?_⟩
            refine Dx.one (i := 9) (by kernel_rfl) ?_
            refine Dstep.o0 (i := 9) rfl (st6 sz46 rfl rfl rfl rfl rfl rfl) (fun v B' H' hΦ hB => ?_)
            obtain ⟨rfl, rfl⟩ := hΦ; clear hB v
            refine ⟨jy (jy (je (JOk.top) (by kernel_rfl)) (ldv rfl rfl)) (ldv rfl rfl), ?_⟩
            refine Dx.one (i := 10) (by kernel_rfl) ?_
            refine Dstep.o0 (i := 10) rfl (st6 sz46 rfl rfl rfl rfl rfl rfl) (fun v B' H' hΦ hB => ?_)
            obtain ⟨rfl, rfl⟩ := hΦ; clear hB v
            refine ⟨jy (je (je (JOk.top) (by kernel_rfl)) (by kernel_rfl)) (ldv rfl rfl), ?_⟩
            refine Dx.one (i := 11) (by kernel_rfl) ?_
            refine Dstep.o0 (i := 11) rfl (st6 sz46 rfl rfl rfl rfl rfl rfl) (fun v B' H' hΦ hB => ?_)
            obtain ⟨rfl, rfl⟩ := hΦ; clear hB v
            refine ⟨je (je (je (JOk.top) (by kernel_rfl)) (by kernel_rfl)) (by kernel_rfl), ?_⟩
            refine Dx.done (by kernel_rfl) ?_
            exact Xx.mkK (mO hB2 hB3 hB4 hv2 hv3 hv4 rfl) (Sub.cons (s := 7) rfl (Sub.cons (s := 8) rfl (Sub.cons (s := 9) rfl (Sub.cons (s := 6) rfl (Sub.nil _)))))
          refine Dstep.o (i := 7) rfl (allocO ti46) rfl (fun v B' H' hΦ hB => ?_)
          obtain ⟨b8, rfl, rfl, rfl⟩ := hΦ; clear hB
          refine ⟨jy (jy (jy (JOk.top) (ldv rfl rfl)) (ldv rfl rfl)) (ldv rfl rfl), ?_⟩
          refine Dx.one (i := 5) (by kernel_rfl) ?_
          refine Dstep.o (i := 5) rfl (Ox.cb rfl rfl rfl (cut8 (ValR.mono hB3 (ValR.mono hB2 hz)))) rfl (fun v B' H' hΦ hB => ?_)
          obtain ⟨rfl, hΦ⟩ := hΦ
          obtain ⟨cs4, rfl, hv4⟩ := hΦ
          obtain ⟨Apcs4, cpcs4, Ancs4, cncs4, rfl⟩ := ValR.shape hv4
          have hB4 := hB
          refine ⟨je (jy (jy (JOk.top) (ldv rfl rfl)) (ldv rfl rfl)) (by kernel_rfl), ?_⟩
          refine Dx.one (i := 9) (by kernel_rfl) ?_
          refine Dstep.o0 (i := 9) rfl (st6 sz46 rfl rfl rfl rfl rfl rfl) (fun v B' H' hΦ hB => ?_)
          obtain ⟨rfl, rfl⟩ := hΦ; clear hB v
          refine ⟨jy (jy (je (JOk.top) (by kernel_rfl)) (ldv rfl rfl)) (ldv rfl rfl), ?_⟩
          refine Dx.one (i := 10) (by kernel_rfl) ?_
          refine Dstep.o0 (i := 10) rfl (st6 sz46 rfl rfl rfl rfl rfl rfl) (fun v B' H' hΦ hB => ?_)
          obtain ⟨rfl, rfl⟩ := hΦ; clear hB v
          refine ⟨jy (je (je (JOk.top) (by kernel_rfl)) (by kernel_rfl)) (ldv rfl rfl), ?_⟩
          refine Dx.one (i := 11) (by kernel_rfl) ?_
          refine Dstep.o0 (i := 11) rfl (st6 sz46 rfl rfl rfl rfl rfl rfl) (fun v B' H' hΦ hB => ?_)
          obtain ⟨rfl, rfl⟩ := hΦ; clear hB v
          refine ⟨je (je (je (JOk.top) (by kernel_rfl)) (by kernel_rfl)) (by kernel_rfl), ?_⟩
          refine Dx.done (by kernel_rfl) ?_
          exact Xx.mkK (mO hB2 hB3 hB4 hv2 hv3 hv4 rfl) (Sub.cons (s := 7) rfl (Sub.cons (s := 8) rfl (Sub.cons (s := 9) rfl (Sub.cons (s := 6) rfl (Sub.nil _)))))
        refine Dstep.o (i := 7) rfl (allocO ti46) rfl (fun v B' H' hΦ hB => ?_)
        obtain ⟨b8, rfl, rfl, rfl⟩ := hΦ; clear hB
        refine ⟨jy (jy (jy (JOk.top) (ldv rfl rfl)) (ldv rfl rfl)) (ldv rfl rfl), ?_⟩
        refine Dx.one (i := 3) (by kernel_rfl) ?_
        refine Dstep.o (i := 3) rfl (Ox.cb rfl rfl rfl (cut8 (ValR.mono hB2 hy))) rfl (fun v B' H' hΦ hB => ?_)
        obtain ⟨rfl, hΦ⟩ := hΦ
        obtain ⟨cs3, rfl, hv3⟩ := hΦ
        obtain ⟨Apcs3, cpcs3, Ancs3, cncs3, rfl⟩ := ValR.shape hv3
        have hB3 := hB
        refine ⟨jy (je (jy (JOk.top) (ldv rfl rfl)) (by kernel_rfl)) (ldv rfl rfl), ?_⟩
        refine Dx.one (i := 5) (by kernel_rfl) ?_
        refine Dstep.o (i := 5) rfl (Ox.cb rfl rfl rfl (cut8 (ValR.mono hB3 (ValR.mono hB2 hz)))) rfl (fun v B' H' hΦ hB => ?_)
        obtain ⟨rfl, hΦ⟩ := hΦ
        obtain ⟨cs4, rfl, hv4⟩ := hΦ
        obtain ⟨Apcs4, cpcs4, Ancs4, cncs4, rfl⟩ := ValR.shape hv4
        have hB4 := hB
        refine ⟨je (jy (jy (JOk.top) (ldv rfl rfl)) (ldv rfl rfl)) (by kernel_rfl), ?_⟩
        refine Dx.one (i := 9) (by kernel_rfl) ?_
        refine Dstep.o0 (i := 9) rfl (st6 sz46 rfl rfl rfl rfl rfl rfl) (fun v B' H' hΦ hB => ?_)
        obtain ⟨rfl, rfl⟩ := hΦ; clear hB v
        refine ⟨jy (jy (je (JOk.top) (by kernel_rfl)) (ldv rfl rfl)) (ldv rfl rfl), ?_⟩
        refine Dx.one (i := 10) (by kernel_rfl) ?_
        refine Dstep.o0 (i := 10) rfl (st6 sz46 rfl rfl rfl rfl rfl rfl) (fun v B' H' hΦ hB => ?_)
        obtain ⟨rfl, rfl⟩ := hΦ; clear hB v
        refine ⟨jy (je (je (JOk.top) (by kernel_rfl)) (by kernel_rfl)) (ldv rfl rfl), ?_⟩
        refine Dx.one (i := 11) (by kernel_rfl) ?_
        refine Dstep.o0 (i := 11) rfl (st6 sz46 rfl rfl rfl rfl rfl rfl) (fun v B' H' hΦ hB => ?_)
        obtain ⟨rfl, rfl⟩ := hΦ; clear hB v
        refine ⟨je (je (je (JOk.top) (by kernel_rfl)) (by kernel_rfl)) (by kernel_rfl), ?_⟩
        refine Dx.done (by kernel_rfl) ?_
        exact Xx.mkK (mO hB2 hB3 hB4 hv2 hv3 hv4 rfl) (Sub.cons (s := 7) rfl (Sub.cons (s := 8) rfl (Sub.cons (s := 9) rfl (Sub.cons (s := 6) rfl (Sub.nil _)))))
      refine Dstep.o (i := 7) rfl (allocO ti46) rfl (fun v B' H' hΦ hB => ?_)
      obtain ⟨b8, rfl, rfl, rfl⟩ := hΦ; clear hB
      refine ⟨jy (jy (jy (JOk.top) (ldv rfl rfl)) (ldv rfl rfl)) (ldv rfl rfl), ?_⟩
      refine Dx.two (i := 3) (j := 6) (by kernel_rfl) ?_ ?_
      · skip
        refine Dstep.o (i := 3) rfl (Ox.cb rfl rfl rfl (cut8 (ValR.mono hB2 hy))) rfl (fun v B' H' hΦ hB => ?_)
        obtain ⟨rfl, hΦ⟩ := hΦ
        obtain ⟨cs3, rfl, hv3⟩ := hΦ
        obtain ⟨Apcs3, cpcs3, Ancs3, cncs3, rfl⟩ := ValR.shape hv3
        have hB3 := hB
        refine ⟨jy (je (jy (JOk.top) (ldv rfl rfl)) (by kernel_rfl)) (ldv rfl rfl), ?_⟩
        refine Dx.two (i := 5) (j := 6) (by kernel_rfl) ?_ ?_
        · skip
          refine Dstep.o (i := 5) rfl (Ox.cb rfl rfl rfl (cut8 (ValR.mono hB3 (ValR.mono hB2 hz)))) rfl (fun v B' H' hΦ hB => ?_)
          obtain ⟨rfl, hΦ⟩ := hΦ
          obtain ⟨cs4, rfl, hv4⟩ := hΦ
          obtain ⟨Apcs4, cpcs4, Ancs4, cncs4, rfl⟩ := ValR.shape hv4
          have hB4 := hB
          refine ⟨je (jy (jy (JOk.top) (ldv rfl rfl)) (ldv rfl rfl)) (by kernel_rfl), ?_⟩
          refine Dx.one (i := 6) (by kernel_rfl) ?_
          refine Dstep.o (i := 6) rfl (allocO ti46) rfl (fun v B' H' hΦ hB => ?_)
          obtain ⟨b7, rfl, rfl, rfl⟩ := hΦ; clear hB
          refine ⟨jy (jy (jy (JOk.top) (ldv rfl rfl)) (ldv rfl rfl)) (ldv rfl rfl), ?_⟩
          refine Dx.one (i := 9) (by kernel_rfl) ?_
          refine Dstep.o0 (i := 9) rfl (st6 sz46 rfl rfl rfl rfl rfl rfl) (fun v B' H' hΦ hB => ?_)
          obtain ⟨rfl, rfl⟩ := hΦ; clear hB v
          refine ⟨jy (jy (je (JOk.top) (by kernel_rfl)) (ldv rfl rfl)) (ldv rfl rfl), ?_⟩
          refine Dx.one (i := 10) (by kernel_rfl) ?_
          refine Dstep.o0 (i := 10) rfl (st6 sz46 rfl rfl rfl rfl rfl rfl) (fun v B' H' hΦ hB => ?_)
          obtain ⟨rfl, rfl⟩ := hΦ; clear hB v
          refine ⟨jy (je (je (JOk.top) (by kernel_rfl)) (by kernel_rfl)) (ldv rfl rfl), ?_⟩
          refine Dx.one (i := 11) (by kernel_rfl) ?_
          refine Dstep.o0 (i := 11) rfl (st6 sz46 rfl rfl rfl rfl rfl rfl) (fun v B' H' hΦ hB => ?_)
          obtain ⟨rfl, rfl⟩ := hΦ; clear hB v
          refine ⟨je (je (je (JOk.top) (by kernel_rfl)) (by kernel_rfl)) (by kernel_rfl), ?_⟩
          refine Dx.done (by kernel_rfl) ?_
          exact Xx.mkK (mO hB2 hB3 hB4 hv2 hv3 hv4 rfl) (Sub.cons (s := 7) rfl (Sub.cons (s := 8) rfl (Sub.cons (s := 9) rfl (Sub.cons (s := 6) rfl (Sub.nil _)))))
        refine Dstep.o (i := 6) rfl (allocO ti46) rfl (fun v B' H' hΦ hB => ?_)
        obtain ⟨b7, rfl, rfl, rfl⟩ := hΦ; clear hB
        refine ⟨jy (jy (jy (JOk.top) (ldv rfl rfl)) (ldv rfl rfl)) (ldv rfl rfl), ?_⟩
        refine Dx.one (i := 5) (by kernel_rfl) ?_
        refine Dstep.o (i := 5) rfl (Ox.cb rfl rfl rfl (cut8 (ValR.mono hB3 (ValR.mono hB2 hz)))) rfl (fun v B' H' hΦ hB => ?_)
        obtain ⟨rfl, hΦ⟩ := hΦ
        obtain ⟨cs4, rfl, hv4⟩ := hΦ
        obtain ⟨Apcs4, cpcs4, Ancs4, cncs4, rfl⟩ := ValR.shape hv4
        have hB4 := hB
        refine ⟨je (jy (jy (JOk.top) (ldv rfl rfl)) (ldv rfl rfl)) (by kernel_rfl), ?_⟩
        refine Dx.one (i := 9) (by kernel_rfl) ?_
        refine Dstep.o0 (i := 9) rfl (st6 sz46 rfl rfl rfl rfl rfl rfl) (fun v B' H' hΦ hB => ?_)
        obtain ⟨rfl, rfl⟩ := hΦ; clear hB v
        refine ⟨jy (jy (je (JOk.top) (by kernel_rfl)) (ldv rfl rfl)) (ldv rfl rfl), ?_⟩
        refine Dx.one (i := 10) (by kernel_rfl) ?_
        refine Dstep.o0 (i := 10) rfl (st6 sz46 rfl rfl rfl rfl rfl rfl) (fun v B' H' hΦ hB => ?_)
        obtain ⟨rfl, rfl⟩ := hΦ; clear hB v
        refine ⟨jy (je (je (JOk.top) (by kernel_rfl)) (by kernel_rfl)) (ldv rfl rfl), ?_⟩
        refine Dx.one (i := 11) (by kernel_rfl) ?_
        refine Dstep.o0 (i := 11) rfl (st6 sz46 rfl rfl rfl rfl rfl rfl) (fun v B' H' hΦ hB => ?_)
        obtain ⟨rfl, rfl⟩ := hΦ; clear hB v
        refine ⟨je (je (je (JOk.top) (by kernel_rfl)) (by kernel_rfl)) (by kernel_rfl), ?_⟩
        refine Dx.done (by kernel_rfl) ?_
        exact Xx.mkK (mO hB2 hB3 hB4 hv2 hv3 hv4 rfl) (Sub.cons (s := 7) rfl (Sub.cons (s := 8) rfl (Sub.cons (s := 9) rfl (Sub.cons (s := 6) rfl (Sub.nil _)))))
      refine Dstep.o (i := 6) rfl (allocO ti46) rfl (fun v B' H' hΦ hB => ?_)
      obtain ⟨b7, rfl, rfl, rfl⟩ := hΦ; clear hB
      refine ⟨jy (jy (jy (JOk.top) (ldv rfl rfl)) (ldv rfl rfl)) (ldv rfl rfl), ?_⟩
      refine Dx.one (i := 3) (by kernel_rfl) ?_
      refine Dstep.o (i := 3) rfl (Ox.cb rfl rfl rfl (cut8 (ValR.mono hB2 hy))) rfl (fun v B' H' hΦ hB => ?_)
      obtain ⟨rfl, hΦ⟩ := hΦ
      obtain ⟨cs3, rfl, hv3⟩ := hΦ
      obtain ⟨Apcs3, cpcs3, Ancs3, cncs3, rfl⟩ := ValR.shape hv3
      have hB3 := hB
      refine ⟨jy (je (jy (JOk.top) (ldv rfl rfl)) (by kernel_rfl)) (ldv rfl rfl), ?_⟩
      refine Dx.one (i := 5) (by kernel_rfl) ?_
      refine Dstep.o (i := 5) rfl (Ox.cb rfl rfl rfl (cut8 (ValR.mono hB3 (ValR.mono hB2 hz)))) rfl (fun v B' H' hΦ hB => ?_)
      obtain ⟨rfl, hΦ⟩ := hΦ
      obtain ⟨cs4, rfl, hv4⟩ := hΦ
      obtain ⟨Apcs4, cpcs4, Ancs4, cncs4, rfl⟩ := ValR.shape hv4
      have hB4 := hB
      refine ⟨je (jy (jy (JOk.top) (ldv rfl rfl)) (ldv rfl rfl)) (by kernel_rfl), ?_⟩
      refine Dx.one (i := 9) (by kernel_rfl) ?_
      refine Dstep.o0 (i := 9) rfl (st6 sz46 rfl rfl rfl rfl rfl rfl) (fun v B' H' hΦ hB => ?_)
      obtain ⟨rfl, rfl⟩ := hΦ; clear hB v
      refine ⟨jy (jy (je (JOk.top) (by kernel_rfl)) (ldv rfl rfl)) (ldv rfl rfl), ?_⟩
      refine Dx.one (i := 10) (by kernel_rfl) ?_
      refine Dstep.o0 (i := 10) rfl (st6 sz46 rfl rfl rfl rfl rfl rfl) (fun v B' H' hΦ hB => ?_)
      obtain ⟨rfl, rfl⟩ := hΦ; clear hB v
      refine ⟨jy (je (je (JOk.top) (by kernel_rfl)) (by kernel_rfl)) (ldv rfl rfl), ?_⟩
      refine Dx.one (i := 11) (by kernel_rfl) ?_
      refine Dstep.o0 (i := 11) rfl (st6 sz46 rfl rfl rfl rfl rfl rfl) (fun v B' H' hΦ hB => ?_)
      obtain ⟨rfl, rfl⟩ := hΦ; clear hB v
      refine ⟨je (je (je (JOk.top) (by kernel_rfl)) (by kernel_rfl)) (by kernel_rfl), ?_⟩
      refine Dx.done (by kernel_rfl) ?_
      exact Xx.mkK (mO hB2 hB3 hB4 hv2 hv3 hv4 rfl) (Sub.cons (s := 7) rfl (Sub.cons (s := 8) rfl (Sub.cons (s := 9) rfl (Sub.cons (s := 6) rfl (Sub.nil _)))))
    · skip
      refine Dstep.o (i := 6) rfl (allocO ti46) rfl (fun v B' H' hΦ hB => ?_)
      obtain ⟨b7, rfl, rfl, rfl⟩ := hΦ; clear hB
      refine ⟨jy (jy (jy (JOk.top) (ldv rfl rfl)) (ldv rfl rfl)) (ldv rfl rfl), ?_⟩
      refine Dx.three (i := 1) (j := 7) (l := 8) (by kernel_rfl) ?_ ?_ ?_
      · skip
        refine Dstep.o (i := 1) rfl (Ox.cb rfl rfl rfl (cut8 (hx))) rfl (fun v B' H' hΦ hB => ?_)
        obtain ⟨rfl, hΦ⟩ := hΦ
        obtain ⟨cs2, rfl, hv2⟩ := hΦ
        obtain ⟨Apcs2, cpcs2, Ancs2, cncs2, rfl⟩ := ValR.shape hv2
        have hB2 := hB
        refine ⟨jy (jy (je (JOk.top) (by kernel_rfl)) (ldv rfl rfl)) (ldv rfl rfl), ?_⟩
        refine Dx.three (i := 3) (j := 7) (l := 8) (by kernel_rfl) ?_ ?_ ?_
        · skip
          refine Dstep.o (i := 3) rfl (Ox.cb rfl rfl rfl (cut8 (ValR.mono hB2 hy))) rfl (fun v B' H' hΦ hB => ?_)
          obtain ⟨rfl, hΦ⟩ := hΦ
          obtain ⟨cs3, rfl, hv3⟩ := hΦ
          obtain ⟨Apcs3, cpcs3, Ancs3, cncs3, rfl⟩ := ValR.shape hv3
          have hB3 := hB
          refine ⟨jy (je (jy (JOk.top) (ldv rfl rfl)) (by kernel_rfl)) (ldv rfl rfl), ?_⟩
          refine Dx.three (i := 5) (j := 7) (l := 8) (by kernel_rfl) ?_ ?_ ?_
          · skip
            refine Dstep.o (i := 5) rfl (Ox.cb rfl rfl rfl (cut8 (ValR.mono hB3 (ValR.mono hB2 hz)))) rfl (fun v B' H' hΦ hB => ?_)
            obtain ⟨rfl, hΦ⟩ := hΦ
            obtain ⟨cs4, rfl, hv4⟩ := hΦ
            obtain ⟨Apcs4, cpcs4, Ancs4, cncs4, rfl⟩ := ValR.shape hv4
            have hB4 := hB
            refine ⟨je (jy (jy (JOk.top) (ldv rfl rfl)) (ldv rfl rfl)) (by kernel_rfl), ?_⟩
            refine Dx.two (i := 7) (j := 8) (by kernel_rfl) ?_ ?_
            · skip
              refine Dstep.o (i := 7) rfl (allocO ti46) rfl (fun v B' H' hΦ hB => ?_)
              obtain ⟨b8, rfl, rfl, rfl⟩ := hΦ; clear hB
              refine ⟨jy (jy (jy (JOk.top) (ldv rfl rfl)) (ldv rfl rfl)) (ldv rfl rfl), ?_⟩
              refine Dx.one (i := 8) (by kernel_rfl) ?_
              refine Dstep.o (i := 8) rfl (allocO ti46) rfl (fun v B' H' hΦ hB => ?_)
              obtain ⟨b9, rfl, rfl, rfl⟩ := hΦ; clear hB
              refine ⟨jy (jy (jy (JOk.top) (ldv rfl rfl)) (ldv rfl rfl)) (ldv rfl rfl), ?_⟩
              refine Dx.one (i := 9) (by kernel_rfl) ?_
              refine Dstep.o0 (i := 9) rfl (st6 sz46 rfl rfl rfl rfl rfl rfl) (fun v B' H' hΦ hB => ?_)
              obtain ⟨rfl, rfl⟩ := hΦ; clear hB v
              refine ⟨jy (jy (je (JOk.top) (by kernel_rfl)) (ldv rfl rfl)) (ldv rfl rfl), ?_⟩
              refine Dx.one (i := 10) (by kernel_rfl) ?_
              refine Dstep.o0 (i := 10) rfl (st6 sz46 rfl rfl rfl rfl rfl rfl) (fun v B' H' hΦ hB => ?_)
              obtain ⟨rfl, rfl⟩ := hΦ; clear hB v
              refine ⟨jy (je (je (JOk.top) (by kernel_rfl)) (by kernel_rfl)) (ldv rfl rfl), ?_⟩
              refine Dx.one (i := 11) (by kernel_rfl) ?_
              refine Dstep.o0 (i := 11) rfl (st6 sz46 rfl rfl rfl rfl rfl rfl) (fun v B' H' hΦ hB => ?_)
              obtain ⟨rfl, rfl⟩ := hΦ; clear hB v
              refine ⟨je (je (je (JOk.top) (by kernel_rfl)) (by kernel_rfl)) (by kernel_rfl), ?_⟩
              refine Dx.done (by kernel_rfl) ?_
              exact Xx.mkK (mO hB2 hB3 hB4 hv2 hv3 hv4 rfl) (Sub.cons (s := 7) rfl (Sub.cons (s := 8) rfl (Sub.cons (s := 9) rfl (Sub.cons (s := 6) rfl (Sub.nil _)))))
            refine Dstep.o (i := 8) rfl (allocO ti46) rfl (fun v B' H' hΦ hB => ?_)
            obtain ⟨b9, rfl, rfl, rfl⟩ := hΦ; clear hB
            refine ⟨jy (jy (jy (JOk.top) (ldv rfl rfl)) (ldv rfl rfl)) (ldv rfl rfl), ?_⟩
            refine Dx.one (i := 7) (by kernel_rfl) ?_
            refine Dstep.o (i := 7) rfl (allocO ti46) rfl (fun v B' H' hΦ hB => ?_)
            obtain ⟨b8, rfl, rfl, rfl⟩ := hΦ; clear hB
            refine ⟨jy (jy (jy (JOk.top) (ldv rfl rfl)) (ldv rfl rfl)) (ldv rfl rfl), ?_⟩
            refine Dx.one (i := 9) (by kernel_rfl) ?_
            refine Dstep.o0 (i := 9) rfl (st6 sz46 rfl rfl rfl rfl rfl rfl) (fun v B' H' hΦ hB => ?_)
            obtain ⟨rfl, rfl⟩ := hΦ; clear hB v
            refine ⟨jy (jy (je (JOk.top) (by kernel_rfl)) (ldv rfl rfl)) (ldv rfl rfl), ?_⟩
            refine Dx.one (i := 10) (by kernel_rfl) ?_
            refine Dstep.o0 (i := 10) rfl (st6 sz46 rfl rfl rfl rfl rfl rfl) (fun v B' H' hΦ hB => ?_)
            obtain ⟨rfl, rfl⟩ := hΦ; clear hB v
            refine ⟨jy (je (je (JOk.top) (by kernel_rfl)) (by kernel_rfl)) (ldv rfl rfl), ?_⟩
            refine Dx.one (i := 11) (by kernel_rfl) ?_
            refine Dstep.o0 (i := 11) rfl (st6 sz46 rfl rfl rfl rfl rfl rfl) (fun v B' H' hΦ hB => ?_)
            obtain ⟨rfl, rfl⟩ := hΦ; clear hB v
            refine ⟨je (je (je (JOk.top) (by kernel_rfl)) (by kernel_rfl)) (by kernel_rfl), ?_⟩
            refine Dx.done (by kernel_rfl) ?_
            exact Xx.mkK (mO hB2 hB3 hB4 hv2 hv3 hv4 rfl) (Sub.cons (s := 7) rfl (Sub.cons (s := 8) rfl (Sub.cons (s := 9) rfl (Sub.cons (s := 6) rfl (Sub.nil _)))))
          · skip
            refine Dstep.o (i := 7) rfl (allocO ti46) rfl (fun v B' H' hΦ hB => ?_)
            obtain ⟨b8, rfl, rfl, rfl⟩ := hΦ; clear hB
            refine ⟨jy (jy (jy (JOk.top) (ldv rfl rfl)) (ldv rfl rfl)) (ldv rfl rfl), ?_⟩
            refine Dx.two (i := 5) (j := 8) (by kernel_rfl) ?_ ?_
            · skip
              refine Dstep.o (i := 5) rfl (Ox.cb rfl rfl rfl (cut8 (ValR.mono hB3 (ValR.mono hB2 hz)))) rfl (fun v B' H' hΦ hB => ?_)
              obtain ⟨rfl, hΦ⟩ := hΦ
              obtain ⟨cs4, rfl, hv4⟩ := hΦ
              obtain ⟨Apcs4, cpcs4, Ancs4, cncs4, rfl⟩ := ValR.shape hv4
              have hB4 := hB
              refine ⟨je (jy (jy (JOk.top) (ldv rfl rfl)) (ldv rfl rfl)) (by kernel_rfl), ?_⟩
              refine Dx.one (i := 8) (by kernel_rfl) ?_
              refine Dstep.o (i := 8) rfl (allocO ti46) rfl (fun v B' H' hΦ hB => ?_)
              obtain ⟨b9, rfl, rfl, rfl⟩ := hΦ; clear hB
              refine ⟨jy (jy (jy (JOk.top) (ldv rfl rfl)) (ldv rfl rfl)) (ldv rfl rfl), ?_⟩
              refine Dx.one (i := 9) (by kernel_rfl) ?_
              refine Dstep.o0 (i := 9) rfl (st6 sz46 rfl rfl rfl rfl rfl rfl) (fun v B' H' hΦ hB => ?_)
              obtain ⟨rfl, rfl⟩ := hΦ; clear hB v
              refine ⟨jy (jy (je (JOk.top) (by kernel_rfl)) (ldv rfl rfl)) (ldv rfl rfl), ?_⟩
              refine Dx.one (i := 10) (by kernel_rfl) ?_
              refine Dstep.o0 (i := 10) rfl (st6 sz46 rfl rfl rfl rfl rfl rfl) (fun v B' H' hΦ hB => ?_)
              obtain ⟨rfl, rfl⟩ := hΦ; clear hB v
              refine ⟨jy (je (je (JOk.top) (by kernel_rfl)) (by kernel_rfl)) (ldv rfl rfl), ?_⟩
              refine Dx.one (i := 11) (by kernel_rfl) ?_
              refine Dstep.o0 (i := 11) rfl (st6 sz46 rfl rfl rfl rfl rfl rfl) (fun v B' H' hΦ hB => ?_)
              obtain ⟨rfl, rfl⟩ := hΦ; clear hB v
              refine ⟨je (je (je (JOk.top) (by kernel_rfl)) (by kernel_rfl)) (by kernel_rfl), ?_⟩
              refine Dx.done (by kernel_rfl) ?_
              exact Xx.mkK (mO hB2 hB3 hB4 hv2 hv3 hv4 rfl) (Sub.cons (s := 7) rfl (Sub.cons (s := 8) rfl (Sub.cons (s := 9) rfl (Sub.cons (s := 6) rfl (Sub.nil _)))))
            refine Dstep.o (i := 8) rfl (allocO ti46) rfl (fun v B' H' hΦ hB => ?_)
            obtain ⟨b9, rfl, rfl, rfl⟩ := hΦ; clear hB
            refine ⟨jy (jy (jy (JOk.top) (ldv rfl rfl)) (ldv rfl rfl)) (ldv rfl rfl), ?_⟩
            refine Dx.one (i := 5) (by kernel_rfl) ?_
            refine Dstep.o (i := 5) rfl (Ox.cb rfl rfl rfl (cut8 (ValR.mono hB3 (ValR.mono hB2 hz)))) rfl (fun v B' H' hΦ hB => ?_)
            obtain ⟨rfl, hΦ⟩ := hΦ
            obtain ⟨cs4, rfl, hv4⟩ := hΦ
            obtain ⟨Apcs4, cpcs4, Ancs4, cncs4, rfl⟩ := ValR.shape hv4
            have hB4 := hB
            refine ⟨je (jy (jy (JOk.top) (ldv rfl rfl)) (ldv rfl rfl)) (by kernel_rfl), ?_⟩
            refine Dx.one (i := 9) (by kernel_rfl) ?_
            refine Dstep.o0 (i := 9) rfl (st6 sz46 rfl rfl rfl rfl rfl rfl) (fun v B' H' hΦ hB => ?_)
            obtain ⟨rfl, rfl⟩ := hΦ; clear hB v
            refine ⟨jy (jy (je (JOk.top) (by kernel_rfl)) (ldv rfl rfl)) (ldv rfl rfl), ?_⟩
            refine Dx.one (i := 10) (by kernel_rfl) ?_
            refine Dstep.o0 (i := 10) rfl (st6 sz46 rfl rfl rfl rfl rfl rfl) (fun v B' H' hΦ hB => ?_)
            obtain ⟨rfl, rfl⟩ := hΦ; clear hB v
            refine ⟨jy (je (je (JOk.top) (by kernel_rfl)) (by kernel_rfl)) (ldv rfl rfl), ?_⟩
            refine Dx.one (i := 11) (by kernel_rfl) ?_
            refine Dstep.o0 (i := 11) rfl (st6 sz46 rfl rfl rfl rfl rfl rfl) (fun v B' H' hΦ hB => ?_)
            obtain ⟨rfl, rfl⟩ := hΦ; clear hB v
            refine ⟨je (je (je (JOk.top) (by kernel_rfl)) (by kernel_rfl)) (by kernel_rfl), ?_⟩
            refine Dx.done (by kernel_rfl) ?_
            exact Xx.mkK (mO hB2 hB3 hB4 hv2 hv3 hv4 rfl) (Sub.cons (s := 7) rfl (Sub.cons (s := 8) rfl (Sub.cons (s := 9) rfl (Sub.cons (s := 6) rfl (Sub.nil _)))))
          refine Dstep.o (i := 8) rfl (allocO ti46) rfl (fun v B' H' hΦ hB => ?_)
          obtain ⟨b9, rfl, rfl, rfl⟩ := hΦ; clear hB
          refine ⟨jy (jy (jy (JOk.top) (ldv rfl rfl)) (ldv rfl rfl)) (ldv rfl rfl), ?_⟩
          refine Dx.two (i := 5) (j := 7) (by kernel_rfl) ?_ ?_
          · skip
            refine Dstep.o (i := 5) rfl (Ox.cb rfl rfl rfl (cut8 (ValR.mono hB3 (ValR.mono hB2 hz)))) rfl (fun v B' H' hΦ hB => ?_)
            obtain ⟨rfl, hΦ⟩ := hΦ
            obtain ⟨cs4, rfl, hv4⟩ := hΦ
            obtain ⟨Apcs4, cpcs4, Ancs4, cncs4, rfl⟩ := ValR.shape hv4
            have hB4 := hB
            refine ⟨je (jy (jy (JOk.top) (ldv rfl rfl)) (ldv rfl rfl)) (by kernel_rfl), ?_⟩
            refine Dx.one (i := 7) (by kernel_rfl) ?_
            refine Dstep.o (i := 7) rfl (allocO ti46) rfl (fun v B' H' hΦ hB => ?_)
            obtain ⟨b8, rfl, rfl, rfl⟩ := hΦ; clear hB
            refine ⟨jy (jy (jy (JOk.top) (ldv rfl rfl)) (ldv rfl rfl)) (ldv rfl rfl), ?_⟩
            refine Dx.one (i := 9) (by kernel_rfl) ?_
            refine Dstep.o0 (i := 9) rfl (st6 sz46 rfl rfl rfl rfl rfl rfl) (fun v B' H' hΦ hB => ?_)
            obtain ⟨rfl, rfl⟩ := hΦ; clear hB v
            refine ⟨jy (jy (je (JOk.top) (by kernel_rfl)) (ldv rfl rfl)) (ldv rfl rfl), ?_⟩
            refine Dx.one (i := 10) (by kernel_rfl) ?_
            refine Dstep.o0 (i := 10) rfl (st6 sz46 rfl rfl rfl rfl rfl rfl) (fun v B' H' hΦ hB => ?_)
            obtain ⟨rfl, rfl⟩ := hΦ; clear hB v
            refine ⟨jy (je (je (JOk.top) (by kernel_rfl)) (by kernel_rfl)) (ldv rfl rfl), ?_⟩
            refine Dx.one (i := 11) (by kernel_rfl) ?_
            refine Dstep.o0 (i := 11) rfl (st6 sz46 rfl rfl rfl rfl rfl rfl) (fun v B' H' hΦ hB => ?_)
            obtain ⟨rfl, rfl⟩ := hΦ; clear hB v
            refine ⟨je (je (je (JOk.top) (by kernel_rfl)) (by kernel_rfl)) (by kernel_rfl), ?_⟩
            refine Dx.done (by kernel_rfl) ?_
            exact Xx.mkK (mO hB2 hB3 hB4 hv2 hv3 hv4 rfl) (Sub.cons (s := 7) rfl (Sub.cons (s := 8) rfl (Sub.cons (s := 9) rfl (Sub.cons (s := 6) rfl (Sub.nil _)))))
          refine Dstep.o (i := 7) rfl (allocO ti46) rfl (fun v B' H' hΦ hB => ?_)
          obtain ⟨b8, rfl, rfl, rfl⟩ := hΦ; clear hB
          refine ⟨jy (jy (jy (JOk.top) (ldv rfl rfl)) (ldv rfl rfl)) (ldv rfl rfl), ?_⟩
          refine Dx.one (i := 5) (by kernel_rfl) ?_
          refine Dstep.o (i := 5) rfl (Ox.cb rfl rfl rfl (cut8 (ValR.mono hB3 (ValR.mono hB2 hz)))) rfl (fun v B' H' hΦ hB => ?_)
          obtain ⟨rfl, hΦ⟩ := hΦ
          obtain ⟨cs4, rfl, hv4⟩ := hΦ
          obtain ⟨Apcs4, cpcs4, Ancs4, cncs4, rfl⟩ := ValR.shape hv4
          have hB4 := hB
          refine ⟨je (jy (jy (JOk.top) (ldv rfl rfl)) (ldv rfl rfl)) (by kernel_rfl), ?_⟩
          refine Dx.one (i := 9) (by kernel_rfl) ?_
          refine Dstep.o0 (i := 9) rfl (st6 sz46 rfl rfl rfl rfl rfl rfl) (fun v B' H' hΦ hB => ?_)
          obtain ⟨rfl, rfl⟩ := hΦ; clear hB v
          refine ⟨jy (jy (je (JOk.top) (by kernel_rfl)) (ldv rfl rfl)) (ldv rfl rfl), ?_⟩
          refine Dx.one (i := 10) (by kernel_rfl) ?_
          refine Dstep.o0 (i := 10) rfl (st6 sz46 rfl rfl rfl rfl rfl rfl) (fun v B' H' hΦ hB => ?_)
          obtain ⟨rfl, rfl⟩ := hΦ; clear hB v
          refine ⟨jy (je (je (JOk.top) (by kernel_rfl)) (by kernel_rfl)) (ldv rfl rfl), ?_⟩
          refine Dx.one (i := 11) (by kernel_rfl) ?_
          refine Dstep.o0 (i := 11) rfl (st6 sz46 rfl rfl rfl rfl rfl rfl) (fun v B' H' hΦ hB => ?_)
          obtain ⟨rfl, rfl⟩ := hΦ; clear hB v
          refine ⟨je (je (je (JOk.top) (by kernel_rfl)) (by kernel_rfl)) (by kernel_rfl), ?_⟩
          refine Dx.done (by kernel_rfl) ?_
          exact Xx.mkK (mO hB2 hB3 hB4 hv2 hv3 hv4 rfl) (Sub.cons (s := 7) rfl (Sub.cons (s := 8) rfl (Sub.cons (s := 9) rfl (Sub.cons (s := 6) rfl (Sub.nil _)))))
        · skip
          refine Dstep.o (i := 7) rfl (allocO ti46) rfl (fun v B' H' hΦ hB => ?_)
          obtain ⟨b8, rfl, rfl, rfl⟩ := hΦ; clear hB
          refine ⟨jy (jy (jy (JOk.top) (ldv rfl rfl)) (ldv rfl rfl)) (ldv rfl rfl), ?_⟩
          refine Dx.two (i := 3) (j := 8) (by kernel_rfl) ?_ ?_
          · skip
            refine Dstep.o (i := 3) rfl (Ox.cb rfl rfl rfl (cut8 (ValR.mono hB2 hy))) rfl (fun v B' H' hΦ hB => ?_)
            obtain ⟨rfl, hΦ⟩ := hΦ
            obtain ⟨cs3, rfl, hv3⟩ := hΦ
            obtain ⟨Apcs3, cpcs3, Ancs3, cncs3, rfl⟩ := ValR.shape hv3
            have hB3 := hB
            refine ⟨jy (je (jy (JOk.top) (ldv rfl rfl)) (by kernel_rfl)) (ldv rfl rfl), ?_⟩
            refine Dx.two (i := 5) (j := 8) (by kernel_rfl) ?_ ?_
            · skip
              refine Dstep.o (i := 5) rfl (Ox.cb rfl rfl rfl (cut8 (ValR.mono hB3 (ValR.mono hB2 hz)))) rfl (fun v B' H' hΦ hB => ?_)
              obtain ⟨rfl, hΦ⟩ := hΦ
              obtain ⟨cs4, rfl, hv4⟩ := hΦ
              obtain ⟨Apcs4, cpcs4, Ancs4, cncs4, rfl⟩ := ValR.shape hv4
              have hB4 := hB
              refine ⟨je (jy (jy (JOk.top) (ldv rfl rfl)) (ldv rfl rfl)) (by kernel_rfl), ?_⟩
              refine Dx.one (i := 8) (by kernel_rfl) ?_
              refine Dstep.o (i := 8) rfl (allocO ti46) rfl (fun v B' H' hΦ hB => ?_)
              obtain ⟨b9, rfl, rfl, rfl⟩ := hΦ; clear hB
              refine ⟨jy (jy (jy (JOk.top) (ldv rfl rfl)) (ldv rfl rfl)) (ldv rfl rfl), ?_⟩
              refine Dx.one (i := 9) (by kernel_rfl) ?_
              refine Dstep.o0 (i := 9) rfl (st6 sz46 rfl rfl rfl rfl rfl rfl) (fun v B' H' hΦ hB => ?_)
              obtain ⟨rfl, rfl⟩ := hΦ; clear hB v
              refine ⟨jy (jy (je (JOk.top) (by kernel_rfl)) (ldv rfl rfl)) (ldv rfl rfl), ?_⟩
              refine Dx.one (i := 10) (by kernel_rfl) ?_
              refine Dstep.o0 (i := 10) rfl (st6 sz46 rfl rfl rfl rfl rfl rfl) (fun v B' H' hΦ hB => ?_)
              obtain ⟨rfl, rfl⟩ := hΦ; clear hB v
              refine ⟨jy (je (je (JOk.top) (by kernel_rfl)) (by kernel_rfl)) (ldv rfl rfl), ?_⟩
              refine Dx.one (i := 11) (by kernel_rfl) ?_
              refine Dstep.o0 (i := 11) rfl (st6 sz46 rfl rfl rfl rfl rfl rfl) (fun v B' H' hΦ hB => ?_)
              obtain ⟨rfl, rfl⟩ := hΦ; clear hB v
              refine ⟨je (je (je (JOk.top) (by kernel_rfl)) (by kernel_rfl)) (by kernel_rfl), ?_⟩
              refine Dx.done (by kernel_rfl) ?_
              exact Xx.mkK (mO hB2 hB3 hB4 hv2 hv3 hv4 rfl) (Sub.cons (s := 7) rfl (Sub.cons (s := 8) rfl (Sub.cons (s := 9) rfl (Sub.cons (s := 6) rfl (Sub.nil _)))))
            refine Dstep.o (i := 8) rfl (allocO ti46) rfl (fun v B' H' hΦ hB => ?_)
            obtain ⟨b9, rfl, rfl, rfl⟩ := hΦ; clear hB
            refine ⟨jy (jy (jy (JOk.top) (ldv rfl rfl)) (ldv rfl rfl)) (ldv rfl rfl), ?_⟩
            refine Dx.one (i := 5) (by kernel_rfl) ?_
            refine Dstep.o (i := 5) rfl (Ox.cb rfl rfl rfl (cut8 (ValR.mono hB3 (ValR.mono hB2 hz)))) rfl (fun v B' H' hΦ hB => ?_)
            obtain ⟨rfl, hΦ⟩ := hΦ
            obtain ⟨cs4, rfl, hv4⟩ := hΦ
            obtain ⟨Apcs4, cpcs4, Ancs4, cncs4, rfl⟩ := ValR.shape hv4
            have hB4 := hB
            refine ⟨je (jy (jy (JOk.top) (ldv rfl rfl)) (ldv rfl rfl)) (by kernel_rfl), ?_⟩
            refine Dx.one (i := 9) (by kernel_rfl) ?_
            refine Dstep.o0 (i := 9) rfl (st6 sz46 rfl rfl rfl rfl rfl rfl) (fun v B' H' hΦ hB => ?_)
            obtain ⟨rfl, rfl⟩ := hΦ; clear hB v
            refine ⟨jy (jy (je (JOk.top) (by kernel_rfl)) (ldv rfl rfl)) (ldv rfl rfl), ?_⟩
            refine Dx.one (i := 10) (by kernel_rfl) ?_
            refine Dstep.o0 (i := 10) rfl (st6 sz46 rfl rfl rfl rfl rfl rfl) (fun v B' H' hΦ hB => ?_)
            obtain ⟨rfl, rfl⟩ := hΦ; clear hB v
            refine ⟨jy (je (je (JOk.top) (by kernel_rfl)) (by kernel_rfl)) (ldv rfl rfl), ?_⟩
            refine Dx.one (i := 11) (by kernel_rfl) ?_
            refine Dstep.o0 (i := 11) rfl (st6 sz46 rfl rfl rfl rfl rfl rfl) (fun v B' H' hΦ hB => ?_)
            obtain ⟨rfl, rfl⟩ := hΦ; clear hB v
            refine ⟨je (je (je (JOk.top) (by kernel_rfl)) (by kernel_rfl)) (by kernel_rfl), ?_⟩
            refine Dx.done (by kernel_rfl) ?_
            exact Xx.mkK (mO hB2 hB3 hB4 hv2 hv3 hv4 rfl) (Sub.cons (s := 7) rfl (Sub.cons (s := 8) rfl (Sub.cons (s := 9) rfl (Sub.cons (s := 6) rfl (Sub.nil _)))))
          refine Dstep.o (i := 8) rfl (allocO ti46) rfl (fun v B' H' hΦ hB => ?_)
          obtain ⟨b9, rfl, rfl, rfl⟩ := hΦ; clear hB
          refine ⟨jy (jy (jy (JOk.top) (ldv rfl rfl)) (ldv rfl rfl)) (ldv rfl rfl), ?_⟩
          refine Dx.one (i := 3) (by kernel_rfl) ?_
          refine Dstep.o (i := 3) rfl (Ox.cb rfl rfl rfl (cut8 (ValR.mono hB2 hy))) rfl (fun v B' H' hΦ hB => ?_)
          obtain ⟨rfl, hΦ⟩ := hΦ
          obtain ⟨cs3, rfl, hv3⟩ := hΦ
          obtain ⟨Apcs3, cpcs3, Ancs3, cncs3, rfl⟩ := ValR.shape hv3
          have hB3 := hB
          refine ⟨jy (je (jy (JOk.top) (ldv rfl rfl)) (by kernel_rfl)) (ldv rfl rfl), ?_⟩
          refine Dx.one (i := 5) (by kernel_rfl) ?_
          refine Dstep.o (i := 5) rfl (Ox.cb rfl rfl rfl (cut8 (ValR.mono hB3 (ValR.mono hB2 hz)))) rfl (fun v B' H' hΦ hB => ?_)
          obtain ⟨rfl, hΦ⟩ := hΦ
          obtain ⟨cs4, rfl, hv4⟩ := hΦ
          obtain ⟨Apcs4, cpcs4, Ancs4, cncs4, rfl⟩ := ValR.shape hv4
          have hB4 := hB
          refine ⟨je (jy (jy (JOk.top) (ldv rfl rfl)) (ldv rfl rfl)) (by kernel_rfl), ?_⟩
          refine Dx.one (i := 9) (by kernel_rfl) ?_
          refine Dstep.o0 (i := 9) rfl (st6 sz46 rfl rfl rfl rfl rfl rfl) (fun v B' H' hΦ hB => ?_)
          obtain ⟨rfl, rfl⟩ := hΦ; clear hB v
          refine ⟨jy (jy (je (JOk.top) (by kernel_rfl)) (ldv rfl rfl)) (ldv rfl rfl), ?_⟩
          refine Dx.one (i := 10) (by kernel_rfl) ?_
          refine Dstep.o0 (i := 10) rfl (st6 sz46 rfl rfl rfl rfl rfl rfl) (fun v B' H' hΦ hB => ?_)
          obtain ⟨rfl, rfl⟩ := hΦ; clear hB v
          refine ⟨jy (je (je (JOk.top) (by kernel_rfl)) (by kernel_rfl)) (ldv rfl rfl), ?_⟩
          refine Dx.one (i := 11) (by kernel_rfl) ?_
          refine Dstep.o0 (i := 11) rfl (st6 sz46 rfl rfl rfl rfl rfl rfl) (fun v B' H' hΦ hB => ?_)
          obtain ⟨rfl, rfl⟩ := hΦ; clear hB v
          refine ⟨je (je (je (JOk.top) (by kernel_rfl)) (by kernel_rfl)) (by kernel_rfl), ?_⟩
          refine Dx.done (by kernel_rfl) ?_
          exact Xx.mkK (mO hB2 hB3 hB4 hv2 hv3 hv4 rfl) (Sub.cons (s := 7) rfl (Sub.cons (s := 8) rfl (Sub.cons (s := 9) rfl (Sub.cons (s := 6) rfl (Sub.nil _)))))
        refine Dstep.o (i := 8) rfl (allocO ti46) rfl (fun v B' H' hΦ hB => ?_)
        obtain ⟨b9, rfl, rfl, rfl⟩ := hΦ; clear hB
        refine ⟨jy (jy (jy (JOk.top) (ldv rfl rfl)) (ldv rfl rfl)) (ldv rfl rfl), ?_⟩
        refine Dx.two (i := 3) (j := 7) (by kernel_rfl) ?_ ?_
        · skip
          refine Dstep.o (i := 3) rfl (Ox.cb rfl rfl rfl (cut8 (ValR.mono hB2 hy))) rfl (fun v B' H' hΦ hB => ?_)
          obtain ⟨rfl, hΦ⟩ := hΦ
          obtain ⟨cs3, rfl, hv3⟩ := hΦ
          obtain ⟨Apcs3, cpcs3, Ancs3, cncs3, rfl⟩ := ValR.shape hv3
          have hB3 := hB
          refine ⟨jy (je (jy (JOk.top) (ldv rfl rfl)) (by kernel_rfl)) (ldv rfl rfl), ?_⟩
          refine Dx.two (i := 5) (j := 7) (by kernel_rfl) ?_ ?_
          · skip
            refine Dstep.o (i := 5) rfl (Ox.cb rfl rfl rfl (cut8 (ValR.mono hB3 (ValR.mono hB2 hz)))) rfl (fun v B' H' hΦ hB => ?_)
            obtain ⟨rfl, hΦ⟩ := hΦ
            obtain ⟨cs4, rfl, hv4⟩ := hΦ
            obtain ⟨Apcs4, cpcs4, Ancs4, cncs4, rfl⟩ := ValR.shape hv4
            have hB4 := hB
            refine ⟨je (jy (jy (JOk.top) (ldv rfl rfl)) (ldv rfl rfl)) (by kernel_rfl), ?_⟩
            refine Dx.one (i := 7) (by kernel_rfl) ?_
            refine Dstep.o (i := 7) rfl (allocO ti46) rfl (fun v B' H' hΦ hB => ?_)
            obtain ⟨b8, rfl, rfl, rfl⟩ := hΦ; clear hB
            refine ⟨jy (jy (jy (JOk.top) (ldv rfl rfl)) (ldv rfl rfl)) (ldv rfl rfl), ?_⟩
            refine Dx.one (i := 9) (by kernel_rfl) ?_
            refine Dstep.o0 (i := 9) rfl (st6 sz46 rfl rfl rfl rfl rfl rfl) (fun v B' H' hΦ hB => ?_)
            obtain ⟨rfl, rfl⟩ := hΦ; clear hB v
            refine ⟨jy (jy (je (JOk.top) (by kernel_rfl)) (ldv rfl rfl)) (ldv rfl rfl), ?_⟩
            refine Dx.one (i := 10) (by kernel_rfl) ?_
            refine Dstep.o0 (i := 10) rfl (st6 sz46 rfl rfl rfl rfl rfl rfl) (fun v B' H' hΦ hB => ?_)
            obtain ⟨rfl, rfl⟩ := hΦ; clear hB v
            refine ⟨jy (je (je (JOk.top) (by kernel_rfl)) (by kernel_rfl)) (ldv rfl rfl), ?_⟩
            refine Dx.one (i := 11) (by kernel_rfl) ?_
            refine Dstep.o0 (i := 11) rfl (st6 sz46 rfl rfl rfl rfl rfl rfl) (fun v B' H' hΦ hB => ?_)
            obtain ⟨rfl, rfl⟩ := hΦ; clear hB v
            refine ⟨je (je (je (JOk.top) (by kernel_rfl)) (by kernel_rfl)) (by kernel_rfl), ?_⟩
            refine Dx.done (by kernel_rfl) ?_
            exact Xx.mkK (mO hB2 hB3 hB4 hv2 hv3 hv4 rfl) (Sub.cons (s := 7) rfl (Sub.cons (s := 8) rfl (Sub.cons (s := 9) rfl (Sub.cons (s := 6) rfl (Sub.nil _)))))
          refine Dstep.o (i := 7) rfl (allocO ti46) rfl (fun v B' H' hΦ hB => ?_)
          obtain ⟨b8, rfl, rfl, rfl⟩ := hΦ; clear hB
          refine ⟨jy (jy (jy (JOk.top) (ldv rfl rfl)) (ldv rfl rfl)) (ldv rfl rfl), ?_⟩
          refine Dx.one (i := 5) (by kernel_rfl) ?_
          refine Dstep.o (i := 5) rfl (Ox.cb rfl rfl rfl (cut8 (ValR.mono hB3 (ValR.mono hB2 hz)))) rfl (fun v B' H' hΦ hB => ?_)
          obtain ⟨rfl, hΦ⟩ := hΦ
          obtain ⟨cs4, rfl, hv4⟩ := hΦ
          obtain ⟨Apcs4, cpcs4, Ancs4, cncs4, rfl⟩ := ValR.shape hv4
          have hB4 := hB
          refine ⟨je (jy (jy (JOk.top) (ldv rfl rfl)) (ldv rfl rfl)) (by kernel_rfl), ?_⟩
          refine Dx.one (i := 9) (by kernel_rfl) ?_
          refine Dstep.o0 (i := 9) rfl (st6 sz46 rfl rfl rfl rfl rfl rfl) (fun v B' H' hΦ hB => ?_)
          obtain ⟨rfl, rfl⟩ := hΦ; clear hB v
          refine ⟨jy (jy (je (JOk.top) (by kernel_rfl)) (ldv rfl rfl)) (ldv rfl rfl), ?_⟩
          refine Dx.one (i := 10) (by kernel_rfl) ?_
          refine Dstep.o0 (i := 10) rfl (st6 sz46 rfl rfl rfl rfl rfl rfl) (fun v B' H' hΦ hB => ?_)
          obtain ⟨rfl, rfl⟩ := hΦ; clear hB v
          refine ⟨jy (je (je (JOk.top) (by kernel_rfl)) (by kernel_rfl)) (ldv rfl rfl), ?_⟩
          refine Dx.one (i := 11) (by kernel_rfl) ?_
          refine Dstep.o0 (i := 11) rfl (st6 sz46 rfl rfl rfl rfl rfl rfl) (fun v B' H' hΦ hB => ?_)
          obtain ⟨rfl, rfl⟩ := hΦ; clear hB v
          refine ⟨je (je (je (JOk.top) (by kernel_rfl)) (by kernel_rfl)) (by kernel_rfl), ?_⟩
          refine Dx.done (by kernel_rfl) ?_
          exact Xx.mkK (mO hB2 hB3 hB4 hv2 hv3 hv4 rfl) (Sub.cons (s := 7) rfl (Sub.cons (s := 8) rfl (Sub.cons (s := 9) rfl (Sub.cons (s := 6) rfl (Sub.nil _)))))
        refine Dstep.o (i := 7) rfl (allocO ti46) rfl (fun v B' H' hΦ hB => ?_)
        obtain ⟨b8, rfl, rfl, rfl⟩ := hΦ; clear hB
        refine ⟨jy (jy (jy (JOk.top) (ldv rfl rfl)) (ldv rfl rfl)) (ldv rfl rfl), ?_⟩
        refine Dx.one (i := 3) (by kernel_rfl) ?_
        refine Dstep.o (i := 3) rfl (Ox.cb rfl rfl rfl (cut8 (ValR.mono hB2 hy))) rfl (fun v B' H' hΦ hB => ?_)
        obtain ⟨rfl, hΦ⟩ := hΦ
        obtain ⟨cs3, rfl, hv3⟩ := hΦ
        obtain ⟨Apcs3, cpcs3, Ancs3, cncs3, rfl⟩ := ValR.shape hv3
        have hB3 := hB
        refine ⟨jy (je (jy (JOk.top) (ldv rfl rfl)) (by kernel_rfl)) (ldv rfl rfl), ?_⟩
        refine Dx.one (i := 5) (by kernel_rfl) ?_
        refine Dstep.o (i := 5) rfl (Ox.cb rfl rfl rfl (cut8 (ValR.mono hB3 (ValR.mono hB2 hz)))) rfl (fun v B' H' hΦ hB => ?_)
        obtain ⟨rfl, hΦ⟩ := hΦ
        obtain ⟨cs4, rfl, hv4⟩ := hΦ
        obtain ⟨Apcs4, cpcs4, Ancs4, cncs4, rfl⟩ := ValR.shape hv4
        have hB4 := hB
        refine ⟨je (jy (jy (JOk.top) (ldv rfl rfl)) (ldv rfl rfl)) (by kernel_rfl), ?_⟩
        refine Dx.one (i := 9) (by kernel_rfl) ?_
        refine Dstep.o0 (i := 9) rfl (st6 sz46 rfl rfl rfl rfl rfl rfl) (fun v B' H' hΦ hB => ?_)
        obtain ⟨rfl, rfl⟩ := hΦ; clear hB v
        refine ⟨jy (jy (je (JOk.top) (by kernel_rfl)) (ldv rfl rfl)) (ldv rfl rfl), ?_⟩
        refine Dx.one (i := 10) (by kernel_rfl) ?_
        refine Dstep.o0 (i := 10) rfl (st6 sz46 rfl rfl rfl rfl rfl rfl) (fun v B' H' hΦ hB => ?_)
        obtain ⟨rfl, rfl⟩ := hΦ; clear hB v
        refine ⟨jy (je (je (JOk.top) (by kernel_rfl)) (by kernel_rfl)) (ldv rfl rfl), ?_⟩
        refine Dx.one (i := 11) (by kernel_rfl) ?_
        refine Dstep.o0 (i := 11) rfl (st6 sz46 rfl rfl rfl rfl rfl rfl) (fun v B' H' hΦ hB => ?_)
        obtain ⟨rfl, rfl⟩ := hΦ; clear hB v
        refine ⟨je (je (je (JOk.top) (by kernel_rfl)) (by kernel_rfl)) (by kernel_rfl), ?_⟩
        refine Dx.done (by kernel_rfl) ?_
        exact Xx.mkK (mO hB2 hB3 hB4 hv2 hv3 hv4 rfl) (Sub.cons (s := 7) rfl (Sub.cons (s := 8) rfl (Sub.cons (s := 9) rfl (Sub.cons (s := 6) rfl (Sub.nil _)))))
      · skip
        refine Dstep.o (i := 7) rfl (allocO ti46) rfl (fun v B' H' hΦ hB => ?_)
        obtain ⟨b8, rfl, rfl, rfl⟩ := hΦ; clear hB
        refine ⟨jy (jy (jy (JOk.top) (ldv rfl rfl)) (ldv rfl rfl)) (ldv rfl rfl), ?_⟩
        refine Dx.two (i := 1) (j := 8) (by kernel_rfl) ?_ ?_
        · skip
          refine Dstep.o (i := 1) rfl (Ox.cb rfl rfl rfl (cut8 (hx))) rfl (fun v B' H' hΦ hB => ?_)
          obtain ⟨rfl, hΦ⟩ := hΦ
          obtain ⟨cs2, rfl, hv2⟩ := hΦ
          obtain ⟨Apcs2, cpcs2, Ancs2, cncs2, rfl⟩ := ValR.shape hv2
          have hB2 := hB
          refine ⟨jy (jy (je (JOk.top) (by kernel_rfl)) (ldv rfl rfl)) (ldv rfl rfl), ?_⟩
          refine Dx.two (i := 3) (j := 8) (by kernel_rfl) ?_ ?_
          · skip
            refine Dstep.o (i := 3) rfl (Ox.cb rfl rfl rfl (cut8 (ValR.mono hB2 hy))) rfl (fun v B' H' hΦ hB => ?_)
            obtain ⟨rfl, hΦ⟩ := hΦ
            obtain ⟨cs3, rfl, hv3⟩ := hΦ
            obtain ⟨Apcs3, cpcs3, Ancs3, cncs3, rfl⟩ := ValR.shape hv3
            have hB3 := hB
            refine ⟨jy (je (jy (JOk.top) (ldv rfl rfl)) (by kernel_rfl)) (ldv rfl rfl), ?_⟩
            refine Dx.two (i := 5) (j := 8) (by kernel_rfl) ?_ ?_
            · skip
              refine Dstep.o (i := 5) rfl (Ox.cb rfl rfl rfl (cut8 (ValR.mono hB3 (ValR.mono hB2 hz)))) rfl (fun v B' H' hΦ hB => ?_)
              obtain ⟨rfl, hΦ⟩ := hΦ
              obtain ⟨cs4, rfl, hv4⟩ := hΦ
              obtain ⟨Apcs4, cpcs4, Ancs4, cncs4, rfl⟩ := ValR.shape hv4
              have hB4 := hB
              refine ⟨je (jy (jy (JOk.top) (ldv rfl rfl)) (ldv rfl rfl)) (by kernel_rfl), ?_⟩
              refine Dx.one (i := 8) (by kernel_rfl) ?_
              refine Dstep.o (i := 8) rfl (allocO ti46) rfl (fun v B' H' hΦ hB => ?_)
              obtain ⟨b9, rfl, rfl, rfl⟩ := hΦ; clear hB
              refine ⟨jy (jy (jy (JOk.top) (ldv rfl rfl)) (ldv rfl rfl)) (ldv rfl rfl), ?_⟩
              refine Dx.one (i := 9) (by kernel_rfl) ?_
              refine Dstep.o0 (i := 9) rfl (st6 sz46 rfl rfl rfl rfl rfl rfl) (fun v B' H' hΦ hB => ?_)
              obtain ⟨rfl, rfl⟩ := hΦ; clear hB v
              refine ⟨jy (jy (je (JOk.top) (by kernel_rfl)) (ldv rfl rfl)) (ldv rfl rfl), ?_⟩
              refine Dx.one (i := 10) (by kernel_rfl) ?_
              refine Dstep.o0 (i := 10) rfl (st6 sz46 rfl rfl rfl rfl rfl rfl) (fun v B' H' hΦ hB => ?_)
              obtain ⟨rfl, rfl⟩ := hΦ; clear hB v
              refine ⟨jy (je (je (JOk.top) (by kernel_rfl)) (by kernel_rfl)) (ldv rfl rfl), ?_⟩
              refine Dx.one (i := 11) (by kernel_rfl) ?_
              refine Dstep.o0 (i := 11) rfl (st6 sz46 rfl rfl rfl rfl rfl rfl) (fun v B' H' hΦ hB => ?_)
              obtain ⟨rfl, rfl⟩ := hΦ; clear hB v
              refine ⟨je (je (je (JOk.top) (by kernel_rfl)) (by kernel_rfl)) (by kernel_rfl), ?_⟩
              refine Dx.done (by kernel_rfl) ?_
              exact Xx.mkK (mO hB2 hB3 hB4 hv2 hv3 hv4 rfl) (Sub.cons (s := 7) rfl (Sub.cons (s := 8) rfl (Sub.cons (s := 9) rfl (Sub.cons (s := 6) rfl (Sub.nil _)))))
            refine Dstep.o (i := 8) rfl (allocO ti46) rfl (fun v B' H' hΦ hB => ?_)
            obtain ⟨b9, rfl, rfl, rfl⟩ := hΦ; clear hB
            refine ⟨jy (jy (jy (JOk.top) (ldv rfl rfl)) (ldv rfl rfl)) (ldv rfl rfl), ?_⟩
            refine Dx.one (i := 5) (by kernel_rfl) ?_
            refine Dstep.o (i := 5) rfl (Ox.cb rfl rfl rfl (cut8 (ValR.mono hB3 (ValR.mono hB2 hz)))) rfl (fun v B' H' hΦ hB => ?_)
            obtain ⟨rfl, hΦ⟩ := hΦ
            obtain ⟨cs4, rfl, hv4⟩ := hΦ
            obtain ⟨Apcs4, cpcs4, Ancs4, cncs4, rfl⟩ := ValR.shape hv4
            have hB4 := hB
            refine ⟨je (jy (jy (JOk.top) (ldv rfl rfl)) (ldv rfl rfl)) (by kernel_rfl), ?_⟩
            refine Dx.one (i := 9) (by kernel_rfl) ?_
            refine Dstep.o0 (i := 9) rfl (st6 sz46 rfl rfl rfl rfl rfl rfl) (fun v B' H' hΦ hB => ?_)
            obtain ⟨rfl, rfl⟩ := hΦ; clear hB v
            refine ⟨jy (jy (je (JOk.top) (by kernel_rfl)) (ldv rfl rfl)) (ldv rfl rfl), ?_⟩
            refine Dx.one (i := 10) (by kernel_rfl) ?_
            refine Dstep.o0 (i := 10) rfl (st6 sz46 rfl rfl rfl rfl rfl rfl) (fun v B' H' hΦ hB => ?_)
            obtain ⟨rfl, rfl⟩ := hΦ; clear hB v
            refine ⟨jy (je (je (JOk.top) (by kernel_rfl)) (by kernel_rfl)) (ldv rfl rfl), ?_⟩
            refine Dx.one (i := 11) (by kernel_rfl) ?_
            refine Dstep.o0 (i := 11) rfl (st6 sz46 rfl rfl rfl rfl rfl rfl) (fun v B' H' hΦ hB => ?_)
            obtain ⟨rfl, rfl⟩ := hΦ; clear hB v
            refine ⟨je (je (je (JOk.top) (by kernel_rfl)) (by kernel_rfl)) (by kernel_rfl), ?_⟩
            refine Dx.done (by kernel_rfl) ?_
            exact Xx.mkK (mO hB2 hB3 hB4 hv2 hv3 hv4 rfl) (Sub.cons (s := 7) rfl (Sub.cons (s := 8) rfl (Sub.cons (s := 9) rfl (Sub.cons (s := 6) rfl (Sub.nil _)))))
          refine Dstep.o (i := 8) rfl (allocO ti46) rfl (fun v B' H' hΦ hB => ?_)
          obtain ⟨b9, rfl, rfl, rfl⟩ := hΦ; clear hB
          refine ⟨jy (jy (jy (JOk.top) (ldv rfl rfl)) (ldv rfl rfl)) (ldv rfl rfl), ?_⟩
          refine Dx.one (i := 3) (by kernel_rfl) ?_
          refine Dstep.o (i := 3) rfl (Ox.cb rfl rfl rfl (cut8 (ValR.mono hB2 hy))) rfl (fun v B' H' hΦ hB => ?_)
          obtain ⟨rfl, hΦ⟩ := hΦ
          obtain ⟨cs3, rfl, hv3⟩ := hΦ
          obtain ⟨Apcs3, cpcs3, Ancs3, cncs3, rfl⟩ := ValR.shape hv3
          have hB3 := hB
          refine ⟨jy (je (jy (JOk.top) (ldv rfl rfl)) (by kernel_rfl)) (ldv rfl rfl), ?_⟩
          refine Dx.one (i := 5) (by kernel_rfl) ?_
          refine Dstep.o (i := 5) rfl (Ox.cb rfl rfl rfl (cut8 (ValR.mono hB3 (ValR.mono hB2 hz)))) rfl (fun v B' H' hΦ hB => ?_)
          obtain ⟨rfl, hΦ⟩ := hΦ
          obtain ⟨cs4, rfl, hv4⟩ := hΦ
          obtain ⟨Apcs4, cpcs4, Ancs4, cncs4, rfl⟩ := ValR.shape hv4
          have hB4 := hB
          refine ⟨je (jy (jy (JOk.top) (ldv rfl rfl)) (ldv rfl rfl)) (by kernel_rfl), ?_⟩
          refine Dx.one (i := 9) (by kernel_rfl) ?_
          refine Dstep.o0 (i := 9) rfl (st6 sz46 rfl rfl rfl rfl rfl rfl) (fun v B' H' hΦ hB => ?_)
          obtain ⟨rfl, rfl⟩ := hΦ; clear hB v
          refine ⟨jy (jy (je (JOk.top) (by kernel_rfl)) (ldv rfl rfl)) (ldv rfl rfl), ?_⟩
          refine Dx.one (i := 10) (by kernel_rfl) ?_
          refine Dstep.o0 (i := 10) rfl (st6 sz46 rfl rfl rfl rfl rfl rfl) (fun v B' H' hΦ hB => ?_)
          obtain ⟨rfl, rfl⟩ := hΦ; clear hB v
          refine ⟨jy (je (je (JOk.top) (by kernel_rfl)) (by kernel_rfl)) (ldv rfl rfl), ?_⟩
          refine Dx.one (i := 11) (by kernel_rfl) ?_
          refine Dstep.o0 (i := 11) rfl (st6 sz46 rfl rfl rfl rfl rfl rfl) (fun v B' H' hΦ hB => ?_)
          obtain ⟨rfl, rfl⟩ := hΦ; clear hB v
          refine ⟨je (je (je (JOk.top) (by kernel_rfl)) (by kernel_rfl)) (by kernel_rfl), ?_⟩
          refine Dx.done (by kernel_rfl) ?_
          exact Xx.mkK (mO hB2 hB3 hB4 hv2 hv3 hv4 rfl) (Sub.cons (s := 7) rfl (Sub.cons (s := 8) rfl (Sub.cons (s := 9) rfl (Sub.cons (s := 6) rfl (Sub.nil _)))))
        refine Dstep.o (i := 8) rfl (allocO ti46) rfl (fun v B' H' hΦ hB => ?_)
        obtain ⟨b9, rfl, rfl, rfl⟩ := hΦ; clear hB
        refine ⟨jy (jy (jy (JOk.top) (ldv rfl rfl)) (ldv rfl rfl)) (ldv rfl rfl), ?_⟩
        refine Dx.one (i := 1) (by kernel_rfl) ?_
        refine Dstep.o (i := 1) rfl (Ox.cb rfl rfl rfl (cut8 (hx))) rfl (fun v B' H' hΦ hB => ?_)
        obtain ⟨rfl, hΦ⟩ := hΦ
        obtain ⟨cs2, rfl, hv2⟩ := hΦ
        obtain ⟨Apcs2, cpcs2, Ancs2, cncs2, rfl⟩ := ValR.shape hv2
        have hB2 := hB
        refine ⟨jy (jy (je (JOk.top) (by kernel_rfl)) (ldv rfl rfl)) (ldv rfl rfl), ?_⟩
        refine Dx.one (i := 3) (by kernel_rfl) ?_
        refine Dstep.o (i := 3) rfl (Ox.cb rfl rfl rfl (cut8 (ValR.mono hB2 hy))) rfl (fun v B' H' hΦ hB => ?_)
        obtain ⟨rfl, hΦ⟩ := hΦ
        obtain ⟨cs3, rfl, hv3⟩ := hΦ
        obtain ⟨Apcs3, cpcs3, Ancs3, cncs3, rfl⟩ := ValR.shape hv3
        have hB3 := hB
        refine ⟨jy (je (jy (JOk.top) (ldv rfl rfl)) (by kernel_rfl)) (ldv rfl rfl), ?_⟩
        refine Dx.one (i := 5) (by kernel_rfl) ?_
        refine Dstep.o (i := 5) rfl (Ox.cb rfl rfl rfl (cut8 (ValR.mono hB3 (ValR.mono hB2 hz)))) rfl (fun v B' H' hΦ hB => ?_)
        obtain ⟨rfl, hΦ⟩ := hΦ
        obtain ⟨cs4, rfl, hv4⟩ := hΦ
        obtain ⟨Apcs4, cpcs4, Ancs4, cncs4, rfl⟩ := ValR.shape hv4
        have hB4 := hB
        refine ⟨je (jy (jy (JOk.top) (ldv rfl rfl)) (ldv rfl rfl)) (by kernel_rfl), ?_⟩
        refine Dx.one (i := 9) (by kernel_rfl) ?_
        refine Dstep.o0 (i := 9) rfl (st6 sz46 rfl rfl rfl rfl rfl rfl) (fun v B' H' hΦ hB => ?_)
        obtain ⟨rfl, rfl⟩ := hΦ; clear hB v
        refine ⟨jy (jy (je (JOk.top) (by kernel_rfl)) (ldv rfl rfl)) (ldv rfl rfl), ?_⟩
        refine Dx.one (i := 10) (by kernel_rfl) ?_
        refine Dstep.o0 (i := 10) rfl (st6 sz46 rfl rfl rfl rfl rfl rfl) (fun v B' H' hΦ hB => ?_)
        obtain ⟨rfl, rfl⟩ := hΦ; clear hB v
        refine ⟨jy (je (je (JOk.top) (by kernel_rfl)) (by kernel_rfl)) (ldv rfl rfl), ?_⟩
        refine Dx.one (i := 11) (by kernel_rfl) ?_
        refine Dstep.o0 (i := 11) rfl (st6 sz46 rfl rfl rfl rfl rfl rfl) (fun v B' H' hΦ hB => ?_)
        obtain ⟨rfl, rfl⟩ := hΦ; clear hB v
        refine ⟨je (je (je (JOk.top) (by kernel_rfl)) (by kernel_rfl)) (by kernel_rfl), ?_⟩
        refine Dx.done (by kernel_rfl) ?_
        exact Xx.mkK (mO hB2 hB3 hB4 hv2 hv3 hv4 rfl) (Sub.cons (s := 7) rfl (Sub.cons (s := 8) rfl (Sub.cons (s := 9) rfl (Sub.cons (s := 6) rfl (Sub.nil _)))))
      refine Dstep.o (i := 8) rfl (allocO ti46) rfl (fun v B' H' hΦ hB => ?_)
      obtain ⟨b9, rfl, rfl, rfl⟩ := hΦ; clear hB
      refine ⟨jy (jy (jy (JOk.top) (ldv rfl rfl)) (ldv rfl rfl)) (ldv rfl rfl), ?_⟩
      refine Dx.two (i := 1) (j := 7) (by kernel_rfl) ?_ ?_
      · skip
        refine Dstep.o (i := 1) rfl (Ox.cb rfl rfl rfl (cut8 (hx))) rfl (fun v B' H' hΦ hB => ?_)
        obtain ⟨rfl, hΦ⟩ := hΦ
        obtain ⟨cs2, rfl, hv2⟩ := hΦ
        obtain ⟨Apcs2, cpcs2, Ancs2, cncs2, rfl⟩ := ValR.shape hv2
        have hB2 := hB
        refine ⟨jy (jy (je (JOk.top) (by kernel_rfl)) (ldv rfl rfl)) (ldv rfl rfl), ?_⟩
        refine Dx.two (i := 3) (j := 7) (by kernel_rfl) ?_ ?_
        · skip
          refine Dstep.o (i := 3) rfl (Ox.cb rfl rfl rfl (cut8 (ValR.mono hB2 hy))) rfl (fun v B' H' hΦ hB => ?_)
          obtain ⟨rfl, hΦ⟩ := hΦ
          obtain ⟨cs3, rfl, hv3⟩ := hΦ
          obtain ⟨Apcs3, cpcs3, Ancs3, cncs3, rfl⟩ := ValR.shape hv3
          have hB3 := hB
          refine ⟨jy (je (jy (JOk.top) (ldv rfl rfl)) (by kernel_rfl)) (ldv rfl rfl), ?_⟩
          refine Dx.two (i := 5) (j := 7) (by kernel_rfl) ?_ ?_
          · skip
            refine Dstep.o (i := 5) rfl (Ox.cb rfl rfl rfl (cut8 (ValR.mono hB3 (ValR.mono hB2 hz)))) rfl (fun v B' H' hΦ hB => ?_)
            obtain ⟨rfl, hΦ⟩ := hΦ
            obtain ⟨cs4, rfl, hv4⟩ := hΦ
            obtain ⟨Apcs4, cpcs4, Ancs4, cncs4, rfl⟩ := ValR.shape hv4
            have hB4 := hB
            refine ⟨je (jy (jy (JOk.top) (ldv rfl rfl)) (ldv rfl rfl)) (by kernel_rfl), ?_⟩
            refine Dx.one (i := 7) (by kernel_rfl) ?_
            refine Dstep.o (i := 7) rfl (allocO ti46) rfl (fun v B' H' hΦ hB => ?_)
            obtain ⟨b8, rfl, rfl, rfl⟩ := hΦ; clear hB
            refine ⟨jy (jy (jy (JOk.top) (ldv rfl rfl)) (ldv rfl rfl)) (ldv rfl rfl), ?_⟩
            refine Dx.one (i := 9) (by kernel_rfl) ?_
            refine Dstep.o0 (i := 9) rfl (st6 sz46 rfl rfl rfl rfl rfl rfl) (fun v B' H' hΦ hB => ?_)
            obtain ⟨rfl, rfl⟩ := hΦ; clear hB v
            refine ⟨jy (jy (je (JOk.top) (by kernel_rfl)) (ldv rfl rfl)) (ldv rfl rfl), ?_⟩
            refine Dx.one (i := 10) (by kernel_rfl) ?_
            refine Dstep.o0 (i := 10) rfl (st6 sz46 rfl rfl rfl rfl rfl rfl) (fun v B' H' hΦ hB => ?_)
            obtain ⟨rfl, rfl⟩ := hΦ; clear hB v
            refine ⟨jy (je (je (JOk.top) (by kernel_rfl)) (by kernel_rfl)) (ldv rfl rfl), ?_⟩
            refine Dx.one (i := 11) (by kernel_rfl) ?_
            refine Dstep.o0 (i := 11) rfl (st6 sz46 rfl rfl rfl rfl rfl rfl) (fun v B' H' hΦ hB => ?_)
            obtain ⟨rfl, rfl⟩ := hΦ; clear hB v
            refine ⟨je (je (je (JOk.top) (by kernel_rfl)) (by kernel_rfl)) (by kernel_rfl), ?_⟩
            refine Dx.done (by kernel_rfl) ?_
            exact Xx.mkK (mO hB2 hB3 hB4 hv2 hv3 hv4 rfl) (Sub.cons (s := 7) rfl (Sub.cons (s := 8) rfl (Sub.cons (s := 9) rfl (Sub.cons (s := 6) rfl (Sub.nil _)))))
          refine Dstep.o (i := 7) rfl (allocO ti46) rfl (fun v B' H' hΦ hB => ?_)
          obtain ⟨b8, rfl, rfl, rfl⟩ := hΦ; clear hB
          refine ⟨jy (jy (jy (JOk.top) (ldv rfl rfl)) (ldv rfl rfl)) (ldv rfl rfl), ?_⟩
          refine Dx.one (i := 5) (by kernel_rfl) ?_
          refine Dstep.o (i := 5) rfl (Ox.cb rfl rfl rfl (cut8 (ValR.mono hB3 (ValR.mono hB2 hz)))) rfl (fun v B' H' hΦ hB => ?_)
          obtain ⟨rfl, hΦ⟩ := hΦ
          obtain ⟨cs4, rfl, hv4⟩ := hΦ
          obtain ⟨Apcs4, cpcs4, Ancs4, cncs4, rfl⟩ := ValR.shape hv4
          have hB4 := hB
          refine ⟨je (jy (jy (JOk.top) (ldv rfl rfl)) (ldv rfl rfl)) (by kernel_rfl), ?_⟩
          refine Dx.one (i := 9) (by kernel_rfl) ?_
          refine Dstep.o0 (i := 9) rfl (st6 sz46 rfl rfl rfl rfl rfl rfl) (fun v B' H' hΦ hB => ?_)
          obtain ⟨rfl, rfl⟩ := hΦ; clear hB v
          refine ⟨jy (jy (je (JOk.top) (by kernel_rfl)) (ldv rfl rfl)) (ldv rfl rfl), ?_⟩
          refine Dx.one (i := 10) (by kernel_rfl) ?_
          refine Dstep.o0 (i := 10) rfl (st6 sz46 rfl rfl rfl rfl rfl rfl) (fun v B' H' hΦ hB => ?_)
          obtain ⟨rfl, rfl⟩ := hΦ; clear hB v
          refine ⟨jy (je (je (JOk.top) (by kernel_rfl)) (by kernel_rfl)) (ldv rfl rfl), ?_⟩
          refine Dx.one (i := 11) (by kernel_rfl) ?_
          refine Dstep.o0 (i := 11) rfl (st6 sz46 rfl rfl rfl rfl rfl rfl) (fun v B' H' hΦ hB => ?_)
          obtain ⟨rfl, rfl⟩ := hΦ; clear hB v
          refine ⟨je (je (je (JOk.top) (by kernel_rfl)) (by kernel_rfl)) (by kernel_rfl), ?_⟩
          refine Dx.done (by kernel_rfl) ?_
          exact Xx.mkK (mO hB2 hB3 hB4 hv2 hv3 hv4 rfl) (Sub.cons (s := 7) rfl (Sub.cons (s := 8) rfl (Sub.cons (s := 9) rfl (Sub.cons (s := 6) rfl (Sub.nil _)))))
        refine Dstep.o (i := 7) rfl (allocO ti46) rfl (fun v B' H' hΦ hB => ?_)
        obtain ⟨b8, rfl, rfl, rfl⟩ := hΦ; clear hB
        refine ⟨jy (jy (jy (JOk.top) (ldv rfl rfl)) (ldv rfl rfl)) (ldv rfl rfl), ?_⟩
        refine Dx.one (i := 3) (by kernel_rfl) ?_
        refine Dstep.o (i := 3) rfl (Ox.cb rfl rfl rfl (cut8 (ValR.mono hB2 hy))) rfl (fun v B' H' hΦ hB => ?_)
        obtain ⟨rfl, hΦ⟩ := hΦ
        obtain ⟨cs3, rfl, hv3⟩ := hΦ
        obtain ⟨Apcs3, cpcs3, Ancs3, cncs3, rfl⟩ := ValR.shape hv3
        have hB3 := hB
        refine ⟨jy (je (jy (JOk.top) (ldv rfl rfl)) (by kernel_rfl)) (ldv rfl rfl), ?_⟩
        refine Dx.one (i := 5) (by kernel_rfl) ?_
        refine Dstep.o (i := 5) rfl (Ox.cb rfl rfl rfl (cut8 (ValR.mono hB3 (ValR.mono hB2 hz)))) rfl (fun v B' H' hΦ hB => ?_)
        obtain ⟨rfl, hΦ⟩ := hΦ
        obtain ⟨cs4, rfl, hv4⟩ := hΦ
        obtain ⟨Apcs4, cpcs4, Ancs4, cncs4, rfl⟩ := ValR.shape hv4
        have hB4 := hB
        refine ⟨je (jy (jy (JOk.top) (ldv rfl rfl)) (ldv rfl rfl)) (by kernel_rfl), ?_⟩
        refine Dx.one (i := 9) (by kernel_rfl) ?_
        refine Dstep.o0 (i := 9) rfl (st6 sz46 rfl rfl rfl rfl rfl rfl) (fun v B' H' hΦ hB => ?_)
        obtain ⟨rfl, rfl⟩ := hΦ; clear hB v
        refine ⟨jy (jy (je (JOk.top) (by kernel_rfl)) (ldv rfl rfl)) (ldv rfl rfl), ?_⟩
        refine Dx.one (i := 10) (by kernel_rfl) ?_
        refine Dstep.o0 (i := 10) rfl (st6 sz46 rfl rfl rfl rfl rfl rfl) (fun v B' H' hΦ hB => ?_)
        obtain ⟨rfl, rfl⟩ := hΦ; clear hB v
        refine ⟨jy (je (je (JOk.top) (by kernel_rfl)) (by kernel_rfl)) (ldv rfl rfl), ?_⟩
        refine Dx.one (i := 11) (by kernel_rfl) ?_
        refine Dstep.o0 (i := 11) rfl (st6 sz46 rfl rfl rfl rfl rfl rfl) (fun v B' H' hΦ hB => ?_)
        obtain ⟨rfl, rfl⟩ := hΦ; clear hB v
        refine ⟨je (je (je (JOk.top) (by kernel_rfl)) (by kernel_rfl)) (by kernel_rfl), ?_⟩
        refine Dx.done (by kernel_rfl) ?_
        exact Xx.mkK (mO hB2 hB3 hB4 hv2 hv3 hv4 rfl) (Sub.cons (s := 7) rfl (Sub.cons (s := 8) rfl (Sub.cons (s := 9) rfl (Sub.cons (s := 6) rfl (Sub.nil _)))))
      refine Dstep.o (i := 7) rfl (allocO ti46) rfl (fun v B' H' hΦ hB => ?_)
      obtain ⟨b8, rfl, rfl, rfl⟩ := hΦ; clear hB
      refine ⟨jy (jy (jy (JOk.top) (ldv rfl rfl)) (ldv rfl rfl)) (ldv rfl rfl), ?_⟩
      refine Dx.one (i := 1) (by kernel_rfl) ?_
      refine Dstep.o (i := 1) rfl (Ox.cb rfl rfl rfl (cut8 (hx))) rfl (fun v B' H' hΦ hB => ?_)
      obtain ⟨rfl, hΦ⟩ := hΦ
      obtain ⟨cs2, rfl, hv2⟩ := hΦ
      obtain ⟨Apcs2, cpcs2, Ancs2, cncs2, rfl⟩ := ValR.shape hv2
      have hB2 := hB
      refine ⟨jy (jy (je (JOk.top) (by kernel_rfl)) (ldv rfl rfl)) (ldv rfl rfl), ?_⟩
      refine Dx.one (i := 3) (by kernel_rfl) ?_
      refine Dstep.o (i := 3) rfl (Ox.cb rfl rfl rfl (cut8 (ValR.mono hB2 hy))) rfl (fun v B' H' hΦ hB => ?_)
      obtain ⟨rfl, hΦ⟩ := hΦ
      obtain ⟨cs3, rfl, hv3⟩ := hΦ
      obtain ⟨Apcs3, cpcs3, Ancs3, cncs3, rfl⟩ := ValR.shape hv3
      have hB3 := hB
      refine ⟨jy (je (jy (JOk.top) (ldv rfl rfl)) (by kernel_rfl)) (ldv rfl rfl), ?_⟩
      refine Dx.one (i := 5) (by kernel_rfl) ?_
      refine Dstep.o (i := 5) rfl (Ox.cb rfl rfl rfl (cut8 (ValR.mono hB3 (ValR.mono hB2 hz)))) rfl (fun v B' H' hΦ hB => ?_)
      obtain ⟨rfl, hΦ⟩ := hΦ
      obtain ⟨cs4, rfl, hv4⟩ := hΦ
      obtain ⟨Apcs4, cpcs4, Ancs4, cncs4, rfl⟩ := ValR.shape hv4
      have hB4 := hB
      refine ⟨je (jy (jy (JOk.top) (ldv rfl rfl)) (ldv rfl rfl)) (by kernel_rfl), ?_⟩
      refine Dx.one (i := 9) (by kernel_rfl) ?_
      refine Dstep.o0 (i := 9) rfl (st6 sz46 rfl rfl rfl rfl rfl rfl) (fun v B' H' hΦ hB => ?_)
      obtain ⟨rfl, rfl⟩ := hΦ; clear hB v
      refine ⟨jy (jy (je (JOk.top) (by kernel_rfl)) (ldv rfl rfl)) (ldv rfl rfl), ?_⟩
      refine Dx.one (i := 10) (by kernel_rfl) ?_
      refine Dstep.o0 (i := 10) rfl (st6 sz46 rfl rfl rfl rfl rfl rfl) (fun v B' H' hΦ hB => ?_)
      obtain ⟨rfl, rfl⟩ := hΦ; clear hB v
      refine ⟨jy (je (je (JOk.top) (by kernel_rfl)) (by kernel_rfl)) (ldv rfl rfl), ?_⟩
      refine Dx.one (i := 11) (by kernel_rfl) ?_
      refine Dstep.o0 (i := 11) rfl (st6 sz46 rfl rfl rfl rfl rfl rfl) (fun v B' H' hΦ hB => ?_)
      obtain ⟨rfl, rfl⟩ := hΦ; clear hB v
      refine ⟨je (je (je (JOk.top) (by kernel_rfl)) (by kernel_rfl)) (by kernel_rfl), ?_⟩
      refine Dx.done (by kernel_rfl) ?_
      exact Xx.mkK (mO hB2 hB3 hB4 hv2 hv3 hv4 rfl) (Sub.cons (s := 7) rfl (Sub.cons (s := 8) rfl (Sub.cons (s := 9) rfl (Sub.cons (s := 6) rfl (Sub.nil _)))))
    · skip
      refine Dstep.o (i := 7) rfl (allocO ti46) rfl (fun v B' H' hΦ hB => ?_)
      obtain ⟨b8, rfl, rfl, rfl⟩ := hΦ; clear hB
      refine ⟨jy (jy (jy (JOk.top) (ldv rfl rfl)) (ldv rfl rfl)) (ldv rfl rfl), ?_⟩
      refine Dx.three (i := 1) (j := 6) (l := 8) (by kernel_rfl) ?_ ?_ ?_
      · skip
        refine Dstep.o (i := 1) rfl (Ox.cb rfl rfl rfl (cut8 (hx))) rfl (fun v B' H' hΦ hB => ?_)
        obtain ⟨rfl, hΦ⟩ := hΦ
        obtain ⟨cs2, rfl, hv2⟩ := hΦ
        obtain ⟨Apcs2, cpcs2, Ancs2, cncs2, rfl⟩ := ValR.shape hv2
        have hB2 := hB
        refine ⟨jy (jy (je (JOk.top) (by kernel_rfl)) (ldv rfl rfl)) (ldv rfl rfl), ?_⟩
        refine Dx.three (i := 3) (j := 6) (l := 8) (by kernel_rfl) ?_ ?_ ?_
        · skip
          refine Dstep.o (i := 3) rfl (Ox.cb rfl rfl rfl (cut8 (ValR.mono hB2 hy))) rfl (fun v B' H' hΦ hB => ?_)
          obtain ⟨rfl, hΦ⟩ := hΦ
          obtain ⟨cs3, rfl, hv3⟩ := hΦ
          obtain ⟨Apcs3, cpcs3, Ancs3, cncs3, rfl⟩ := ValR.shape hv3
          have hB3 := hB
          refine ⟨jy (je (jy (JOk.top) (ldv rfl rfl)) (by kernel_rfl)) (ldv rfl rfl), ?_⟩
          refine Dx.three (i := 5) (j := 6) (l := 8) (by kernel_rfl) ?_ ?_ ?_
          · skip
            refine Dstep.o (i := 5) rfl (Ox.cb rfl rfl rfl (cut8 (ValR.mono hB3 (ValR.mono hB2 hz)))) rfl (fun v B' H' hΦ hB => ?_)
            obtain ⟨rfl, hΦ⟩ := hΦ
            obtain ⟨cs4, rfl, hv4⟩ := hΦ
            obtain ⟨Apcs4, cpcs4, Ancs4, cncs4, rfl⟩ := ValR.shape hv4
            have hB4 := hB
            refine ⟨je (jy (jy (JOk.top) (ldv rfl rfl)) (ldv rfl rfl)) (by kernel_rfl), ?_⟩
            refine Dx.two (i := 6) (j := 8) (by kernel_rfl) ?_ ?_
            · skip
              refine Dstep.o (i := 6) rfl (allocO ti46) rfl (fun v B' H' hΦ hB => ?_)
              obtain ⟨b7, rfl, rfl, rfl⟩ := hΦ; clear hB
              refine ⟨jy (jy (jy (JOk.top) (ldv rfl rfl)) (ldv rfl rfl)) (ldv rfl rfl), ?_⟩
              refine Dx.one (i := 8) (by kernel_rfl) ?_
              refine Dstep.o (i := 8) rfl (allocO ti46) rfl (fun v B' H' hΦ hB => ?_)
              obtain ⟨b9, rfl, rfl, rfl⟩ := hΦ; clear hB
              refine ⟨jy (jy (jy (JOk.top) (ldv rfl rfl)) (ldv rfl rfl)) (ldv rfl rfl), ?_⟩
              refine Dx.one (i := 9) (by kernel_rfl) ?_
              refine Dstep.o0 (i := 9) rfl (st6 sz46 rfl rfl rfl rfl rfl rfl) (fun v B' H' hΦ hB => ?_)
              obtain ⟨rfl, rfl⟩ := hΦ; clear hB v
              refine ⟨jy (jy (je (JOk.top) (by kernel_rfl)) (ldv rfl rfl)) (ldv rfl rfl), ?_⟩
              refine Dx.one (i := 10) (by kernel_rfl) ?_
              refine Dstep.o0 (i := 10) rfl (st6 sz46 rfl rfl rfl rfl rfl rfl) (fun v B' H' hΦ hB => ?_)
              obtain ⟨rfl, rfl⟩ := hΦ; clear hB v
              refine ⟨jy (je (je (JOk.top) (by kernel_rfl)) (by kernel_rfl)) (ldv rfl rfl), ?_⟩
              refine Dx.one (i := 11) (by kernel_rfl) ?_
              refine Dstep.o0 (i := 11) rfl (st6 sz46 rfl rfl rfl rfl rfl rfl) (fun v B' H' hΦ hB => ?_)
              obtain ⟨rfl, rfl⟩ := hΦ; clear hB v
              refine ⟨je (je (je (JOk.top) (by kernel_rfl)) (by kernel_rfl)) (by kernel_rfl), ?_⟩
              refine Dx.done (by kernel_rfl) ?_
              exact Xx.mkK (mO hB2 hB3 hB4 hv2 hv3 hv4 rfl) (Sub.cons (s := 7) rfl (Sub.cons (s := 8) rfl (Sub.cons (s := 9) rfl (Sub.cons (s := 6) rfl (Sub.nil _)))))
            refine Dstep.o (i := 8) rfl (allocO ti46) rfl (fun v B' H' hΦ hB => ?_)
            obtain ⟨b9, rfl, rfl, rfl⟩ := hΦ; clear hB
            refine ⟨jy (jy (jy (JOk.top) (ldv rfl rfl)) (ldv rfl rfl)) (ldv rfl rfl), ?_⟩
            refine Dx.one (i := 6) (by kernel_rfl) ?_
            refine Dstep.o (i := 6) rfl (allocO ti46) rfl (fun v B' H' hΦ hB => ?_)
            obtain ⟨b7, rfl, rfl, rfl⟩ := hΦ; clear hB
            refine ⟨jy (jy (jy (JOk.top) (ldv rfl rfl)) (ldv rfl rfl)) (ldv rfl rfl), ?_⟩
            refine Dx.one (i := 9) (by kernel_rfl) ?_
            refine Dstep.o0 (i := 9) rfl (st6 sz46 rfl rfl rfl rfl rfl rfl) (fun v B' H' hΦ hB => ?_)
            obtain ⟨rfl, rfl⟩ := hΦ; clear hB v
            refine ⟨jy (jy (je (JOk.top) (by kernel_rfl)) (ldv rfl rfl)) (ldv rfl rfl), ?_⟩
            refine Dx.one (i := 10) (by kernel_rfl) ?_
            refine Dstep.o0 (i := 10) rfl (st6 sz46 rfl rfl rfl rfl rfl rfl) (fun v B' H' hΦ hB => ?_)
            obtain ⟨rfl, rfl⟩ := hΦ; clear hB v
            refine ⟨jy (je (je (JOk.top) (by kernel_rfl)) (by kernel_rfl)) (ldv rfl rfl), ?_⟩
            refine Dx.one (i := 11) (by kernel_rfl) ?_
            refine Dstep.o0 (i := 11) rfl (st6 sz46 rfl rfl rfl rfl rfl rfl) (fun v B' H' hΦ hB => ?_)
            obtain ⟨rfl, rfl⟩ := hΦ; clear hB v
            refine ⟨je (je (je (JOk.top) (by kernel_rfl)) (by kernel_rfl)) (by kernel_rfl), ?_⟩
            refine Dx.done (by kernel_rfl) ?_
            exact Xx.mkK (mO hB2 hB3 hB4 hv2 hv3 hv4 rfl) (Sub.cons (s := 7) rfl (Sub.cons (s := 8) rfl (Sub.cons (s := 9) rfl (Sub.cons (s := 6) rfl (Sub.nil _)))))
          · skip
            refine Dstep.o (i := 6) rfl (allocO ti46) rfl (fun v B' H' hΦ hB => ?_)
            obtain ⟨b7, rfl, rfl, rfl⟩ := hΦ; clear hB
            refine ⟨jy (jy (jy (JOk.top) (ldv rfl rfl)) (ldv rfl rfl)) (ldv rfl rfl), ?_⟩
            refine Dx.two (i := 5) (j := 8) (by kernel_rfl) ?_ ?_
            · skip
              refine Dstep.o (i := 5) rfl (Ox.cb rfl rfl rfl (cut8 (ValR.mono hB3 (ValR.mono hB2 hz)))) rfl (fun v B' H' hΦ hB => ?_)
              obtain ⟨rfl, hΦ⟩ := hΦ
              obtain ⟨cs4, rfl, hv4⟩ := hΦ
              obtain ⟨Apcs4, cpcs4, Ancs4, cncs4, rfl⟩ := ValR.shape hv4
              have hB4 := hB
              refine ⟨je (jy (jy (JOk.top) (ldv rfl rfl)) (ldv rfl rfl)) (by kernel_rfl), ?_⟩
              refine Dx.one (i := 8) (by kernel_rfl) ?_
              refine Dstep.o (i := 8) rfl (allocO ti46) rfl (fun v B' H' hΦ hB => ?_)
              obtain ⟨b9, rfl, rfl, rfl⟩ := hΦ; clear hB
              refine ⟨jy (jy (jy (JOk.top) (ldv rfl rfl)) (ldv rfl rfl)) (ldv rfl rfl), ?_⟩
              refine Dx.one (i := 9) (by kernel_rfl) ?_
              refine Dstep.o0 (i := 9) rfl (st6 sz46 rfl rfl rfl rfl rfl rfl) (fun v B' H' hΦ hB => ?_)
              obtain ⟨rfl, rfl⟩ := hΦ; clear hB v
              refine ⟨jy (jy (je (JOk.top) (by kernel_rfl)) (ldv rfl rfl)) (ldv rfl rfl), ?_⟩
              refine Dx.one (i := 10) (by kernel_rfl) ?_
              refine Dstep.o0 (i := 10) rfl (st6 sz46 rfl rfl rfl rfl rfl rfl) (fun v B' H' hΦ hB => ?_)
              obtain ⟨rfl, rfl⟩ := hΦ; clear hB v
              refine ⟨jy (je (je (JOk.top) (by kernel_rfl)) (by kernel_rfl)) (ldv rfl rfl), ?_⟩
              refine Dx.one (i := 11) (by kernel_rfl) ?_
              refine Dstep.o0 (i := 11) rfl (st6 sz46 rfl rfl rfl rfl rfl rfl) (fun v B' H' hΦ hB => ?_)
              obtain ⟨rfl, rfl⟩ := hΦ; clear hB v
              refine ⟨je (je (je (JOk.top) (by kernel_rfl)) (by kernel_rfl)) (by kernel_rfl), ?_⟩
              refine Dx.done (by kernel_rfl) ?_
              exact Xx.mkK (mO hB2 hB3 hB4 hv2 hv3 hv4 rfl) (Sub.cons (s := 7) rfl (Sub.cons (s := 8) rfl (Sub.cons (s := 9) rfl (Sub.cons (s := 6) rfl (Sub.nil _)))))
            refine Dstep.o (i := 8) rfl (allocO ti46) rfl (fun v B' H' hΦ hB => ?_)
            obtain ⟨b9, rfl, rfl, rfl⟩ := hΦ; clear hB
            refine ⟨jy (jy (jy (JOk.top) (ldv rfl rfl)) (ldv rfl rfl)) (ldv rfl rfl), ?_⟩
            refine Dx.one (i := 5) (by kernel_rfl) ?_
            refine Dstep.o (i := 5) rfl (Ox.cb rfl rfl rfl (cut8 (ValR.mono hB3 (ValR.mono hB2 hz)))) rfl (fun v B' H' hΦ hB => ?_)
            obtain ⟨rfl, hΦ⟩ := hΦ
            obtain ⟨cs4, rfl, hv4⟩ := hΦ
            obtain ⟨Apcs4, cpcs4, Ancs4, cncs4, rfl⟩ := ValR.shape hv4
            have hB4 := hB
            refine ⟨je (jy (jy (JOk.top) (ldv rfl rfl)) (ldv rfl rfl)) (by kernel_rfl), ?_⟩
            refine Dx.one (i := 9) (by kernel_rfl) ?_
            refine Dstep.o0 (i := 9) rfl (st6 sz46 rfl rfl rfl rfl rfl rfl) (fun v B' H' hΦ hB => ?_)
            obtain ⟨rfl, rfl⟩ := hΦ; clear hB v
            refine ⟨jy (jy (je (JOk.top) (by kernel_rfl)) (ldv rfl rfl)) (ldv rfl rfl), ?_⟩
            refine Dx.one (i := 10) (by kernel_rfl) ?_
            refine Dstep.o0 (i := 10) rfl (st6 sz46 rfl rfl rfl rfl rfl rfl) (fun v B' H' hΦ hB => ?_)
            obtain ⟨rfl, rfl⟩ := hΦ; clear hB v
            refine ⟨jy (je (je (JOk.top) (by kernel_rfl)) (by kernel_rfl)) (ldv rfl rfl), ?_⟩
            refine Dx.one (i := 11) (by kernel_rfl) ?_
            refine Dstep.o0 (i := 11) rfl (st6 sz46 rfl rfl rfl rfl rfl rfl) (fun v B' H' hΦ hB => ?_)
            obtain ⟨rfl, rfl⟩ := hΦ; clear hB v
            refine ⟨je (je (je (JOk.top) (by kernel_rfl)) (by kernel_rfl)) (by kernel_rfl), ?_⟩
            refine Dx.done (by kernel_rfl) ?_
            exact Xx.mkK (mO hB2 hB3 hB4 hv2 hv3 hv4 rfl) (Sub.cons (s := 7) rfl (Sub.cons (s := 8) rfl (Sub.cons (s := 9) rfl (Sub.cons (s := 6) rfl (Sub.nil _)))))
          refine Dstep.o (i := 8) rfl (allocO ti46) rfl (fun v B' H' hΦ hB => ?_)
          obtain ⟨b9, rfl, rfl, rfl⟩ := hΦ; clear hB
          refine ⟨jy (jy (jy (JOk.top) (ldv rfl rfl)) (ldv rfl rfl)) (ldv rfl rfl), ?_⟩
          refine Dx.two (i := 5) (j := 6) (by kernel_rfl) ?_ ?_
          · skip
            refine Dstep.o (i := 5) rfl (Ox.cb rfl rfl rfl (cut8 (ValR.mono hB3 (ValR.mono hB2 hz)))) rfl (fun v B' H' hΦ hB => ?_)
            obtain ⟨rfl, hΦ⟩ := hΦ
            obtain ⟨cs4, rfl, hv4⟩ := hΦ
            obtain ⟨Apcs4, cpcs4, Ancs4, cncs4, rfl⟩ := ValR.shape hv4
            have hB4 := hB
            refine ⟨je (jy (jy (JOk.top) (ldv rfl rfl)) (ldv rfl rfl)) (by kernel_rfl), ?_⟩
            refine Dx.one (i := 6) (by kernel_rfl) ?_
            refine Dstep.o (i := 6) rfl (allocO ti46) rfl (fun v B' H' hΦ hB => ?_)
            obtain ⟨b7, rfl, rfl, rfl⟩ := hΦ; clear hB
            refine ⟨jy (jy (jy (JOk.top) (ldv rfl rfl)) (ldv rfl rfl)) (ldv rfl rfl), ?_⟩
            refine Dx.one (i := 9) (by kernel_rfl) ?_
            refine Dstep.o0 (i := 9) rfl (st6 sz46 rfl rfl rfl rfl rfl rfl) (fun v B' H' hΦ hB => ?_)
            obtain ⟨rfl, rfl⟩ := hΦ; clear hB v
            refine ⟨jy (jy (je (JOk.top) (by kernel_rfl)) (ldv rfl rfl)) (ldv rfl rfl), ?_⟩
            refine Dx.one (i := 10) (by kernel_rfl) ?_
            refine Dstep.o0 (i := 10) rfl (st6 sz46 rfl rfl rfl rfl rfl rfl) (fun v B' H' hΦ hB => ?_)
            obtain ⟨rfl, rfl⟩ := hΦ; clear hB v
            refine ⟨jy (je (je (JOk.top) (by kernel_rfl)) (by kernel_rfl)) (ldv rfl rfl), ?_⟩
            refine Dx.one (i := 11) (by kernel_rfl) ?_
            refine Dstep.o0 (i := 11) rfl (st6 sz46 rfl rfl rfl rfl rfl rfl) (fun v B' H' hΦ hB => ?_)
            obtain ⟨rfl, rfl⟩ := hΦ; clear hB v
            refine ⟨je (je (je (JOk.top) (by kernel_rfl)) (by kernel_rfl)) (by kernel_rfl), ?_⟩
            refine Dx.done (by kernel_rfl) ?_
            exact Xx.mkK (mO hB2 hB3 hB4 hv2 hv3 hv4 rfl) (Sub.cons (s := 7) rfl (Sub.cons (s := 8) rfl (Sub.cons (s := 9) rfl (Sub.cons (s := 6) rfl (Sub.nil _)))))
          refine Dstep.o (i := 6) rfl (allocO ti46) rfl (fun v B' H' hΦ hB => ?_)
          obtain ⟨b7, rfl, rfl, rfl⟩ := hΦ; clear hB
          refine ⟨jy (jy (jy (JOk.top) (ldv rfl rfl)) (ldv rfl rfl)) (ldv rfl rfl), ?_⟩
          refine Dx.one (i := 5) (by kernel_rfl) ?_
          refine Dstep.o (i := 5) rfl (Ox.cb rfl rfl rfl (cut8 (ValR.mono hB3 (ValR.mono hB2 hz)))) rfl (fun v B' H' hΦ hB => ?_)
          obtain ⟨rfl, hΦ⟩ := hΦ
          obtain ⟨cs4, rfl, hv4⟩ := hΦ
          obtain ⟨Apcs4, cpcs4, Ancs4, cncs4, rfl⟩ := ValR.shape hv4
          have hB4 := hB
          refine ⟨je (jy (jy (JOk.top) (ldv rfl rfl)) (ldv rfl rfl)) (by kernel_rfl), ?_⟩
          refine Dx.one (i := 9) (by kernel_rfl) ?_
          refine Dstep.o0 (i := 9) rfl (st6 sz46 rfl rfl rfl rfl rfl rfl) (fun v B' H' hΦ hB => ?_)
          obtain ⟨rfl, rfl⟩ := hΦ; clear hB v
          refine ⟨jy (jy (je (JOk.top) (by kernel_rfl)) (ldv rfl rfl)) (ldv rfl rfl), ?_⟩
          refine Dx.one (i := 10) (by kernel_rfl) ?_
          refine Dstep.o0 (i := 10) rfl (st6 sz46 rfl rfl rfl rfl rfl rfl) (fun v B' H' hΦ hB => ?_)
          obtain ⟨rfl, rfl⟩ := hΦ; clear hB v
          refine ⟨jy (je (je (JOk.top) (by kernel_rfl)) (by kernel_rfl)) (ldv rfl rfl), ?_⟩
          refine Dx.one (i := 11) (by kernel_rfl) ?_
          refine Dstep.o0 (i := 11) rfl (st6 sz46 rfl rfl rfl rfl rfl rfl) (fun v B' H' hΦ hB => ?_)
          obtain ⟨rfl, rfl⟩ := hΦ; clear hB v
          refine ⟨je (je (je (JOk.top) (by kernel_rfl)) (by kernel_rfl)) (by kernel_rfl), ?_⟩
          refine Dx.done (by kernel_rfl) ?_
          exact Xx.mkK (mO hB2 hB3 hB4 hv2 hv3 hv4 rfl) (Sub.cons (s := 7) rfl (Sub.cons (s := 8) rfl (Sub.cons (s := 9) rfl (Sub.cons (s := 6) rfl (Sub.nil _)))))
        · skip
          refine Dstep.o (i := 6) rfl (allocO ti46) rfl (fun v B' H' hΦ hB => ?_)
          obtain ⟨b7, rfl, rfl, rfl⟩ := hΦ; clear hB
          refine ⟨jy (jy (jy (JOk.top) (ldv rfl rfl)) (ldv rfl rfl)) (ldv rfl rfl), ?_⟩
          refine Dx.two (i := 3) (j := 8) (by kernel_rfl) ?_ ?_
          · skip
            refine Dstep.o (i := 3) rfl (Ox.cb rfl rfl rfl (cut8 (ValR.mono hB2 hy))) rfl (fun v B' H' hΦ hB => ?_)
            obtain ⟨rfl, hΦ⟩ := hΦ
            obtain ⟨cs3, rfl, hv3⟩ := hΦ
            obtain ⟨Apcs3, cpcs3, Ancs3, cncs3, rfl⟩ := ValR.shape hv3
            have hB3 := hB
            refine ⟨jy (je (jy (JOk.top) (ldv rfl rfl)) (by kernel_rfl)) (ldv rfl rfl), ?_⟩
            refine Dx.two (i := 5) (j := 8) (by kernel_rfl) ?_ ?_
            · skip
              refine Dstep.o (i := 5) rfl (Ox.cb rfl rfl rfl (cut8 (ValR.mono hB3 (ValR.mono hB2 hz)))) rfl (fun v B' H' hΦ hB => ?_)
              obtain ⟨rfl, hΦ⟩ := hΦ
              obtain ⟨cs4, rfl, hv4⟩ := hΦ
              obtain ⟨Apcs4, cpcs4, Ancs4, cncs4, rfl⟩ := ValR.shape hv4
              have hB4 := hB
              refine ⟨je (jy (jy (JOk.top) (ldv rfl rfl)) (ldv rfl rfl)) (by kernel_rfl), ?_⟩
              refine Dx.one (i := 8) (by kernel_rfl) ?_
              refine Dstep.o (i := 8) rfl (allocO ti46) rfl (fun v B' H' hΦ hB => ?_)
              obtain ⟨b9, rfl, rfl, rfl⟩ := hΦ; clear hB
              refine ⟨jy (jy (jy (JOk.top) (ldv rfl rfl)) (ldv rfl rfl)) (ldv rfl rfl), ?_⟩
              refine Dx.one (i := 9) (by kernel_rfl) ?_
              refine Dstep.o0 (i := 9) rfl (st6 sz46 rfl rfl rfl rfl rfl rfl) (fun v B' H' hΦ hB => ?_)
              obtain ⟨rfl, rfl⟩ := hΦ; clear hB v
              refine ⟨jy (jy (je (JOk.top) (by kernel_rfl)) (ldv rfl rfl)) (ldv rfl rfl), ?_⟩
              refine Dx.one (i := 10) (by kernel_rfl) ?_
              refine Dstep.o0 (i := 10) rfl (st6 sz46 rfl rfl rfl rfl rfl rfl) (fun v B' H' hΦ hB => ?_)
              obtain ⟨rfl, rfl⟩ := hΦ; clear hB v
              refine ⟨jy (je (je (JOk.top) (by kernel_rfl)) (by kernel_rfl)) (ldv rfl rfl), ?_⟩
              refine Dx.one (i := 11) (by kernel_rfl) ?_
              refine Dstep.o0 (i := 11) rfl (st6 sz46 rfl rfl rfl rfl rfl rfl) (fun v B' H' hΦ hB => ?_)
              obtain ⟨rfl, rfl⟩ := hΦ; clear hB v
              refine ⟨je (je (je (JOk.top) (by kernel_rfl)) (by kernel_rfl)) (by kernel_rfl), ?_⟩
              refine Dx.done (by kernel_rfl) ?_
              exact Xx.mkK (mO hB2 hB3 hB4 hv2 hv3 hv4 rfl) (Sub.cons (s := 7) rfl (Sub.cons (s := 8) rfl (Sub.cons (s := 9) rfl (Sub.cons (s := 6) rfl (Sub.nil _)))))
            refine Dstep.o (i := 8) rfl (allocO ti46) rfl (fun v B' H' hΦ hB => ?_)
            obtain ⟨b9, rfl, rfl, rfl⟩ := hΦ; clear hB
            refine ⟨jy (jy (jy (JOk.top) (ldv rfl rfl)) (ldv rfl rfl)) (ldv rfl rfl), ?_⟩
            refine Dx.one (i := 5) (by kernel_rfl) ?_
            refine Dstep.o (i := 5) rfl (Ox.cb rfl rfl rfl (cut8 (ValR.mono hB3 (ValR.mono hB2 hz)))) rfl (fun v B' H' hΦ hB => ?_)
            obtain ⟨rfl, hΦ⟩ := hΦ
            obtain ⟨cs4, rfl, hv4⟩ := hΦ
            obtain ⟨Apcs4, cpcs4, Ancs4, cncs4, rfl⟩ := ValR.shape hv4
            have hB4 := hB
            refine ⟨je (jy (jy (JOk.top) (ldv rfl rfl)) (ldv rfl rfl)) (by kernel_rfl), ?_⟩
            refine Dx.one (i := 9) (by kernel_rfl) ?_
            refine Dstep.o0 (i := 9) rfl (st6 sz46 rfl rfl rfl rfl rfl rfl) (fun v B' H' hΦ hB => ?_)
            obtain ⟨rfl, rfl⟩ := hΦ; clear hB v
            refine ⟨jy (jy (je (JOk.top) (by kernel_rfl)) (ldv rfl rfl)) (ldv rfl rfl), ?_⟩
            refine Dx.one (i := 10) (by kernel_rfl) ?_
            refine Dstep.o0 (i := 10) rfl (st6 sz46 rfl rfl rfl rfl rfl rfl) (fun v B' H' hΦ hB => ?_)
            obtain ⟨rfl, rfl⟩ := hΦ; clear hB v
            refine ⟨jy (je (je (JOk.top) (by kernel_rfl)) (by kernel_rfl)) (ldv rfl rfl), ?_⟩
            refine Dx.one (i := 11) (by kernel_rfl) ?_
            refine Dstep.o0 (i := 11) rfl (st6 sz46 rfl rfl rfl rfl rfl rfl) (fun v B' H' hΦ hB => ?_)
            obtain ⟨rfl, rfl⟩ := hΦ; clear hB v
            refine ⟨je (je (je (JOk.top) (by kernel_rfl)) (by kernel_rfl)) (by kernel_rfl), ?_⟩
            refine Dx.done (by kernel_rfl) ?_
            exact Xx.mkK (mO hB2 hB3 hB4 hv2 hv3 hv4 rfl) (Sub.cons (s := 7) rfl (Sub.cons (s := 8) rfl (Sub.cons (s := 9) rfl (Sub.cons (s := 6) rfl (Sub.nil _)))))
          refine Dstep.o (i := 8) rfl (allocO ti46) rfl (fun v B' H' hΦ hB => ?_)
          obtain ⟨b9, rfl, rfl, rfl⟩ := hΦ; clear hB
          refine ⟨jy (jy (jy (JOk.top) (ldv rfl rfl)) (ldv rfl rfl)) (ldv rfl rfl), ?_⟩
          refine Dx.one (i := 3) (by kernel_rfl) ?_
          refine Dstep.o (i := 3) rfl (Ox.cb rfl rfl rfl (cut8 (ValR.mono hB2 hy))) rfl (fun v B' H' hΦ hB => ?_)
          obtain ⟨rfl, hΦ⟩ := hΦ
          obtain ⟨cs3, rfl, hv3⟩ := hΦ
          obtain ⟨Apcs3, cpcs3, Ancs3, cncs3, rfl⟩ := ValR.shape hv3
          have hB3 := hB
          refine ⟨jy (je (jy (JOk.top) (ldv rfl rfl)) (by kernel_rfl)) (ldv rfl rfl), ?_⟩
          refine Dx.one (i := 5) (by kernel_rfl) ?_
          refine Dstep.o (i := 5) rfl (Ox.cb rfl rfl rfl (cut8 (ValR.mono hB3 (ValR.mono hB2 hz)))) rfl (fun v B' H' hΦ hB => ?_)
          obtain ⟨rfl, hΦ⟩ := hΦ
          obtain ⟨cs4, rfl, hv4⟩ := hΦ
          obtain ⟨Apcs4, cpcs4, Ancs4, cncs4, rfl⟩ := ValR.shape hv4
          have hB4 := hB
          refine ⟨je (jy (jy (JOk.top) (ldv rfl rfl)) (ldv rfl rfl)) (by kernel_rfl), ?_⟩
          refine Dx.one (i := 9) (by kernel_rfl) ?_
          refine Dstep.o0 (i := 9) rfl (st6 sz46 rfl rfl rfl rfl rfl rfl) (fun v B' H' hΦ hB => ?_)
          obtain ⟨rfl, rfl⟩ := hΦ; clear hB v
          refine ⟨jy (jy (je (JOk.top) (by kernel_rfl)) (ldv rfl rfl)) (ldv rfl rfl), ?_⟩
          refine Dx.one (i := 10) (by kernel_rfl) ?_
          refine Dstep.o0 (i := 10) rfl (st6 sz46 rfl rfl rfl rfl rfl rfl) (fun v B' H' hΦ hB => ?_)
          obtain ⟨rfl, rfl⟩ := hΦ; clear hB v
          refine ⟨jy (je (je (JOk.top) (by kernel_rfl)) (by kernel_rfl)) (ldv rfl rfl), ?_⟩
          refine Dx.one (i := 11) (by kernel_rfl) ?_
          refine Dstep.o0 (i := 11) rfl (st6 sz46 rfl rfl rfl rfl rfl rfl) (fun v B' H' hΦ hB => ?_)
          obtain ⟨rfl, rfl⟩ := hΦ; clear hB v
          refine ⟨je (je (je (JOk.top) (by kernel_rfl)) (by kernel_rfl)) (by kernel_rfl), ?_⟩
          refine Dx.done (by kernel_rfl) ?_
          exact Xx.mkK (mO hB2 hB3 hB4 hv2 hv3 hv4 rfl) (Sub.cons (s := 7) rfl (Sub.cons (s := 8) rfl (Sub.cons (s := 9) rfl (Sub.cons (s := 6) rfl (Sub.nil _)))))
        refine Dstep.o (i := 8) rfl (allocO ti46) rfl (fun v B' H' hΦ hB => ?_)
        obtain ⟨b9, rfl, rfl, rfl⟩ := hΦ; clear hB
        refine ⟨jy (jy (jy (JOk.top) (ldv rfl rfl)) (ldv rfl rfl)) (ldv rfl rfl), ?_⟩
        refine Dx.two (i := 3) (j := 6) (by kernel_rfl) ?_ ?_
        · skip
          refine Dstep.o (i := 3) rfl (Ox.cb rfl rfl rfl (cut8 (ValR.mono hB2 hy))) rfl (fun v B' H' hΦ hB => ?_)
          obtain ⟨rfl, hΦ⟩ := hΦ
          obtain ⟨cs3, rfl, hv3⟩ := hΦ
          obtain ⟨Apcs3, cpcs3, Ancs3, cncs3, rfl⟩ := ValR.shape hv3
          have hB3 := hB
          refine ⟨jy (je (jy (JOk.top) (ldv rfl rfl)) (by kernel_rfl)) (ldv rfl rfl), ?_⟩
          refine Dx.two (i := 5) (j := 6) (by kernel_rfl) ?_ ?_
          · skip
            refine Dstep.o (i := 5) rfl (Ox.cb rfl rfl rfl (cut8 (ValR.mono hB3 (ValR.mono hB2 hz)))) rfl (fun v B' H' hΦ hB => ?_)
            obtain ⟨rfl, hΦ⟩ := hΦ
            obtain ⟨cs4, rfl, hv4⟩ := hΦ
            obtain ⟨Apcs4, cpcs4, Ancs4, cncs4, rfl⟩ := ValR.shape hv4
            have hB4 := hB
            refine ⟨je (jy (jy (JOk.top) (ldv rfl rfl)) (ldv rfl rfl)) (by kernel_rfl), ?_⟩
            refine Dx.one (i := 6) (by kernel_rfl) ?_
            refine Dstep.o (i := 6) rfl (allocO ti46) rfl (fun v B' H' hΦ hB => ?_)
            obtain ⟨b7, rfl, rfl, rfl⟩ := hΦ; clear hB
            refine ⟨jy (jy (jy (JOk.top) (ldv rfl rfl)) (ldv rfl rfl)) (ldv rfl rfl), ?_⟩
            refine Dx.one (i := 9) (by kernel_rfl) ?_
            refine Dstep.o0 (i := 9) rfl (st6 sz46 rfl rfl rfl rfl rfl rfl) (fun v B' H' hΦ hB => ?_)
            obtain ⟨rfl, rfl⟩ := hΦ; clear hB v
            refine ⟨jy (jy (je (JOk.top) (by kernel_rfl)) (ldv rfl rfl)) (ldv rfl rfl), ?_⟩
            refine Dx.one (i := 10) (by kernel_rfl) ?_
            refine Dstep.o0 (i := 10) rfl (st6 sz46 rfl rfl rfl rfl rfl rfl) (fun v B' H' hΦ hB => ?_)
            obtain ⟨rfl, rfl⟩ := hΦ; clear hB v
            refine ⟨jy (je (je (JOk.top) (by kernel_rfl)) (by kernel_rfl)) (ldv rfl rfl), ?_⟩
            refine Dx.one (i := 11) (by kernel_rfl) ?_
            refine Dstep.o0 (i := 11) rfl (st6 sz46 rfl rfl rfl rfl rfl rfl) (fun v B' H' hΦ hB => ?_)
            obtain ⟨rfl, rfl⟩ := hΦ; clear hB v
            refine ⟨je (je (je (JOk.top) (by kernel_rfl)) (by kernel_rfl)) (by kernel_rfl), ?_⟩
            refine Dx.done (by kernel_rfl) ?_
            exact Xx.mkK (mO hB2 hB3 hB4 hv2 hv3 hv4 rfl) (Sub.cons (s := 7) rfl (Sub.cons (s := 8) rfl (Sub.cons (s := 9) rfl (Sub.cons (s := 6) rfl (Sub.nil _)))))
          refine Dstep.o (i := 6) rfl (allocO ti46) rfl (fun v B' H' hΦ hB => ?_)
          obtain ⟨b7, rfl, rfl, rfl⟩ := hΦ; clear hB
          refine ⟨jy (jy (jy (JOk.top) (ldv rfl rfl)) (ldv rfl rfl)) (ldv rfl rfl), ?_⟩
          refine Dx.one (i := 5) (by kernel_rfl) ?_
          refine Dstep.o (i := 5) rfl (Ox.cb rfl rfl rfl (cut8 (ValR.mono hB3 (ValR.mono hB2 hz)))) rfl (fun v B' H' hΦ hB => ?_)
          obtain ⟨rfl, hΦ⟩ := hΦ
          obtain ⟨cs4, rfl, hv4⟩ := hΦ
          obtain ⟨Apcs4, cpcs4, Ancs4, cncs4, rfl⟩ := ValR.shape hv4
          have hB4 := hB
          refine ⟨je (jy (jy (JOk.top) (ldv rfl rfl)) (ldv rfl rfl)) (by kernel_rfl), ?_⟩
          refine Dx.one (i := 9) (by kernel_rfl) ?_
          refine Dstep.o0 (i := 9) rfl (st6 sz46 rfl rfl rfl rfl rfl rfl) (fun v B' H' hΦ hB => ?_)
          obtain ⟨rfl, rfl⟩ := hΦ; clear hB v
          refine ⟨jy (jy (je (JOk.top) (by kernel_rfl)) (ldv rfl rfl)) (ldv rfl rfl), ?_⟩
          refine Dx.one (i := 10) (by kernel_rfl) ?_
          refine Dstep.o0 (i := 10) rfl (st6 sz46 rfl rfl rfl rfl rfl rfl) (fun v B' H' hΦ hB => ?_)
          obtain ⟨rfl, rfl⟩ := hΦ; clear hB v
          refine ⟨jy (je (je (JOk.top) (by kernel_rfl)) (by kernel_rfl)) (ldv rfl rfl), ?_⟩
          refine Dx.one (i := 11) (by kernel_rfl) ?_
          refine Dstep.o0 (i := 11) rfl (st6 sz46 rfl rfl rfl rfl rfl rfl) (fun v B' H' hΦ hB => ?_)
          obtain ⟨rfl, rfl⟩ := hΦ; clear hB v
          refine ⟨je (je (je (JOk.top) (by kernel_rfl)) (by kernel_rfl)) (by kernel_rfl), ?_⟩
          refine Dx.done (by kernel_rfl) ?_
          exact Xx.mkK (mO hB2 hB3 hB4 hv2 hv3 hv4 rfl) (Sub.cons (s := 7) rfl (Sub.cons (s := 8) rfl (Sub.cons (s := 9) rfl (Sub.cons (s := 6) rfl (Sub.nil _)))))
        refine Dstep.o (i := 6) rfl (allocO ti46) rfl (fun v B' H' hΦ hB => ?_)
        obtain ⟨b7, rfl, rfl, rfl⟩ := hΦ; clear hB
        refine ⟨jy (jy (jy (JOk.top) (ldv rfl rfl)) (ldv rfl rfl)) (ldv rfl rfl), ?_⟩
        refine Dx.one (i := 3) (by kernel_rfl) ?_
        refine Dstep.o (i := 3) rfl (Ox.cb rfl rfl rfl (cut8 (ValR.mono hB2 hy))) rfl (fun v B' H' hΦ hB => ?_)
        obtain ⟨rfl, hΦ⟩ := hΦ
        obtain ⟨cs3, rfl, hv3⟩ := hΦ
        obtain ⟨Apcs3, cpcs3, Ancs3, cncs3, rfl⟩ := ValR.shape hv3
        have hB3 := hB
        refine ⟨jy (je (jy (JOk.top) (ldv rfl rfl)) (by kernel_rfl)) (ldv rfl rfl), ?_⟩
        refine Dx.one (i := 5) (by kernel_rfl) ?_
        refine Dstep.o (i := 5) rfl (Ox.cb rfl rfl rfl (cut8 (ValR.mono hB3 (ValR.mono hB2 hz)))) rfl (fun v B' H' hΦ hB => ?_)
        obtain ⟨rfl, hΦ⟩ := hΦ
        obtain ⟨cs4, rfl, hv4⟩ := hΦ
        obtain ⟨Apcs4, cpcs4, Ancs4, cncs4, rfl⟩ := ValR.shape hv4
        have hB4 := hB
        refine ⟨je (jy (jy (JOk.top) (ldv rfl rfl)) (ldv rfl rfl)) (by kernel_rfl), ?_⟩
        refine Dx.one (i := 9) (by kernel_rfl) ?_
        refine Dstep.o0 (i := 9) rfl (st6 sz46 rfl rfl rfl rfl rfl rfl) (fun v B' H' hΦ hB => ?_)
        obtain ⟨rfl, rfl⟩ := hΦ; clear hB v
        refine ⟨jy (jy (je (JOk.top) (by kernel_rfl)) (ldv rfl rfl)) (ldv rfl rfl), ?_⟩
        refine Dx.one (i := 10) (by kernel_rfl) ?_
        refine Dstep.o0 (i := 10) rfl (st6 sz46 rfl rfl rfl rfl rfl rfl) (fun v B' H' hΦ hB => ?_)
        obtain ⟨rfl, rfl⟩ := hΦ; clear hB v
        refine ⟨jy (je (je (JOk.top) (by kernel_rfl)) (by kernel_rfl)) (ldv rfl rfl), ?_⟩
        refine Dx.one (i := 11) (by kernel_rfl) ?_
        refine Dstep.o0 (i := 11) rfl (st6 sz46 rfl rfl rfl rfl rfl rfl) (fun v B' H' hΦ hB => ?_)
        obtain ⟨rfl, rfl⟩ := hΦ; clear hB v
        refine ⟨je (je (je (JOk.top) (by kernel_rfl)) (by kernel_rfl)) (by kernel_rfl), ?_⟩
        refine Dx.done (by kernel_rfl) ?_
        exact Xx.mkK (mO hB2 hB3 hB4 hv2 hv3 hv4 rfl) (Sub.cons (s := 7) rfl (Sub.cons (s := 8) rfl (Sub.cons (s := 9) rfl (Sub.cons (s := 6) rfl (Sub.nil _)))))
      · skip
        refine Dstep.o (i := 6) rfl (allocO ti46) rfl (fun v B' H' hΦ hB => ?_)
        obtain ⟨b7, rfl, rfl, rfl⟩ := hΦ; clear hB
        refine ⟨jy (jy (jy (JOk.top) (ldv rfl rfl)) (ldv rfl rfl)) (ldv rfl rfl), ?_⟩
        refine Dx.two (i := 1) (j := 8) (by kernel_rfl) ?_ ?_
        · skip
          refine Dstep.o (i := 1) rfl (Ox.cb rfl rfl rfl (cut8 (hx))) rfl (fun v B' H' hΦ hB => ?_)
          obtain ⟨rfl, hΦ⟩ := hΦ
          obtain ⟨cs2, rfl, hv2⟩ := hΦ
          obtain ⟨Apcs2, cpcs2, Ancs2, cncs2, rfl⟩ := ValR.shape hv2
          have hB2 := hB
          refine ⟨jy (jy (je (JOk.top) (by kernel_rfl)) (ldv rfl rfl)) (ldv rfl rfl), ?_⟩
          refine Dx.two (i := 3) (j := 8) (by kernel_rfl) ?_ ?_
          · skip
            refine Dstep.o (i := 3) rfl (Ox.cb rfl rfl rfl (cut8 (ValR.mono hB2 hy))) rfl (fun v B' H' hΦ hB => ?_)
            obtain ⟨rfl, hΦ⟩ := hΦ
            obtain ⟨cs3, rfl, hv3⟩ := hΦ
            obtain ⟨Apcs3, cpcs3, Ancs3, cncs3, rfl⟩ := ValR.shape hv3
            have hB3 := hB
            refine ⟨jy (je (jy (JOk.top) (ldv rfl rfl)) (by kernel_rfl)) (ldv rfl rfl), ?_⟩
            refine Dx.two (i := 5) (j := 8) (by kernel_rfl) ?_ ?_
            · skip
              refine Dstep.o (i := 5) rfl (Ox.cb rfl rfl rfl (cut8 (ValR.mono hB3 (ValR.mono hB2 hz)))) rfl (fun v B' H' hΦ hB => ?_)
              obtain ⟨rfl, hΦ⟩ := hΦ
              obtain ⟨cs4, rfl, hv4⟩ := hΦ
              obtain ⟨Apcs4, cpcs4, Ancs4, cncs4, rfl⟩ := ValR.shape hv4
              have hB4 := hB
              refine ⟨je (jy (jy (JOk.top) (ldv rfl rfl)) (ldv rfl rfl)) (by kernel_rfl), ?_⟩
              refine Dx.one (i := 8) (by kernel_rfl) ?_
              refine Dstep.o (i := 8) rfl (allocO ti46) rfl (fun v B' H' hΦ hB => ?_)
              obtain ⟨b9, rfl, rfl, rfl⟩ := hΦ; clear hB
              refine ⟨jy (jy (jy (JOk.top) (ldv rfl rfl)) (ldv rfl rfl)) (ldv rfl rfl), ?_⟩
              refine Dx.one (i := 9) (by kernel_rfl) ?_
              refine Dstep.o0 (i := 9) rfl (st6 sz46 rfl rfl rfl rfl rfl rfl) (fun v B' H' hΦ hB => ?_)
              obtain ⟨rfl, rfl⟩ := hΦ; clear hB v
              refine ⟨jy (jy (je (JOk.top) (by kernel_rfl)) (ldv rfl rfl)) (ldv rfl rfl), ?_⟩
              refine Dx.one (i := 10) (by kernel_rfl) ?_
              refine Dstep.o0 (i := 10) rfl (st6 sz46 rfl rfl rfl rfl rfl rfl) (fun v B' H' hΦ hB => ?_)
              obtain ⟨rfl, rfl⟩ := hΦ; clear hB v
              refine ⟨jy (je (je (JOk.top) (by kernel_rfl)) (by kernel_rfl)) (ldv rfl rfl), ?_⟩
              refine Dx.one (i := 11) (by kernel_rfl) ?_
              refine Dstep.o0 (i := 11) rfl (st6 sz46 rfl rfl rfl rfl rfl rfl) (fun v B' H' hΦ hB => ?_)
              obtain ⟨rfl, rfl⟩ := hΦ; clear hB v
              refine ⟨je (je (je (JOk.top) (by kernel_rfl)) (by kernel_rfl)) (by kernel_rfl), ?_⟩
              refine Dx.done (by kernel_rfl) ?_
              exact Xx.mkK (mO hB2 hB3 hB4 hv2 hv3 hv4 rfl) (Sub.cons (s := 7) rfl (Sub.cons (s := 8) rfl (Sub.cons (s := 9) rfl (Sub.cons (s := 6) rfl (Sub.nil _)))))
            refine Dstep.o (i := 8) rfl (allocO ti46) rfl (fun v B' H' hΦ hB => ?_)
            obtain ⟨b9, rfl, rfl, rfl⟩ := hΦ; clear hB
            refine ⟨jy (jy (jy (JOk.top) (ldv rfl rfl)) (ldv rfl rfl)) (ldv rfl rfl), ?_⟩
            refine Dx.one (i := 5) (by kernel_rfl) ?_
            refine Dstep.o (i := 5) rfl (Ox.cb rfl rfl rfl (cut8 (ValR.mono hB3 (ValR.mono hB2 hz)))) rfl (fun v B' H' hΦ hB => ?_)
            obtain ⟨rfl, hΦ⟩ := hΦ
            obtain ⟨cs4, rfl, hv4⟩ := hΦ
            obtain ⟨Apcs4, cpcs4, Ancs4, cncs4, rfl⟩ := ValR.shape hv4
            have hB4 := hB
            refine ⟨je (jy (jy (JOk.top) (ldv rfl rfl)) (ldv rfl rfl)) (by kernel_rfl), ?_⟩
            refine Dx.one (i := 9) (by kernel_rfl) ?_
            refine Dstep.o0 (i := 9) rfl (st6 sz46 rfl rfl rfl rfl rfl rfl) (fun v B' H' hΦ hB => ?_)
            obtain ⟨rfl, rfl⟩ := hΦ; clear hB v
            refine ⟨jy (jy (je (JOk.top) (by kernel_rfl)) (ldv rfl rfl)) (ldv rfl rfl), ?_⟩
            refine Dx.one (i := 10) (by kernel_rfl) ?_
            refine Dstep.o0 (i := 10) rfl (st6 sz46 rfl rfl rfl rfl rfl rfl) (fun v B' H' hΦ hB => ?_)
            obtain ⟨rfl, rfl⟩ := hΦ; clear hB v
            refine ⟨jy (je (je (JOk.top) (by kernel_rfl)) (by kernel_rfl)) (ldv rfl rfl), ?_⟩
            refine Dx.one (i := 11) (by kernel_rfl) ?_
            refine Dstep.o0 (i := 11) rfl (st6 sz46 rfl rfl rfl rfl rfl rfl) (fun v B' H' hΦ hB => ?_)
            obtain ⟨rfl, rfl⟩ := hΦ; clear hB v
            refine ⟨je (je (je (JOk.top) (by kernel_rfl)) (by kernel_rfl)) (by kernel_rfl), ?_⟩
            refine Dx.done (by kernel_rfl) ?_
            exact Xx.mkK (mO hB2 hB3 hB4 hv2 hv3 hv4 rfl) (Sub.cons (s := 7) rfl (Sub.cons (s := 8) rfl (Sub.cons (s := 9) rfl (Sub.cons (s := 6) rfl (Sub.nil _)))))
          refine Dstep.o (i := 8) rfl (allocO ti46) rfl (fun v B' H' hΦ hB => ?_)
          obtain ⟨b9, rfl, rfl, rfl⟩ := hΦ; clear hB
          refine ⟨jy (jy (jy (JOk.top) (ldv rfl rfl)) (ldv rfl rfl)) (ldv rfl rfl), ?_⟩
          refine Dx.one (i := 3) (by kernel_rfl) ?_
          refine Dstep.o (i := 3) rfl (Ox.cb rfl rfl rfl (cut8 (ValR.mono hB2 hy))) rfl (fun v B' H' hΦ hB => ?_)
          obtain ⟨rfl, hΦ⟩ := hΦ
          obtain ⟨cs3, rfl, hv3⟩ := hΦ
          obtain ⟨Apcs3, cpcs3, Ancs3, cncs3, rfl⟩ := ValR.shape hv3
          have hB3 := hB
          refine ⟨jy (je (jy (JOk.top) (ldv rfl rfl)) (by kernel_rfl)) (ldv rfl rfl), ?_⟩
          refine Dx.one (i := 5) (by kernel_rfl) ?_
          refine Dstep.o (i := 5) rfl (Ox.cb rfl rfl rfl (cut8 (ValR.mono hB3 (ValR.mono hB2 hz)))) rfl (fun v B' H' hΦ hB => ?_)
          obtain ⟨rfl, hΦ⟩ := hΦ
          obtain ⟨cs4, rfl, hv4⟩ := hΦ
          obtain ⟨Apcs4, cpcs4, Ancs4, cncs4, rfl⟩ := ValR.shape hv4
          have hB4 := hB
          refine ⟨je (jy (jy (JOk.top) (ldv rfl rfl)) (ldv rfl rfl)) (by kernel_rfl), ?_⟩
          refine Dx.one (i := 9) (by kernel_rfl) ?_
          refine Dstep.o0 (i := 9) rfl (st6 sz46 rfl rfl rfl rfl rfl rfl) (fun v B' H' hΦ hB => ?_)
          obtain ⟨rfl, rfl⟩ := hΦ; clear hB v
          refine ⟨jy (jy (je (JOk.top) (by kernel_rfl)) (ldv rfl rfl)) (ldv rfl rfl), ?_⟩
          refine Dx.one (i := 10) (by kernel_rfl) ?_
          refine Dstep.o0 (i := 10) rfl (st6 sz46 rfl rfl rfl rfl rfl rfl) (fun v B' H' hΦ hB => ?_)
          obtain ⟨rfl, rfl⟩ := hΦ; clear hB v
          refine ⟨jy (je (je (JOk.top) (by kernel_rfl)) (by kernel_rfl)) (ldv rfl rfl), ?_⟩
          refine Dx.one (i := 11) (by kernel_rfl) ?_
          refine Dstep.o0 (i := 11) rfl (st6 sz46 rfl rfl rfl rfl rfl rfl) (fun v B' H' hΦ hB => ?_)
          obtain ⟨rfl, rfl⟩ := hΦ; clear hB v
          refine ⟨je (je (je (JOk.top) (by kernel_rfl)) (by kernel_rfl)) (by kernel_rfl), ?_⟩
          refine Dx.done (by kernel_rfl) ?_
          exact Xx.mkK (mO hB2 hB3 hB4 hv2 hv3 hv4 rfl) (Sub.cons (s := 7) rfl (Sub.cons (s := 8) rfl (Sub.cons (s := 9) rfl (Sub.cons (s := 6) rfl (Sub.nil _)))))
        refine Dstep.o (i := 8) rfl (allocO ti46) rfl (fun v B' H' hΦ hB => ?_)
        obtain ⟨b9, rfl, rfl, rfl⟩ := hΦ; clear hB
        refine ⟨jy (jy (jy (JOk.top) (ldv rfl rfl)) (ldv rfl rfl)) (ldv rfl rfl), ?_⟩
        refine Dx.one (i := 1) (by kernel_rfl) ?_
        refine Dstep.o (i := 1) rfl (Ox.cb rfl rfl rfl (cut8 (hx))) rfl (fun v B' H' hΦ hB => ?_)
        obtain ⟨rfl, hΦ⟩ := hΦ
        obtain ⟨cs2, rfl, hv2⟩ := hΦ
        obtain ⟨Apcs2, cpcs2, Ancs2, cncs2, rfl⟩ := ValR.shape hv2
        have hB2 := hB
        refine ⟨jy (jy (je (JOk.top) (by kernel_rfl)) (ldv rfl rfl)) (ldv rfl rfl), ?_⟩
        refine Dx.one (i := 3) (by kernel_rfl) ?_
        refine Dstep.o (i := 3) rfl (Ox.cb rfl rfl rfl (cut8 (ValR.mono hB2 hy))) rfl (fun v B' H' hΦ hB => ?_)
        obtain ⟨rfl, hΦ⟩ := hΦ
        obtain ⟨cs3, rfl, hv3⟩ := hΦ
        obtain ⟨Apcs3, cpcs3, Ancs3, cncs3, rfl⟩ := ValR.shape hv3
        have hB3 := hB
        refine ⟨jy (je (jy (JOk.top) (ldv rfl rfl)) (by kernel_rfl)) (ldv rfl rfl), ?_⟩
        refine Dx.one (i := 5) (by kernel_rfl) ?_
        refine Dstep.o (i := 5) rfl (Ox.cb rfl rfl rfl (cut8 (ValR.mono hB3 (ValR.mono hB2 hz)))) rfl (fun v B' H' hΦ hB => ?_)
        obtain ⟨rfl, hΦ⟩ := hΦ
        obtain ⟨cs4, rfl, hv4⟩ := hΦ
        obtain ⟨Apcs4, cpcs4, Ancs4, cncs4, rfl⟩ := ValR.shape hv4
        have hB4 := hB
        refine ⟨je (jy (jy (JOk.top) (ldv rfl rfl)) (ldv rfl rfl)) (by kernel_rfl), ?_⟩
        refine Dx.one (i := 9) (by kernel_rfl) ?_
        refine Dstep.o0 (i := 9) rfl (st6 sz46 rfl rfl rfl rfl rfl rfl) (fun v B' H' hΦ hB => ?_)
        obtain ⟨rfl, rfl⟩ := hΦ; clear hB v
        refine ⟨jy (jy (je (JOk.top) (by kernel_rfl)) (ldv rfl rfl)) (ldv rfl rfl), ?_⟩
        refine Dx.one (i := 10) (by kernel_rfl) ?_
        refine Dstep.o0 (i := 10) rfl (st6 sz46 rfl rfl rfl rfl rfl rfl) (fun v B' H' hΦ hB => ?_)
        obtain ⟨rfl, rfl⟩ := hΦ; clear hB v
        refine ⟨jy (je (je (JOk.top) (by kernel_rfl)) (by kernel_rfl)) (ldv rfl rfl), ?_⟩
        refine Dx.one (i := 11) (by kernel_rfl) ?_
        refine Dstep.o0 (i := 11) rfl (st6 sz46 rfl rfl rfl rfl rfl rfl) (fun v B' H' hΦ hB => ?_)
        obtain ⟨rfl, rfl⟩ := hΦ; clear hB v
        refine ⟨je (je (je (JOk.top) (by kernel_rfl)) (by kernel_rfl)) (by kernel_rfl), ?_⟩
        refine Dx.done (by kernel_rfl) ?_
        exact Xx.mkK (mO hB2 hB3 hB4 hv2 hv3 hv4 rfl) (Sub.cons (s := 7) rfl (Sub.cons (s := 8) rfl (Sub.cons (s := 9) rfl (Sub.cons (s := 6) rfl (Sub.nil _)))))
      refine Dstep.o (i := 8) rfl (allocO ti46) rfl (fun v B' H' hΦ hB => ?_)
      obtain ⟨b9, rfl, rfl, rfl⟩ := hΦ; clear hB
      refine ⟨jy (jy (jy (JOk.top) (ldv rfl rfl)) (ldv rfl rfl)) (ldv rfl rfl), ?_⟩
      refine Dx.two (i := 1) (j := 6) (by kernel_rfl) ?_ ?_
      · skip
        refine Dstep.o (i := 1) rfl (Ox.cb rfl rfl rfl (cut8 (hx))) rfl (fun v B' H' hΦ hB => ?_)
        obtain ⟨rfl, hΦ⟩ := hΦ
        obtain ⟨cs2, rfl, hv2⟩ := hΦ
        obtain ⟨Apcs2, cpcs2, Ancs2, cncs2, rfl⟩ := ValR.shape hv2
        have hB2 := hB
        refine ⟨jy (jy (je (JOk.top) (by kernel_rfl)) (ldv rfl rfl)) (ldv rfl rfl), ?_⟩
        refine Dx.two (i := 3) (j := 6) (by kernel_rfl) ?_ ?_
        · skip
          refine Dstep.o (i := 3) rfl (Ox.cb rfl rfl rfl (cut8 (ValR.mono hB2 hy))) rfl (fun v B' H' hΦ hB => ?_)
          obtain ⟨rfl, hΦ⟩ := hΦ
          obtain ⟨cs3, rfl, hv3⟩ := hΦ
          obtain ⟨Apcs3, cpcs3, Ancs3, cncs3, rfl⟩ := ValR.shape hv3
          have hB3 := hB
          refine ⟨jy (je (jy (JOk.top) (ldv rfl rfl)) (by kernel_rfl)) (ldv rfl rfl), ?_⟩
          refine Dx.two (i := 5) (j := 6) (by kernel_rfl) ?_ ?_
          · skip
            refine Dstep.o (i := 5) rfl (Ox.cb rfl rfl rfl (cut8 (ValR.mono hB3 (ValR.mono hB2 hz)))) rfl (fun v B' H' hΦ hB => ?_)
            obtain ⟨rfl, hΦ⟩ := hΦ
            obtain ⟨cs4, rfl, hv4⟩ := hΦ
            obtain ⟨Apcs4, cpcs4, Ancs4, cncs4, rfl⟩ := ValR.shape hv4
            have hB4 := hB
            refine ⟨je (jy (jy (JOk.top) (ldv rfl rfl)) (ldv rfl rfl)) (by kernel_rfl), ?_⟩
            refine Dx.one (i := 6) (by kernel_rfl) ?_
            refine Dstep.o (i := 6) rfl (allocO ti46) rfl (fun v B' H' hΦ hB => ?_)
            obtain ⟨b7, rfl, rfl, rfl⟩ := hΦ; clear hB
            refine ⟨jy (jy (jy (JOk.top) (ldv rfl rfl)) (ldv rfl rfl)) (ldv rfl rfl), ?_⟩
            refine Dx.one (i := 9) (by kernel_rfl) ?_
            refine Dstep.o0 (i := 9) rfl (st6 sz46 rfl rfl rfl rfl rfl rfl) (fun v B' H' hΦ hB => ?_)
            obtain ⟨rfl, rfl⟩ := hΦ; clear hB v
            refine ⟨jy (jy (je (JOk.top) (by kernel_rfl)) (ldv rfl rfl)) (ldv rfl rfl), ?_⟩
            refine Dx.one (i := 10) (by kernel_rfl) ?_
            refine Dstep.o0 (i := 10) rfl (st6 sz46 rfl rfl rfl rfl rfl rfl) (fun v B' H' hΦ hB => ?_)
            obtain ⟨rfl, rfl⟩ := hΦ; clear hB v
            refine ⟨jy (je (je (JOk.top) (by kernel_rfl)) (by kernel_rfl)) (ldv rfl rfl), ?_⟩
            refine Dx.one (i := 11) (by kernel_rfl) ?_
            refine Dstep.o0 (i := 11) rfl (st6 sz46 rfl rfl rfl rfl rfl rfl) (fun v B' H' hΦ hB => ?_)
            obtain ⟨rfl, rfl⟩ := hΦ; clear hB v
            refine ⟨je (je (je (JOk.top) (by kernel_rfl)) (by kernel_rfl)) (by kernel_rfl), ?_⟩
            refine Dx.done (by kernel_rfl) ?_
            exact Xx.mkK (mO hB2 hB3 hB4 hv2 hv3 hv4 rfl) (Sub.cons (s := 7) rfl (Sub.cons (s := 8) rfl (Sub.cons (s := 9) rfl (Sub.cons (s := 6) rfl (Sub.nil _)))))
          refine Dstep.o (i := 6) rfl (allocO ti46) rfl (fun v B' H' hΦ hB => ?_)
          obtain ⟨b7, rfl, rfl, rfl⟩ := hΦ; clear hB
          refine ⟨jy (jy (jy (JOk.top) (ldv rfl rfl)) (ldv rfl rfl)) (ldv rfl rfl), ?_⟩
          refine Dx.one (i := 5) (by kernel_rfl) ?_
          refine Dstep.o (i := 5) rfl (Ox.cb rfl rfl rfl (cut8 (ValR.mono hB3 (ValR.mono hB2 hz)))) rfl (fun v B' H' hΦ hB => ?_)
          obtain ⟨rfl, hΦ⟩ := hΦ
          obtain ⟨cs4, rfl, hv4⟩ := hΦ
          obtain ⟨Apcs4, cpcs4, Ancs4, cncs4, rfl⟩ := ValR.shape hv4
          have hB4 := hB
          refine ⟨je (jy (jy (JOk.top) (ldv rfl rfl)) (ldv rfl rfl)) (by kernel_rfl), ?_⟩
          refine Dx.one (i := 9) (by kernel_rfl) ?_
          refine Dstep.o0 (i := 9) rfl (st6 sz46 rfl rfl rfl rfl rfl rfl) (fun v B' H' hΦ hB => ?_)
          obtain ⟨rfl, rfl⟩ := hΦ; clear hB v
          refine ⟨jy (jy (je (JOk.top) (by kernel_rfl)) (ldv rfl rfl)) (ldv rfl rfl), ?_⟩
          refine Dx.one (i := 10) (by kernel_rfl) ?_
          refine Dstep.o0 (i := 10) rfl (st6 sz46 rfl rfl rfl rfl rfl rfl) (fun v B' H' hΦ hB => ?_)
          obtain ⟨rfl, rfl⟩ := hΦ; clear hB v
          refine ⟨jy (je (je (JOk.top) (by kernel_rfl)) (by kernel_rfl)) (ldv rfl rfl), ?_⟩
          refine Dx.one (i := 11) (by kernel_rfl) ?_
          refine Dstep.o0 (i := 11) rfl (st6 sz46 rfl rfl rfl rfl rfl rfl) (fun v B' H' hΦ hB => ?_)
          obtain ⟨rfl, rfl⟩ := hΦ; clear hB v
          refine ⟨je (je (je (JOk.top) (by kernel_rfl)) (by kernel_rfl)) (by kernel_rfl), ?_⟩
          refine Dx.done (by kernel_rfl) ?_
          exact Xx.mkK (mO hB2 hB3 hB4 hv2 hv3 hv4 rfl) (Sub.cons (s := 7) rfl (Sub.cons (s := 8) rfl (Sub.cons (s := 9) rfl (Sub.cons (s := 6) rfl (Sub.nil _)))))
        refine Dstep.o (i := 6) rfl (allocO ti46) rfl (fun v B' H' hΦ hB => ?_)
        obtain ⟨b7, rfl, rfl, rfl⟩ := hΦ; clear hB
        refine ⟨jy (jy (jy (JOk.top) (ldv rfl rfl)) (ldv rfl rfl)) (ldv rfl rfl), ?_⟩
        refine Dx.one (i := 3) (by kernel_rfl) ?_
        refine Dstep.o (i := 3) rfl (Ox.cb rfl rfl rfl (cut8 (ValR.mono hB2 hy))) rfl (fun v B' H' hΦ hB => ?_)
        obtain ⟨rfl, hΦ⟩ := hΦ
        obtain ⟨cs3, rfl, hv3⟩ := hΦ
        obtain ⟨Apcs3, cpcs3, Ancs3, cncs3, rfl⟩ := ValR.shape hv3
        have hB3 := hB
        refine ⟨jy (je (jy (JOk.top) (ldv rfl rfl)) (by kernel_rfl)) (ldv rfl rfl), ?_⟩
        refine Dx.one (i := 5) (by kernel_rfl) ?_
        refine Dstep.o (i := 5) rfl (Ox.cb rfl rfl rfl (cut8 (ValR.mono hB3 (ValR.mono hB2 hz)))) rfl (fun v B' H' hΦ hB => ?_)
        obtain ⟨rfl, hΦ⟩ := hΦ
        obtain ⟨cs4, rfl, hv4⟩ := hΦ
        obtain ⟨Apcs4, cpcs4, Ancs4, cncs4, rfl⟩ := ValR.shape hv4
        have hB4 := hB
        refine ⟨je (jy (jy (JOk.top) (ldv rfl rfl)) (ldv rfl rfl)) (by kernel_rfl), ?_⟩
        refine Dx.one (i := 9) (by kernel_rfl) ?_
        refine Dstep.o0 (i := 9) rfl (st6 sz46 rfl rfl rfl rfl rfl rfl) (fun v B' H' hΦ hB => ?_)
        obtain ⟨rfl, rfl⟩ := hΦ; clear hB v
        refine ⟨jy (jy (je (JOk.top) (by kernel_rfl)) (ldv rfl rfl)) (ldv rfl rfl), ?_⟩
        refine Dx.one (i := 10) (by kernel_rfl) ?_
        refine Dstep.o0 (i := 10) rfl (st6 sz46 rfl rfl rfl rfl rfl rfl) (fun v B' H' hΦ hB => ?_)
        obtain ⟨rfl, rfl⟩ := hΦ; clear hB v
        refine ⟨jy (je (je (JOk.top) (by kernel_rfl)) (by kernel_rfl)) (ldv rfl rfl), ?_⟩
        refine Dx.one (i := 11) (by kernel_rfl) ?_
        refine Dstep.o0 (i := 11) rfl (st6 sz46 rfl rfl rfl rfl rfl rfl) (fun v B' H' hΦ hB => ?_)
        obtain ⟨rfl, rfl⟩ := hΦ; clear hB v
        refine ⟨je (je (je (JOk.top) (by kernel_rfl)) (by kernel_rfl)) (by kernel_rfl), ?_⟩
        refine Dx.done (by kernel_rfl) ?_
        exact Xx.mkK (mO hB2 hB3 hB4 hv2 hv3 hv4 rfl) (Sub.cons (s := 7) rfl (Sub.cons (s := 8) rfl (Sub.cons (s := 9) rfl (Sub.cons (s := 6) rfl (Sub.nil _)))))
      refine Dstep.o (i := 6) rfl (allocO ti46) rfl (fun v B' H' hΦ hB => ?_)
      obtain ⟨b7, rfl, rfl, rfl⟩ := hΦ; clear hB
      refine ⟨jy (jy (jy (JOk.top) (ldv rfl rfl)) (ldv rfl rfl)) (ldv rfl rfl), ?_⟩
      refine Dx.one (i := 1) (by kernel_rfl) ?_
      refine Dstep.o (i := 1) rfl (Ox.cb rfl rfl rfl (cut8 (hx))) rfl (fun v B' H' hΦ hB => ?_)
      obtain ⟨rfl, hΦ⟩ := hΦ
      obtain ⟨cs2, rfl, hv2⟩ := hΦ
      obtain ⟨Apcs2, cpcs2, Ancs2, cncs2, rfl⟩ := ValR.shape hv2
      have hB2 := hB
      refine ⟨jy (jy (je (JOk.top) (by kernel_rfl)) (ldv rfl rfl)) (ldv rfl rfl), ?_⟩
      refine Dx.one (i := 3) (by kernel_rfl) ?_
      refine Dstep.o (i := 3) rfl (Ox.cb rfl rfl rfl (cut8 (ValR.mono hB2 hy))) rfl (fun v B' H' hΦ hB => ?_)
      obtain ⟨rfl, hΦ⟩ := hΦ
      obtain ⟨cs3, rfl, hv3⟩ := hΦ
      obtain ⟨Apcs3, cpcs3, Ancs3, cncs3, rfl⟩ := ValR.shape hv3
      have hB3 := hB
      refine ⟨jy (je (jy (JOk.top) (ldv rfl rfl)) (by kernel_rfl)) (ldv rfl rfl), ?_⟩
      refine Dx.one (i := 5) (by kernel_rfl) ?_
      refine Dstep.o (i := 5) rfl (Ox.cb rfl rfl rfl (cut8 (ValR.mono hB3 (ValR.mono hB2 hz)))) rfl (fun v B' H' hΦ hB => ?_)
      obtain ⟨rfl, hΦ⟩ := hΦ
      obtain ⟨cs4, rfl, hv4⟩ := hΦ
      obtain ⟨Apcs4, cpcs4, Ancs4, cncs4, rfl⟩ := ValR.shape hv4
      have hB4 := hB
      refine ⟨je (jy (jy (JOk.top) (ldv rfl rfl)) (ldv rfl rfl)) (by kernel_rfl), ?_⟩
      refine Dx.one (i := 9) (by kernel_rfl) ?_
      refine Dstep.o0 (i := 9) rfl (st6 sz46 rfl rfl rfl rfl rfl rfl) (fun v B' H' hΦ hB => ?_)
      obtain ⟨rfl, rfl⟩ := hΦ; clear hB v
      refine ⟨jy (jy (je (JOk.top) (by kernel_rfl)) (ldv rfl rfl)) (ldv rfl rfl), ?_⟩
      refine Dx.one (i := 10) (by kernel_rfl) ?_
      refine Dstep.o0 (i := 10) rfl (st6 sz46 rfl rfl rfl rfl rfl rfl) (fun v B' H' hΦ hB => ?_)
      obtain ⟨rfl, rfl⟩ := hΦ; clear hB v
      refine ⟨jy (je (je (JOk.top) (by kernel_rfl)) (by kernel_rfl)) (ldv rfl rfl), ?_⟩
      refine Dx.one (i := 11) (by kernel_rfl) ?_
      refine Dstep.o0 (i := 11) rfl (st6 sz46 rfl rfl rfl rfl rfl rfl) (fun v B' H' hΦ hB => ?_)
      obtain ⟨rfl, rfl⟩ := hΦ; clear hB v
      refine ⟨je (je (je (JOk.top) (by kernel_rfl)) (by kernel_rfl)) (by kernel_rfl), ?_⟩
      refine Dx.done (by kernel_rfl) ?_
      exact Xx.mkK (mO hB2 hB3 hB4 hv2 hv3 hv4 rfl) (Sub.cons (s := 7) rfl (Sub.cons (s := 8) rfl (Sub.cons (s := 9) rfl (Sub.cons (s := 6) rfl (Sub.nil _)))))
    refine Dstep.o (i := 8) rfl (allocO ti46) rfl (fun v B' H' hΦ hB => ?_)
    obtain ⟨b9, rfl, rfl, rfl⟩ := hΦ; clear hB
    refine ⟨jy (jy (jy (JOk.top) (ldv rfl rfl)) (ldv rfl rfl)) (ldv rfl rfl), ?_⟩
    refine Dx.three (i := 1) (j := 6) (l := 7) (by kernel_rfl) ?_ ?_ ?_
    · skip
      refine Dstep.o (i := 1) rfl (Ox.cb rfl rfl rfl (cut8 (hx))) rfl (fun v B' H' hΦ hB => ?_)
      obtain ⟨rfl, hΦ⟩ := hΦ
      obtain ⟨cs2, rfl, hv2⟩ := hΦ
      obtain ⟨Apcs2, cpcs2, Ancs2, cncs2, rfl⟩ := ValR.shape hv2
      have hB2 := hB
      refine ⟨jy (jy (je (JOk.top) (by kernel_rfl)) (ldv rfl rfl)) (ldv rfl rfl), ?_⟩
      refine Dx.three (i := 3) (j := 6) (l := 7) (by kernel_rfl) ?_ ?_ ?_
      · skip
        refine Dstep.o (i := 3) rfl (Ox.cb rfl rfl rfl (cut8 (ValR.mono hB2 hy))) rfl (fun v B' H' hΦ hB => ?_)
        obtain ⟨rfl, hΦ⟩ := hΦ
        obtain ⟨cs3, rfl, hv3⟩ := hΦ
        obtain ⟨Apcs3, cpcs3, Ancs3, cncs3, rfl⟩ := ValR.shape hv3
        have hB3 := hB
        refine ⟨jy (je (jy (JOk.top) (ldv rfl rfl)) (by kernel_rfl)) (ldv rfl rfl), ?_⟩
        refine Dx.three (i := 5) (j := 6) (l := 7) (by kernel_rfl) ?_ ?_ ?_
        · skip
          refine Dstep.o (i := 5) rfl (Ox.cb rfl rfl rfl (cut8 (ValR.mono hB3 (ValR.mono hB2 hz)))) rfl (fun v B' H' hΦ hB => ?_)
          obtain ⟨rfl, hΦ⟩ := hΦ
          obtain ⟨cs4, rfl, hv4⟩ := hΦ
          obtain ⟨Apcs4, cpcs4, Ancs4, cncs4, rfl⟩ := ValR.shape hv4
          have hB4 := hB
          refine ⟨je (jy (jy (JOk.top) (ldv rfl rfl)) (ldv rfl rfl)) (by kernel_rfl), ?_⟩
          refine Dx.two (i := 6) (j := 7) (by kernel_rfl) ?_ ?_
          · skip
            refine Dstep.o (i := 6) rfl (allocO ti46) rfl (fun v B' H' hΦ hB => ?_)
            obtain ⟨b7, rfl, rfl, rfl⟩ := hΦ; clear hB
            refine ⟨jy (jy (jy (JOk.top) (ldv rfl rfl)) (ldv rfl rfl)) (ldv rfl rfl), ?_⟩
            refine Dx.one (i := 7) (by kernel_rfl) ?_
            refine Dstep.o (i := 7) rfl (allocO ti46) rfl (fun v B' H' hΦ hB => ?_)
            obtain ⟨b8, rfl, rfl, rfl⟩ := hΦ; clear hB
            refine ⟨jy (jy (jy (JOk.top) (ldv rfl rfl)) (ldv rfl rfl)) (ldv rfl rfl), ?_⟩
            refine Dx.one (i := 9) (by kernel_rfl) ?_
            refine Dstep.o0 (i := 9) rfl (st6 sz46 rfl rfl rfl rfl rfl rfl) (fun v B' H' hΦ hB => ?_)
            obtain ⟨rfl, rfl⟩ := hΦ; clear hB v
            refine ⟨jy (jy (je (JOk.top) (by kernel_rfl)) (ldv rfl rfl)) (ldv rfl rfl), ?_⟩
            refine Dx.one (i := 10) (by kernel_rfl) ?_
            refine Dstep.o0 (i := 10) rfl (st6 sz46 rfl rfl rfl rfl rfl rfl) (fun v B' H' hΦ hB => ?_)
            obtain ⟨rfl, rfl⟩ := hΦ; clear hB v
            refine ⟨jy (je (je (JOk.top) (by kernel_rfl)) (by kernel_rfl)) (ldv rfl rfl), ?_⟩
            refine Dx.one (i := 11) (by kernel_rfl) ?_
            refine Dstep.o0 (i := 11) rfl (st6 sz46 rfl rfl rfl rfl rfl rfl) (fun v B' H' hΦ hB => ?_)
            obtain ⟨rfl, rfl⟩ := hΦ; clear hB v
            refine ⟨je (je (je (JOk.top) (by kernel_rfl)) (by kernel_rfl)) (by kernel_rfl), ?_⟩
            refine Dx.done (by kernel_rfl) ?_
            exact Xx.mkK (mO hB2 hB3 hB4 hv2 hv3 hv4 rfl) (Sub.cons (s := 7) rfl (Sub.cons (s := 8) rfl (Sub.cons (s := 9) rfl (Sub.cons (s := 6) rfl (Sub.nil _)))))
          refine Dstep.o (i := 7) rfl (allocO ti46) rfl (fun v B' H' hΦ hB => ?_)
          obtain ⟨b8, rfl, rfl, rfl⟩ := hΦ; clear hB
          refine ⟨jy (jy (jy (JOk.top) (ldv rfl rfl)) (ldv rfl rfl)) (ldv rfl rfl), ?_⟩
          refine Dx.one (i := 6) (by kernel_rfl) ?_
          refine Dstep.o (i := 6) rfl (allocO ti46) rfl (fun v B' H' hΦ hB => ?_)
          obtain ⟨b7, rfl, rfl, rfl⟩ := hΦ; clear hB
          refine ⟨jy (jy (jy (JOk.top) (ldv rfl rfl)) (ldv rfl rfl)) (ldv rfl rfl), ?_⟩
          refine Dx.one (i := 9) (by kernel_rfl) ?_
          refine Dstep.o0 (i := 9) rfl (st6 sz46 rfl rfl rfl rfl rfl rfl) (fun v B' H' hΦ hB => ?_)
          obtain ⟨rfl, rfl⟩ := hΦ; clear hB v
          refine ⟨jy (jy (je (JOk.top) (by kernel_rfl)) (ldv rfl rfl)) (ldv rfl rfl), ?_⟩
          refine Dx.one (i := 10) (by kernel_rfl) ?_
          refine Dstep.o0 (i := 10) rfl (st6 sz46 rfl rfl rfl rfl rfl rfl) (fun v B' H' hΦ hB => ?_)
          obtain ⟨rfl, rfl⟩ := hΦ; clear hB v
          refine ⟨jy (je (je (JOk.top) (by kernel_rfl)) (by kernel_rfl)) (ldv rfl rfl), ?_⟩
          refine Dx.one (i := 11) (by kernel_rfl) ?_
          refine Dstep.o0 (i := 11) rfl (st6 sz46 rfl rfl rfl rfl rfl rfl) (fun v B' H' hΦ hB => ?_)
          obtain ⟨rfl, rfl⟩ := hΦ; clear hB v
          refine ⟨je (je (je (JOk.top) (by kernel_rfl)) (by kernel_rfl)) (by kernel_rfl), ?_⟩
          refine Dx.done (by kernel_rfl) ?_
          exact Xx.mkK (mO hB2 hB3 hB4 hv2 hv3 hv4 rfl) (Sub.cons (s := 7) rfl (Sub.cons (s := 8) rfl (Sub.cons (s := 9) rfl (Sub.cons (s := 6) rfl (Sub.nil _)))))
        · skip
          refine Dstep.o (i := 6) rfl (allocO ti46) rfl (fun v B' H' hΦ hB => ?_)
          obtain ⟨b7, rfl, rfl, rfl⟩ := hΦ; clear hB
          refine ⟨jy (jy (jy (JOk.top) (ldv rfl rfl)) (ldv rfl rfl)) (ldv rfl rfl), ?_⟩
          refine Dx.two (i := 5) (j := 7) (by kernel_rfl) ?_ ?_
          · skip
            refine Dstep.o (i := 5) rfl (Ox.cb rfl rfl rfl (cut8 (ValR.mono hB3 (ValR.mono hB2 hz)))) rfl (fun v B' H' hΦ hB => ?_)
            obtain ⟨rfl, hΦ⟩ := hΦ
            obtain ⟨cs4, rfl, hv4⟩ := hΦ
            obtain ⟨Apcs4, cpcs4, Ancs4, cncs4, rfl⟩ := ValR.shape hv4
            have hB4 := hB
            refine ⟨je (jy (jy (JOk.top) (ldv rfl rfl)) (ldv rfl rfl)) (by kernel_rfl), ?_⟩
            refine Dx.one (i := 7) (by kernel_rfl) ?_
            refine Dstep.o (i := 7) rfl (allocO ti46) rfl (fun v B' H' hΦ hB => ?_)
            obtain ⟨b8, rfl, rfl, rfl⟩ := hΦ; clear hB
            refine ⟨jy (jy (jy (JOk.top) (ldv rfl rfl)) (ldv rfl rfl)) (ldv rfl rfl), ?_⟩
            refine Dx.one (i := 9) (by kernel_rfl) ?_
            refine Dstep.o0 (i := 9) rfl (st6 sz46 rfl rfl rfl rfl rfl rfl) (fun v B' H' hΦ hB => ?_)
            obtain ⟨rfl, rfl⟩ := hΦ; clear hB v
            refine ⟨jy (jy (je (JOk.top) (by kernel_rfl)) (ldv rfl rfl)) (ldv rfl rfl), ?_⟩
            refine Dx.one (i := 10) (by kernel_rfl) ?_
            refine Dstep.o0 (i := 10) rfl (st6 sz46 rfl rfl rfl rfl rfl rfl) (fun v B' H' hΦ hB => ?_)
            obtain ⟨rfl, rfl⟩ := hΦ; clear hB v
            refine ⟨jy (je (je (JOk.top) (by kernel_rfl)) (by kernel_rfl)) (ldv rfl rfl), ?_⟩
            refine Dx.one (i := 11) (by kernel_rfl) ?_
            refine Dstep.o0 (i := 11) rfl (st6 sz46 rfl rfl rfl rfl rfl rfl) (fun v B' H' hΦ hB => ?_)
            obtain ⟨rfl, rfl⟩ := hΦ; clear hB v
            refine ⟨je (je (je (JOk.top) (by kernel_rfl)) (by kernel_rfl)) (by kernel_rfl), ?_⟩
            refine Dx.done (by kernel_rfl) ?_
            exact Xx.mkK (mO hB2 hB3 hB4 hv2 hv3 hv4 rfl) (Sub.cons (s := 7) rfl (Sub.cons (s := 8) rfl (Sub.cons (s := 9) rfl (Sub.cons (s := 6) rfl (Sub.nil _)))))
          refine Dstep.o (i := 7) rfl (allocO ti46) rfl (fun v B' H' hΦ hB => ?_)
          obtain ⟨b8, rfl, rfl, rfl⟩ := hΦ; clear hB
          refine ⟨jy (jy (jy (JOk.top) (ldv rfl rfl)) (ldv rfl rfl)) (ldv rfl rfl), ?_⟩
          refine Dx.one (i := 5) (by kernel_rfl) ?_
          refine Dstep.o (i := 5) rfl (Ox.cb rfl rfl rfl (cut8 (ValR.mono hB3 (ValR.mono hB2 hz)))) rfl (fun v B' H' hΦ hB => ?_)
          obtain ⟨rfl, hΦ⟩ := hΦ
          obtain ⟨cs4, rfl, hv4⟩ := hΦ
          obtain ⟨Apcs4, cpcs4, Ancs4, cncs4, rfl⟩ := ValR.shape hv4
          have hB4 := hB
          refine ⟨je (jy (jy (JOk.top) (ldv rfl rfl)) (ldv rfl rfl)) (by kernel_rfl), ?_⟩
          refine Dx.one (i := 9) (by kernel_rfl) ?_
          refine Dstep.o0 (i := 9) rfl (st6 sz46 rfl rfl rfl rfl rfl rfl) (fun v B' H' hΦ hB => ?_)
          obtain ⟨rfl, rfl⟩ := hΦ; clear hB v
          refine ⟨jy (jy (je (JOk.top) (by kernel_rfl)) (ldv rfl rfl)) (ldv rfl rfl), ?_⟩
          refine Dx.one (i := 10) (by kernel_rfl) ?_
          refine Dstep.o0 (i := 10) rfl (st6 sz46 rfl rfl rfl rfl rfl rfl) (fun v B' H' hΦ hB => ?_)
          obtain ⟨rfl, rfl⟩ := hΦ; clear hB v
          refine ⟨jy (je (je (JOk.top) (by kernel_rfl)) (by kernel_rfl)) (ldv rfl rfl), ?_⟩
          refine Dx.one (i := 11) (by kernel_rfl) ?_
          refine Dstep.o0 (i := 11) rfl (st6 sz46 rfl rfl rfl rfl rfl rfl) (fun v B' H' hΦ hB => ?_)
          obtain ⟨rfl, rfl⟩ := hΦ; clear hB v
          refine ⟨je (je (je (JOk.top) (by kernel_rfl)) (by kernel_rfl)) (by kernel_rfl), ?_⟩
          refine Dx.done (by kernel_rfl) ?_
          exact Xx.mkK (mO hB2 hB3 hB4 hv2 hv3 hv4 rfl) (Sub.cons (s := 7) rfl (Sub.cons (s := 8) rfl (Sub.cons (s := 9) rfl (Sub.cons (s := 6) rfl (Sub.nil _)))))
        refine Dstep.o (i := 7) rfl (allocO ti46) rfl (fun v B' H' hΦ hB => ?_)
        obtain ⟨b8, rfl, rfl, rfl⟩ := hΦ; clear hB
        refine ⟨jy (jy (jy (JOk.top) (ldv rfl rfl)) (ldv rfl rfl)) (ldv rfl rfl), ?_⟩
        refine Dx.two (i := 5) (j := 6) (by kernel_rfl) ?_ ?_
        · skip
          refine Dstep.o (i := 5) rfl (Ox.cb rfl rfl rfl (cut8 (ValR.mono hB3 (ValR.mono hB2 hz)))) rfl (fun v B' H' hΦ hB => ?_)
          obtain ⟨rfl, hΦ⟩ := hΦ
          obtain ⟨cs4, rfl, hv4⟩ := hΦ
          obtain ⟨Apcs4, cpcs4, Ancs4, cncs4, rfl⟩ := ValR.shape hv4
          have hB4 := hB
          refine ⟨je (jy (jy (JOk.top) (ldv rfl rfl)) (ldv rfl rfl)) (by kernel_rfl), ?_⟩
          refine Dx.one (i := 6) (by kernel_rfl) ?_
          refine Dstep.o (i := 6) rfl (allocO ti46) rfl (fun v B' H' hΦ hB => ?_)
          obtain ⟨b7, rfl, rfl, rfl⟩ := hΦ; clear hB
          refine ⟨jy (jy (jy (JOk.top) (ldv rfl rfl)) (ldv rfl rfl)) (ldv rfl rfl), ?_⟩
          refine Dx.one (i := 9) (by kernel_rfl) ?_
          refine Dstep.o0 (i := 9) rfl (st6 sz46 rfl rfl rfl rfl rfl rfl) (fun v B' H' hΦ hB => ?_)
          obtain ⟨rfl, rfl⟩ := hΦ; clear hB v
          refine ⟨jy (jy (je (JOk.top) (by kernel_rfl)) (ldv rfl rfl)) (ldv rfl rfl), ?_⟩
          refine Dx.one (i := 10) (by kernel_rfl) ?_
          refine Dstep.o0 (i := 10) rfl (st6 sz46 rfl rfl rfl rfl rfl rfl) (fun v B' H' hΦ hB => ?_)
          obtain ⟨rfl, rfl⟩ := hΦ; clear hB v
          refine ⟨jy (je (je (JOk.top) (by kernel_rfl)) (by kernel_rfl)) (ldv rfl rfl), ?_⟩
          refine Dx.one (i := 11) (by kernel_rfl) ?_
          refine Dstep.o0 (i := 11) rfl (st6 sz46 rfl rfl rfl rfl rfl rfl) (fun v B' H' hΦ hB => ?_)
          obtain ⟨rfl, rfl⟩ := hΦ; clear hB v
          refine ⟨je (je (je (JOk.top) (by kernel_rfl)) (by kernel_rfl)) (by kernel_rfl), ?_⟩
          refine Dx.done (by kernel_rfl) ?_
          exact Xx.mkK (mO hB2 hB3 hB4 hv2 hv3 hv4 rfl) (Sub.cons (s := 7) rfl (Sub.cons (s := 8) rfl (Sub.cons (s := 9) rfl (Sub.cons (s := 6) rfl (Sub.nil _)))))
        refine Dstep.o (i := 6) rfl (allocO ti46) rfl (fun v B' H' hΦ hB => ?_)
        obtain ⟨b7, rfl, rfl, rfl⟩ := hΦ; clear hB
        refine ⟨jy (jy (jy (JOk.top) (ldv rfl rfl)) (ldv rfl rfl)) (ldv rfl rfl), ?_⟩
        refine Dx.one (i := 5) (by kernel_rfl) ?_
        refine Dstep.o (i := 5) rfl (Ox.cb rfl rfl rfl (cut8 (ValR.mono hB3 (ValR.mono hB2 hz)))) rfl (fun v B' H' hΦ hB => ?_)
        obtain ⟨rfl, hΦ⟩ := hΦ
        obtain ⟨cs4, rfl, hv4⟩ := hΦ
        obtain ⟨Apcs4, cpcs4, Ancs4, cncs4, rfl⟩ := ValR.shape hv4
        have hB4 := hB
        refine ⟨je (jy (jy (JOk.top) (ldv rfl rfl)) (ldv rfl rfl)) (by kernel_rfl), ?_⟩
        refine Dx.one (i := 9) (by kernel_rfl) ?_
        refine Dstep.o0 (i := 9) rfl (st6 sz46 rfl rfl rfl rfl rfl rfl) (fun v B' H' hΦ hB => ?_)
        obtain ⟨rfl, rfl⟩ := hΦ; clear hB v
        refine ⟨jy (jy (je (JOk.top) (by kernel_rfl)) (ldv rfl rfl)) (ldv rfl rfl), ?_⟩
        refine Dx.one (i := 10) (by kernel_rfl) ?_
        refine Dstep.o0 (i := 10) rfl (st6 sz46 rfl rfl rfl rfl rfl rfl) (fun v B' H' hΦ hB => ?_)
        obtain ⟨rfl, rfl⟩ := hΦ; clear hB v
        refine ⟨jy (je (je (JOk.top) (by kernel_rfl)) (by kernel_rfl)) (ldv rfl rfl), ?_⟩
        refine Dx.one (i := 11) (by kernel_rfl) ?_
        refine Dstep.o0 (i := 11) rfl (st6 sz46 rfl rfl rfl rfl rfl rfl) (fun v B' H' hΦ hB => ?_)
        obtain ⟨rfl, rfl⟩ := hΦ; clear hB v
        refine ⟨je (je (je (JOk.top) (by kernel_rfl)) (by kernel_rfl)) (by kernel_rfl), ?_⟩
        refine Dx.done (by kernel_rfl) ?_
        exact Xx.mkK (mO hB2 hB3 hB4 hv2 hv3 hv4 rfl) (Sub.cons (s := 7) rfl (Sub.cons (s := 8) rfl (Sub.cons (s := 9) rfl (Sub.cons (s := 6) rfl (Sub.nil _)))))
      · skip
        refine Dstep.o (i := 6) rfl (allocO ti46) rfl (fun v B' H' hΦ hB => ?_)
        obtain ⟨b7, rfl, rfl, rfl⟩ := hΦ; clear hB
        refine ⟨jy (jy (jy (JOk.top) (ldv rfl rfl)) (ldv rfl rfl)) (ldv rfl rfl), ?_⟩
        refine Dx.two (i := 3) (j := 7) (by kernel_rfl) ?_ ?_
        · skip
          refine Dstep.o (i := 3) rfl (Ox.cb rfl rfl rfl (cut8 (ValR.mono hB2 hy))) rfl (fun v B' H' hΦ hB => ?_)
          obtain ⟨rfl, hΦ⟩ := hΦ
          obtain ⟨cs3, rfl, hv3⟩ := hΦ
          obtain ⟨Apcs3, cpcs3, Ancs3, cncs3, rfl⟩ := ValR.shape hv3
          have hB3 := hB
          refine ⟨jy (je (jy (JOk.top) (ldv rfl rfl)) (by kernel_rfl)) (ldv rfl rfl), ?_⟩
          refine Dx.two (i := 5) (j := 7) (by kernel_rfl) ?_ ?_
          · skip
            refine Dstep.o (i := 5) rfl (Ox.cb rfl rfl rfl (cut8 (ValR.mono hB3 (ValR.mono hB2 hz)))) rfl (fun v B' H' hΦ hB => ?_)
            obtain ⟨rfl, hΦ⟩ := hΦ
            obtain ⟨cs4, rfl, hv4⟩ := hΦ
            obtain ⟨Apcs4, cpcs4, Ancs4, cncs4, rfl⟩ := ValR.shape hv4
            have hB4 := hB
            refine ⟨je (jy (jy (JOk.top) (ldv rfl rfl)) (ldv rfl rfl)) (by kernel_rfl), ?_⟩
            refine Dx.one (i := 7) (by kernel_rfl) ?_
            refine Dstep.o (i := 7) rfl (allocO ti46) rfl (fun v B' H' hΦ hB => ?_)
            obtain ⟨b8, rfl, rfl, rfl⟩ := hΦ; clear hB
            refine ⟨jy (jy (jy (JOk.top) (ldv rfl rfl)) (ldv rfl rfl)) (ldv rfl rfl), ?_⟩
            refine Dx.one (i := 9) (by kernel_rfl) ?_
            refine Dstep.o0 (i := 9) rfl (st6 sz46 rfl rfl rfl rfl rfl rfl) (fun v B' H' hΦ hB => ?_)
            obtain ⟨rfl, rfl⟩ := hΦ; clear hB v
            refine ⟨jy (jy (je (JOk.top) (by kernel_rfl)) (ldv rfl rfl)) (ldv rfl rfl), ?_⟩
            refine Dx.one (i := 10) (by kernel_rfl) ?_
            refine Dstep.o0 (i := 10) rfl (st6 sz46 rfl rfl rfl rfl rfl rfl) (fun v B' H' hΦ hB => ?_)
            obtain ⟨rfl, rfl⟩ := hΦ; clear hB v
            refine ⟨jy (je (je (JOk.top) (by kernel_rfl)) (by kernel_rfl)) (ldv rfl rfl), ?_⟩
            refine Dx.one (i := 11) (by kernel_rfl) ?_
            refine Dstep.o0 (i := 11) rfl (st6 sz46 rfl rfl rfl rfl rfl rfl) (fun v B' H' hΦ hB => ?_)
            obtain ⟨rfl, rfl⟩ := hΦ; clear hB v
            refine ⟨je (je (je (JOk.top) (by kernel_rfl)) (by kernel_rfl)) (by kernel_rfl), ?_⟩
            refine Dx.done (by kernel_rfl) ?_
            exact Xx.mkK (mO hB2 hB3 hB4 hv2 hv3 hv4 rfl) (Sub.cons (s := 7) rfl (Sub.cons (s := 8) rfl (Sub.cons (s := 9) rfl (Sub.cons (s := 6) rfl (Sub.nil _)))))
          refine Dstep.o (i := 7) rfl (allocO ti46) rfl (fun v B' H' hΦ hB => ?_)
          obtain ⟨b8, rfl, rfl, rfl⟩ := hΦ; clear hB
          refine ⟨jy (jy (jy (JOk.top) (ldv rfl rfl)) (ldv rfl rfl)) (ldv rfl rfl), ?_⟩
          refine Dx.one (i := 5) (by kernel_rfl) ?_
          refine Dstep.o (i := 5) rfl (Ox.cb rfl rfl rfl (cut8 (ValR.mono hB3 (ValR.mono hB2 hz)))) rfl (fun v B' H' hΦ hB => ?_)
          obtain ⟨rfl, hΦ⟩ := hΦ
          obtain ⟨cs4, rfl, hv4⟩ := hΦ
          obtain ⟨Apcs4, cpcs4, Ancs4, cncs4, rfl⟩ := ValR.shape hv4
          have hB4 := hB
          refine ⟨je (jy (jy (JOk.top) (ldv rfl rfl)) (ldv rfl rfl)) (by kernel_rfl), ?_⟩
          refine Dx.one (i := 9) (by kernel_rfl) ?_
          refine Dstep.o0 (i := 9) rfl (st6 sz46 rfl rfl rfl rfl rfl rfl) (fun v B' H' hΦ hB => ?_)
          obtain ⟨rfl, rfl⟩ := hΦ; clear hB v
          refine ⟨jy (jy (je (JOk.top) (by kernel_rfl)) (ldv rfl rfl)) (ldv rfl rfl), ?_⟩
          refine Dx.one (i := 10) (by kernel_rfl) ?_
          refine Dstep.o0 (i := 10) rfl (st6 sz46 rfl rfl rfl rfl rfl rfl) (fun v B' H' hΦ hB => ?_)
          obtain ⟨rfl, rfl⟩ := hΦ; clear hB v
          refine ⟨jy (je (je (JOk.top) (by kernel_rfl)) (by kernel_rfl)) (ldv rfl rfl), ?_⟩
          refine Dx.one (i := 11) (by kernel_rfl) ?_
          refine Dstep.o0 (i := 11) rfl (st6 sz46 rfl rfl rfl rfl rfl rfl) (fun v B' H' hΦ hB => ?_)
          obtain ⟨rfl, rfl⟩ := hΦ; clear hB v
          refine ⟨je (je (je (JOk.top) (by kernel_rfl)) (by kernel_rfl)) (by kernel_rfl), ?_⟩
          refine Dx.done (by kernel_rfl) ?_
          exact Xx.mkK (mO hB2 hB3 hB4 hv2 hv3 hv4 rfl) (Sub.cons (s := 7) rfl (Sub.cons (s := 8) rfl (Sub.cons (s := 9) rfl (Sub.cons (s := 6) rfl (Sub.nil _)))))
        refine Dstep.o (i := 7) rfl (allocO ti46) rfl (fun v B' H' hΦ hB => ?_)
        obtain ⟨b8, rfl, rfl, rfl⟩ := hΦ; clear hB
        refine ⟨jy (jy (jy (JOk.top) (ldv rfl rfl)) (ldv rfl rfl)) (ldv rfl rfl), ?_⟩
        refine Dx.one (i := 3) (by kernel_rfl) ?_
        refine Dstep.o (i := 3) rfl (Ox.cb rfl rfl rfl (cut8 (ValR.mono hB2 hy))) rfl (fun v B' H' hΦ hB => ?_)
        obtain ⟨rfl, hΦ⟩ := hΦ
        obtain ⟨cs3, rfl, hv3⟩ := hΦ
        obtain ⟨Apcs3, cpcs3, Ancs3, cncs3, rfl⟩ := ValR.shape hv3
        have hB3 := hB
        refine ⟨jy (je (jy (JOk.top) (ldv rfl rfl)) (by kernel_rfl)) (ldv rfl rfl), ?_⟩
        refine Dx.one (i := 5) (by kernel_rfl) ?_
        refine Dstep.o (i := 5) rfl (Ox.cb rfl rfl rfl (cut8 (ValR.mono hB3 (ValR.mono hB2 hz)))) rfl (fun v B' H' hΦ hB => ?_)
        obtain ⟨rfl, hΦ⟩ := hΦ
        obtain ⟨cs4, rfl, hv4⟩ := hΦ
        obtain ⟨Apcs4, cpcs4, Ancs4, cncs4, rfl⟩ := ValR.shape hv4
        have hB4 := hB
        refine ⟨je (jy (jy (JOk.top) (ldv rfl rfl)) (ldv rfl rfl)) (by kernel_rfl), ?_⟩
        refine Dx.one (i := 9) (by kernel_rfl) ?_
        refine Dstep.o0 (i := 9) rfl (st6 sz46 rfl rfl rfl rfl rfl rfl) (fun v B' H' hΦ hB => ?_)
        obtain ⟨rfl, rfl⟩ := hΦ; clear hB v
        refine ⟨jy (jy (je (JOk.top) (by kernel_rfl)) (ldv rfl rfl)) (ldv rfl rfl), ?_⟩
        refine Dx.one (i := 10) (by kernel_rfl) ?_
        refine Dstep.o0 (i := 10) rfl (st6 sz46 rfl rfl rfl rfl rfl rfl) (fun v B' H' hΦ hB => ?_)
        obtain ⟨rfl, rfl⟩ := hΦ; clear hB v
        refine ⟨jy (je (je (JOk.top) (by kernel_rfl)) (by kernel_rfl)) (ldv rfl rfl), ?_⟩
        refine Dx.one (i := 11) (by kernel_rfl) ?_
        refine Dstep.o0 (i := 11) rfl (st6 sz46 rfl rfl rfl rfl rfl rfl) (fun v B' H' hΦ hB => ?_)
        obtain ⟨rfl, rfl⟩ := hΦ; clear hB v
        refine ⟨je (je (je (JOk.top) (by kernel_rfl)) (by kernel_rfl)) (by kernel_rfl), ?_⟩
        refine Dx.done (by kernel_rfl) ?_
        exact Xx.mkK (mO hB2 hB3 hB4 hv2 hv3 hv4 rfl) (Sub.cons (s := 7) rfl (Sub.cons (s := 8) rfl (Sub.cons (s := 9) rfl (Sub.cons (s := 6) rfl (Sub.nil _)))))
      refine Dstep.o (i := 7) rfl (allocO ti46) rfl (fun v B' H' hΦ hB => ?_)
      obtain ⟨b8, rfl, rfl, rfl⟩ := hΦ; clear hB
      refine ⟨jy (jy (jy (JOk.top) (ldv rfl rfl)) (ldv rfl rfl)) (ldv rfl rfl), ?_⟩
      refine Dx.two (i := 3) (j := 6) (by kernel_rfl) ?_ ?_
      · skip
        refine Dstep.o (i := 3) rfl (Ox.cb rfl rfl rfl (cut8 (ValR.mono hB2 hy))) rfl (fun v B' H' hΦ hB => ?_)
        obtain ⟨rfl, hΦ⟩ := hΦ
        obtain ⟨cs3, rfl, hv3⟩ := hΦ
        obtain ⟨Apcs3, cpcs3, Ancs3, cncs3, rfl⟩ := ValR.shape hv3
        have hB3 := hB
        refine ⟨jy (je (jy (JOk.top) (ldv rfl rfl)) (by kernel_rfl)) (ldv rfl rfl), ?_⟩
        refine Dx.two (i := 5) (j := 6) (by kernel_rfl) ?_ ?_
        · skip
          refine Dstep.o (i := 5) rfl (Ox.cb rfl rfl rfl (cut8 (ValR.mono hB3 (ValR.mono hB2 hz)))) rfl (fun v B' H' hΦ hB => ?_)
          obtain ⟨rfl, hΦ⟩ := hΦ
          obtain ⟨cs4, rfl, hv4⟩ := hΦ
          obtain ⟨Apcs4, cpcs4, Ancs4, cncs4, rfl⟩ := ValR.shape hv4
          have hB4 := hB
          refine ⟨je (jy (jy (JOk.top) (ldv rfl rfl)) (ldv rfl rfl)) (by kernel_rfl), ?_⟩
          refine Dx.one (i := 6) (by kernel_rfl) ?_
          refine Dstep.o (i := 6) rfl (allocO ti46) rfl (fun v B' H' hΦ hB => ?_)
          obtain ⟨b7, rfl, rfl, rfl⟩ := hΦ; clear hB
          refine ⟨jy (jy (jy (JOk.top) (ldv rfl rfl)) (ldv rfl rfl)) (ldv rfl rfl), ?_⟩
          refine Dx.one (i := 9) (by kernel_rfl) ?_
          refine Dstep.o0 (i := 9) rfl (st6 sz46 rfl rfl rfl rfl rfl rfl) (fun v B' H' hΦ hB => ?_)
          obtain ⟨rfl, rfl⟩ := hΦ; clear hB v
          refine ⟨jy (jy (je (JOk.top) (by kernel_rfl)) (ldv rfl rfl)) (ldv rfl rfl), ?_⟩
          refine Dx.one (i := 10) (by kernel_rfl) ?_
          refine Dstep.o0 (i := 10) rfl (st6 sz46 rfl rfl rfl rfl rfl rfl) (fun v B' H' hΦ hB => ?_)
          obtain ⟨rfl, rfl⟩ := hΦ; clear hB v
          refine ⟨jy (je (je (JOk.top) (by kernel_rfl)) (by kernel_rfl)) (ldv rfl rfl), ?_⟩
          refine Dx.one (i := 11) (by kernel_rfl) ?_
          refine Dstep.o0 (i := 11) rfl (st6 sz46 rfl rfl rfl rfl rfl rfl) (fun v B' H' hΦ hB => ?_)
          obtain ⟨rfl, rfl⟩ := hΦ; clear hB v
          refine ⟨je (je (je (JOk.top) (by kernel_rfl)) (by kernel_rfl)) (by kernel_rfl), ?_⟩
          refine Dx.done (by kernel_rfl) ?_
          exact Xx.mkK (mO hB2 hB3 hB4 hv2 hv3 hv4 rfl) (Sub.cons (s := 7) rfl (Sub.cons (s := 8) rfl (Sub.cons (s := 9) rfl (Sub.cons (s := 6) rfl (Sub.nil _)))))
        refine Dstep.o (i := 6) rfl (allocO ti46) rfl (fun v B' H' hΦ hB => ?_)
        obtain ⟨b7, rfl, rfl, rfl⟩ := hΦ; clear hB
        refine ⟨jy (jy (jy (JOk.top) (ldv rfl rfl)) (ldv rfl rfl)) (ldv rfl rfl), ?_⟩
        refine Dx.one (i := 5) (by kernel_rfl) ?_
        refine Dstep.o (i := 5) rfl (Ox.cb rfl rfl rfl (cut8 (ValR.mono hB3 (ValR.mono hB2 hz)))) rfl (fun v B' H' hΦ hB => ?_)
        obtain ⟨rfl, hΦ⟩ := hΦ
        obtain ⟨cs4, rfl, hv4⟩ := hΦ
        obtain ⟨Apcs4, cpcs4, Ancs4, cncs4, rfl⟩ := ValR.shape hv4
        have hB4 := hB
        refine ⟨je (jy (jy (JOk.top) (ldv rfl rfl)) (ldv rfl rfl)) (by kernel_rfl), ?_⟩
        refine Dx.one (i := 9) (by kernel_rfl) ?_
        refine Dstep.o0 (i := 9) rfl (st6 sz46 rfl rfl rfl rfl rfl rfl) (fun v B' H' hΦ hB => ?_)
        obtain ⟨rfl, rfl⟩ := hΦ; clear hB v
        refine ⟨jy (jy (je (JOk.top) (by kernel_rfl)) (ldv rfl rfl)) (ldv rfl rfl), ?_⟩
        refine Dx.one (i := 10) (by kernel_rfl) ?_
        refine Dstep.o0 (i := 10) rfl (st6 sz46 rfl rfl rfl rfl rfl rfl) (fun v B' H' hΦ hB => ?_)
        obtain ⟨rfl, rfl⟩ := hΦ; clear hB v
        refine ⟨jy (je (je (JOk.top) (by kernel_rfl)) (by kernel_rfl)) (ldv rfl rfl), ?_⟩
        refine Dx.one (i := 11) (by kernel_rfl) ?_
        refine Dstep.o0 (i := 11) rfl (st6 sz46 rfl rfl rfl rfl rfl rfl) (fun v B' H' hΦ hB => ?_)
        obtain ⟨rfl, rfl⟩ := hΦ; clear hB v
        refine ⟨je (je (je (JOk.top) (by kernel_rfl)) (by kernel_rfl)) (by kernel_rfl), ?_⟩
        refine Dx.done (by kernel_rfl) ?_
        exact Xx.mkK (mO hB2 hB3 hB4 hv2 hv3 hv4 rfl) (Sub.cons (s := 7) rfl (Sub.cons (s := 8) rfl (Sub.cons (s := 9) rfl (Sub.cons (s := 6) rfl (Sub.nil _)))))
      refine Dstep.o (i := 6) rfl (allocO ti46) rfl (fun v B' H' hΦ hB => ?_)
      obtain ⟨b7, rfl, rfl, rfl⟩ := hΦ; clear hB
      refine ⟨jy (jy (jy (JOk.top) (ldv rfl rfl)) (ldv rfl rfl)) (ldv rfl rfl), ?_⟩
      refine Dx.one (i := 3) (by kernel_rfl) ?_
      refine Dstep.o (i := 3) rfl (Ox.cb rfl rfl rfl (cut8 (ValR.mono hB2 hy))) rfl (fun v B' H' hΦ hB => ?_)
      obtain ⟨rfl, hΦ⟩ := hΦ
      obtain ⟨cs3, rfl, hv3⟩ := hΦ
      obtain ⟨Apcs3, cpcs3, Ancs3, cncs3, rfl⟩ := ValR.shape hv3
      have hB3 := hB
      refine ⟨jy (je (jy (JOk.top) (ldv rfl rfl)) (by kernel_rfl)) (ldv rfl rfl), ?_⟩
      refine Dx.one (i := 5) (by kernel_rfl) ?_
      refine Dstep.o (i := 5) rfl (Ox.cb rfl rfl rfl (cut8 (ValR.mono hB3 (ValR.mono hB2 hz)))) rfl (fun v B' H' hΦ hB => ?_)
      obtain ⟨rfl, hΦ⟩ := hΦ
      obtain ⟨cs4, rfl, hv4⟩ := hΦ
      obtain ⟨Apcs4, cpcs4, Ancs4, cncs4, rfl⟩ := ValR.shape hv4
      have hB4 := hB
      refine ⟨je (jy (jy (JOk.top) (ldv rfl rfl)) (ldv rfl rfl)) (by kernel_rfl), ?_⟩
      refine Dx.one (i := 9) (by kernel_rfl) ?_
      refine Dstep.o0 (i := 9) rfl (st6 sz46 rfl rfl rfl rfl rfl rfl) (fun v B' H' hΦ hB => ?_)
      obtain ⟨rfl, rfl⟩ := hΦ; clear hB v
      refine ⟨jy (jy (je (JOk.top) (by kernel_rfl)) (ldv rfl rfl)) (ldv rfl rfl), ?_⟩
      refine Dx.one (i := 10) (by kernel_rfl) ?_
      refine Dstep.o0 (i := 10) rfl (st6 sz46 rfl rfl rfl rfl rfl rfl) (fun v B' H' hΦ hB => ?_)
      obtain ⟨rfl, rfl⟩ := hΦ; clear hB v
      refine ⟨jy (je (je (JOk.top) (by kernel_rfl)) (by kernel_rfl)) (ldv rfl rfl), ?_⟩
      refine Dx.one (i := 11) (by kernel_rfl) ?_
      refine Dstep.o0 (i := 11) rfl (st6 sz46 rfl rfl rfl rfl rfl rfl) (fun v B' H' hΦ hB => ?_)
      obtain ⟨rfl, rfl⟩ := hΦ; clear hB v
      refine ⟨je (je (je (JOk.top) (by kernel_rfl)) (by kernel_rfl)) (by kernel_rfl), ?_⟩
      refine Dx.done (by kernel_rfl) ?_
      exact Xx.mkK (mO hB2 hB3 hB4 hv2 hv3 hv4 rfl) (Sub.cons (s := 7) rfl (Sub.cons (s := 8) rfl (Sub.cons (s := 9) rfl (Sub.cons (s := 6) rfl (Sub.nil _)))))
    · skip
      refine Dstep.o (i := 6) rfl (allocO ti46) rfl (fun v B' H' hΦ hB => ?_)
      obtain ⟨b7, rfl, rfl, rfl⟩ := hΦ; clear hB
      refine ⟨jy (jy (jy (JOk.top) (ldv rfl rfl)) (ldv rfl rfl)) (ldv rfl rfl), ?_⟩
      refine Dx.two (i := 1) (j := 7) (by kernel_rfl) ?_ ?_
      · skip
        refine Dstep.o (i := 1) rfl (Ox.cb rfl rfl rfl (cut8 (hx))) rfl (fun v B' H' hΦ hB => ?_)
        obtain ⟨rfl, hΦ⟩ := hΦ
        obtain ⟨cs2, rfl, hv2⟩ := hΦ
        obtain ⟨Apcs2, cpcs2, Ancs2, cncs2, rfl⟩ := ValR.shape hv2
        have hB2 := hB
        refine ⟨jy (jy (je (JOk.top) (by kernel_rfl)) (ldv rfl rfl)) (ldv rfl rfl), ?_⟩
        refine Dx.two (i := 3) (j := 7) (by kernel_rfl) ?_ ?_
        · skip
          refine Dstep.o (i := 3) rfl (Ox.cb rfl rfl rfl (cut8 (ValR.mono hB2 hy))) rfl (fun v B' H' hΦ hB => ?_)
          obtain ⟨rfl, hΦ⟩ := hΦ
          obtain ⟨cs3, rfl, hv3⟩ := hΦ
          obtain ⟨Apcs3, cpcs3, Ancs3, cncs3, rfl⟩ := ValR.shape hv3
          have hB3 := hB
          refine ⟨jy (je (jy (JOk.top) (ldv rfl rfl)) (by kernel_rfl)) (ldv rfl rfl), ?_⟩
          refine Dx.two (i := 5) (j := 7) (by kernel_rfl) ?_ ?_
          · skip
            refine Dstep.o (i := 5) rfl (Ox.cb rfl rfl rfl (cut8 (ValR.mono hB3 (ValR.mono hB2 hz)))) rfl (fun v B' H' hΦ hB => ?_)
            obtain ⟨rfl, hΦ⟩ := hΦ
            obtain ⟨cs4, rfl, hv4⟩ := hΦ
            obtain ⟨Apcs4, cpcs4, Ancs4, cncs4, rfl⟩ := ValR.shape hv4
            have hB4 := hB
            refine ⟨je (jy (jy (JOk.top) (ldv rfl rfl)) (ldv rfl rfl)) (by kernel_rfl), ?_⟩
            refine Dx.one (i := 7) (by kernel_rfl) ?_
            refine Dstep.o (i := 7) rfl (allocO ti46) rfl (fun v B' H' hΦ hB => ?_)
            obtain ⟨b8, rfl, rfl, rfl⟩ := hΦ; clear hB
            refine ⟨jy (jy (jy (JOk.top) (ldv rfl rfl)) (ldv rfl rfl)) (ldv rfl rfl), ?_⟩
            refine Dx.one (i := 9) (by kernel_rfl) ?_
            refine Dstep.o0 (i := 9) rfl (st6 sz46 rfl rfl rfl rfl rfl rfl) (fun v B' H' hΦ hB => ?_)
            obtain ⟨rfl, rfl⟩ := hΦ; clear hB v
            refine ⟨jy (jy (je (JOk.top) (by kernel_rfl)) (ldv rfl rfl)) (ldv rfl rfl), ?_⟩
            refine Dx.one (i := 10) (by kernel_rfl) ?_
            refine Dstep.o0 (i := 10) rfl (st6 sz46 rfl rfl rfl rfl rfl rfl) (fun v B' H' hΦ hB => ?_)
            obtain ⟨rfl, rfl⟩ := hΦ; clear hB v
            refine ⟨jy (je (je (JOk.top) (by kernel_rfl)) (by kernel_rfl)) (ldv rfl rfl), ?_⟩
            refine Dx.one (i := 11) (by kernel_rfl) ?_
            refine Dstep.o0 (i := 11) rfl (st6 sz46 rfl rfl rfl rfl rfl rfl) (fun v B' H' hΦ hB => ?_)
            obtain ⟨rfl, rfl⟩ := hΦ; clear hB v
            refine ⟨je (je (je (JOk.top) (by kernel_rfl)) (by kernel_rfl)) (by kernel_rfl), ?_⟩
            refine Dx.done (by kernel_rfl) ?_
            exact Xx.mkK (mO hB2 hB3 hB4 hv2 hv3 hv4 rfl) (Sub.cons (s := 7) rfl (Sub.cons (s := 8) rfl (Sub.cons (s := 9) rfl (Sub.cons (s := 6) rfl (Sub.nil _)))))
          refine Dstep.o (i := 7) rfl (allocO ti46) rfl (fun v B' H' hΦ hB => ?_)
          obtain ⟨b8, rfl, rfl, rfl⟩ := hΦ; clear hB
          refine ⟨jy (jy (jy (JOk.top) (ldv rfl rfl)) (ldv rfl rfl)) (ldv rfl rfl), ?_⟩
          refine Dx.one (i := 5) (by kernel_rfl) ?_
          refine Dstep.o (i := 5) rfl (Ox.cb rfl rfl rfl (cut8 (ValR.mono hB3 (ValR.mono hB2 hz)))) rfl (fun v B' H' hΦ hB => ?_)
          obtain ⟨rfl, hΦ⟩ := hΦ
          obtain ⟨cs4, rfl, hv4⟩ := hΦ
          obtain ⟨Apcs4, cpcs4, Ancs4, cncs4, rfl⟩ := ValR.shape hv4
          have hB4 := hB
          refine ⟨je (jy (jy (JOk.top) (ldv rfl rfl)) (ldv rfl rfl)) (by kernel_rfl), ?_⟩
          refine Dx.one (i := 9) (by kernel_rfl) ?_
          refine Dstep.o0 (i := 9) rfl (st6 sz46 rfl rfl rfl rfl rfl rfl) (fun v B' H' hΦ hB => ?_)
          obtain ⟨rfl, rfl⟩ := hΦ; clear hB v
          refine ⟨jy (jy (je (JOk.top) (by kernel_rfl)) (ldv rfl rfl)) (ldv rfl rfl), ?_⟩
          refine Dx.one (i := 10) (by kernel_rfl) ?_
          refine Dstep.o0 (i := 10) rfl (st6 sz46 rfl rfl rfl rfl rfl rfl) (fun v B' H' hΦ hB => ?_)
          obtain ⟨rfl, rfl⟩ := hΦ; clear hB v
          refine ⟨jy (je (je (JOk.top) (by kernel_rfl)) (by kernel_rfl)) (ldv rfl rfl), ?_⟩
          refine Dx.one (i := 11) (by kernel_rfl) ?_
          refine Dstep.o0 (i := 11) rfl (st6 sz46 rfl rfl rfl rfl rfl rfl) (fun v B' H' hΦ hB => ?_)
          obtain ⟨rfl, rfl⟩ := hΦ; clear hB v
          refine ⟨je (je (je (JOk.top) (by kernel_rfl)) (by kernel_rfl)) (by kernel_rfl), ?_⟩
          refine Dx.done (by kernel_rfl) ?_
          exact Xx.mkK (mO hB2 hB3 hB4 hv2 hv3 hv4 rfl) (Sub.cons (s := 7) rfl (Sub.cons (s := 8) rfl (Sub.cons (s := 9) rfl (Sub.cons (s := 6) rfl (Sub.nil _)))))
        refine Dstep.o (i := 7) rfl (allocO ti46) rfl (fun v B' H' hΦ hB => ?_)
        obtain ⟨b8, rfl, rfl, rfl⟩ := hΦ; clear hB
        refine ⟨jy (jy (jy (JOk.top) (ldv rfl rfl)) (ldv rfl rfl)) (ldv rfl rfl), ?_⟩
        refine Dx.one (i := 3) (by kernel_rfl) ?_
        refine Dstep.o (i := 3) rfl (Ox.cb rfl rfl rfl (cut8 (ValR.mono hB2 hy))) rfl (fun v B' H' hΦ hB => ?_)
        obtain ⟨rfl, hΦ⟩ := hΦ
        obtain ⟨cs3, rfl, hv3⟩ := hΦ
        obtain ⟨Apcs3, cpcs3, Ancs3, cncs3, rfl⟩ := ValR.shape hv3
        have hB3 := hB
        refine ⟨jy (je (jy (JOk.top) (ldv rfl rfl)) (by kernel_rfl)) (ldv rfl rfl), ?_⟩
        refine Dx.one (i := 5) (by kernel_rfl) ?_
        refine Dstep.o (i := 5) rfl (Ox.cb rfl rfl rfl (cut8 (ValR.mono hB3 (ValR.mono hB2 hz)))) rfl (fun v B' H' hΦ hB => ?_)
        obtain ⟨rfl, hΦ⟩ := hΦ
        obtain ⟨cs4, rfl, hv4⟩ := hΦ
        obtain ⟨Apcs4, cpcs4, Ancs4, cncs4, rfl⟩ := ValR.shape hv4
        have hB4 := hB
        refine ⟨je (jy (jy (JOk.top) (ldv rfl rfl)) (ldv rfl rfl)) (by kernel_rfl), ?_⟩
        refine Dx.one (i := 9) (by kernel_rfl) ?_
        refine Dstep.o0 (i := 9) rfl (st6 sz46 rfl rfl rfl rfl rfl rfl) (fun v B' H' hΦ hB => ?_)
        obtain ⟨rfl, rfl⟩ := hΦ; clear hB v
        refine ⟨jy (jy (je (JOk.top) (by kernel_rfl)) (ldv rfl rfl)) (ldv rfl rfl), ?_⟩
        refine Dx.one (i := 10) (by kernel_rfl) ?_
        refine Dstep.o0 (i := 10) rfl (st6 sz46 rfl rfl rfl rfl rfl rfl) (fun v B' H' hΦ hB => ?_)
        obtain ⟨rfl, rfl⟩ := hΦ; clear hB v
        refine ⟨jy (je (je (JOk.top) (by kernel_rfl)) (by kernel_rfl)) (ldv rfl rfl), ?_⟩
        refine Dx.one (i := 11) (by kernel_rfl) ?_
        refine Dstep.o0 (i := 11) rfl (st6 sz46 rfl rfl rfl rfl rfl rfl) (fun v B' H' hΦ hB => ?_)
        obtain ⟨rfl, rfl⟩ := hΦ; clear hB v
        refine ⟨je (je (je (JOk.top) (by kernel_rfl)) (by kernel_rfl)) (by kernel_rfl), ?_⟩
        refine Dx.done (by kernel_rfl) ?_
        exact Xx.mkK (mO hB2 hB3 hB4 hv2 hv3 hv4 rfl) (Sub.cons (s := 7) rfl (Sub.cons (s := 8) rfl (Sub.cons (s := 9) rfl (Sub.cons (s := 6) rfl (Sub.nil _)))))
      refine Dstep.o (i := 7) rfl (allocO ti46) rfl (fun v B' H' hΦ hB => ?_)
      obtain ⟨b8, rfl, rfl, rfl⟩ := hΦ; clear hB
      refine ⟨jy (jy (jy (JOk.top) (ldv rfl rfl)) (ldv rfl rfl)) (ldv rfl rfl), ?_⟩
      refine Dx.one (i := 1) (by kernel_rfl) ?_
      refine Dstep.o (i := 1) rfl (Ox.cb rfl rfl rfl (cut8 (hx))) rfl (fun v B' H' hΦ hB => ?_)
      obtain ⟨rfl, hΦ⟩ := hΦ
      obtain ⟨cs2, rfl, hv2⟩ := hΦ
      obtain ⟨Apcs2, cpcs2, Ancs2, cncs2, rfl⟩ := ValR.shape hv2
      have hB2 := hB
      refine ⟨jy (jy (je (JOk.top) (by kernel_rfl)) (ldv rfl rfl)) (ldv rfl rfl), ?_⟩
      refine Dx.one (i := 3) (by kernel_rfl) ?_
      refine Dstep.o (i := 3) rfl (Ox.cb rfl rfl rfl (cut8 (ValR.mono hB2 hy))) rfl (fun v B' H' hΦ hB => ?_)
      obtain ⟨rfl, hΦ⟩ := hΦ
      obtain ⟨cs3, rfl, hv3⟩ := hΦ
      obtain ⟨Apcs3, cpcs3, Ancs3, cncs3, rfl⟩ := ValR.shape hv3
      have hB3 := hB
      refine ⟨jy (je (jy (JOk.top) (ldv rfl rfl)) (by kernel_rfl)) (ldv rfl rfl), ?_⟩
      refine Dx.one (i := 5) (by kernel_rfl) ?_
      refine Dstep.o (i := 5) rfl (Ox.cb rfl rfl rfl (cut8 (ValR.mono hB3 (ValR.mono hB2 hz)))) rfl (fun v B' H' hΦ hB => ?_)
      obtain ⟨rfl, hΦ⟩ := hΦ
      obtain ⟨cs4, rfl, hv4⟩ := hΦ
      obtain ⟨Apcs4, cpcs4, Ancs4, cncs4, rfl⟩ := ValR.shape hv4
      have hB4 := hB
      refine ⟨je (jy (jy (JOk.top) (ldv rfl rfl)) (ldv rfl rfl)) (by kernel_rfl), ?_⟩
      refine Dx.one (i := 9) (by kernel_rfl) ?_
      refine Dstep.o0 (i := 9) rfl (st6 sz46 rfl rfl rfl rfl rfl rfl) (fun v B' H' hΦ hB => ?_)
      obtain ⟨rfl, rfl⟩ := hΦ; clear hB v
      refine ⟨jy (jy (je (JOk.top) (by kernel_rfl)) (ldv rfl rfl)) (ldv rfl rfl), ?_⟩
      refine Dx.one (i := 10) (by kernel_rfl) ?_
      refine Dstep.o0 (i := 10) rfl (st6 sz46 rfl rfl rfl rfl rfl rfl) (fun v B' H' hΦ hB => ?_)
      obtain ⟨rfl, rfl⟩ := hΦ; clear hB v
      refine ⟨jy (je (je (JOk.top) (by kernel_rfl)) (by kernel_rfl)) (ldv rfl rfl), ?_⟩
      refine Dx.one (i := 11) (by kernel_rfl) ?_
      refine Dstep.o0 (i := 11) rfl (st6 sz46 rfl rfl rfl rfl rfl rfl) (fun v B' H' hΦ hB => ?_)
      obtain ⟨rfl, rfl⟩ := hΦ; clear hB v
      refine ⟨je (je (je (JOk.top) (by kernel_rfl)) (by kernel_rfl)) (by kernel_rfl), ?_⟩
      refine Dx.done (by kernel_rfl) ?_
      exact Xx.mkK (mO hB2 hB3 hB4 hv2 hv3 hv4 rfl) (Sub.cons (s := 7) rfl (Sub.cons (s := 8) rfl (Sub.cons (s := 9) rfl (Sub.cons (s := 6) rfl (Sub.nil _)))))
    refine Dstep.o (i := 7) rfl (allocO ti46) rfl (fun v B' H' hΦ hB => ?_)
    obtain ⟨b8, rfl, rfl, rfl⟩ := hΦ; clear hB
    refine ⟨jy (jy (jy (JOk.top) (ldv rfl rfl)) (ldv rfl rfl)) (ldv rfl rfl), ?_⟩
    refine Dx.two (i := 1) (j := 6) (by kernel_rfl) ?_ ?_
    · skip
      refine Dstep.o (i := 1) rfl (Ox.cb rfl rfl rfl (cut8 (hx))) rfl (fun v B' H' hΦ hB => ?_)
      obtain ⟨rfl, hΦ⟩ := hΦ
      obtain ⟨cs2, rfl, hv2⟩ := hΦ
      obtain ⟨Apcs2, cpcs2, Ancs2, cncs2, rfl⟩ := ValR.shape hv2
      have hB2 := hB
      refine ⟨jy (jy (je (JOk.top) (by kernel_rfl)) (ldv rfl rfl)) (ldv rfl rfl), ?_⟩
      refine Dx.two (i := 3) (j := 6) (by kernel_rfl) ?_ ?_
      · skip
        refine Dstep.o (i := 3) rfl (Ox.cb rfl rfl rfl (cut8 (ValR.mono hB2 hy))) rfl (fun v B' H' hΦ hB => ?_)
        obtain ⟨rfl, hΦ⟩ := hΦ
        obtain ⟨cs3, rfl, hv3⟩ := hΦ
        obtain ⟨Apcs3, cpcs3, Ancs3, cncs3, rfl⟩ := ValR.shape hv3
        have hB3 := hB
        refine ⟨jy (je (jy (JOk.top) (ldv rfl rfl)) (by kernel_rfl)) (ldv rfl rfl), ?_⟩
        refine Dx.two (i := 5) (j := 6) (by kernel_rfl) ?_ ?_
        · skip
          refine Dstep.o (i := 5) rfl (Ox.cb rfl rfl rfl (cut8 (ValR.mono hB3 (ValR.mono hB2 hz)))) rfl (fun v B' H' hΦ hB => ?_)
          obtain ⟨rfl, hΦ⟩ := hΦ
          obtain ⟨cs4, rfl, hv4⟩ := hΦ
          obtain ⟨Apcs4, cpcs4, Ancs4, cncs4, rfl⟩ := ValR.shape hv4
          have hB4 := hB
          refine ⟨je (jy (jy (JOk.top) (ldv rfl rfl)) (ldv rfl rfl)) (by kernel_rfl), ?_⟩
          refine Dx.one (i := 6) (by kernel_rfl) ?_
          refine Dstep.o (i := 6) rfl (allocO ti46) rfl (fun v B' H' hΦ hB => ?_)
          obtain ⟨b7, rfl, rfl, rfl⟩ := hΦ; clear hB
          refine ⟨jy (jy (jy (JOk.top) (ldv rfl rfl)) (ldv rfl rfl)) (ldv rfl rfl), ?_⟩
          refine Dx.one (i := 9) (by kernel_rfl) ?_
          refine Dstep.o0 (i := 9) rfl (st6 sz46 rfl rfl rfl rfl rfl rfl) (fun v B' H' hΦ hB => ?_)
          obtain ⟨rfl, rfl⟩ := hΦ; clear hB v
          refine ⟨jy (jy (je (JOk.top) (by kernel_rfl)) (ldv rfl rfl)) (ldv rfl rfl), ?_⟩
          refine Dx.one (i := 10) (by kernel_rfl) ?_
          refine Dstep.o0 (i := 10) rfl (st6 sz46 rfl rfl rfl rfl rfl rfl) (fun v B' H' hΦ hB => ?_)
          obtain ⟨rfl, rfl⟩ := hΦ; clear hB v
          refine ⟨jy (je (je (JOk.top) (by kernel_rfl)) (by kernel_rfl)) (ldv rfl rfl), ?_⟩
          refine Dx.one (i := 11) (by kernel_rfl) ?_
          refine Dstep.o0 (i := 11) rfl (st6 sz46 rfl rfl rfl rfl rfl rfl) (fun v B' H' hΦ hB => ?_)
          obtain ⟨rfl, rfl⟩ := hΦ; clear hB v
          refine ⟨je (je (je (JOk.top) (by kernel_rfl)) (by kernel_rfl)) (by kernel_rfl), ?_⟩
          refine Dx.done (by kernel_rfl) ?_
          exact Xx.mkK (mO hB2 hB3 hB4 hv2 hv3 hv4 rfl) (Sub.cons (s := 7) rfl (Sub.cons (s := 8) rfl (Sub.cons (s := 9) rfl (Sub.cons (s := 6) rfl (Sub.nil _)))))
        refine Dstep.o (i := 6) rfl (allocO ti46) rfl (fun v B' H' hΦ hB => ?_)
        obtain ⟨b7, rfl, rfl, rfl⟩ := hΦ; clear hB
        refine ⟨jy (jy (jy (JOk.top) (ldv rfl rfl)) (ldv rfl rfl)) (ldv rfl rfl), ?_⟩
        refine Dx.one (i := 5) (by kernel_rfl) ?_
        refine Dstep.o (i := 5) rfl (Ox.cb rfl rfl rfl (cut8 (ValR.mono hB3 (ValR.mono hB2 hz)))) rfl (fun v B' H' hΦ hB => ?_)
        obtain ⟨rfl, hΦ⟩ := hΦ
        obtain ⟨cs4, rfl, hv4⟩ := hΦ
        obtain ⟨Apcs4, cpcs4, Ancs4, cncs4, rfl⟩ := ValR.shape hv4
        have hB4 := hB
        refine ⟨je (jy (jy (JOk.top) (ldv rfl rfl)) (ldv rfl rfl)) (by kernel_rfl), ?_⟩
        refine Dx.one (i := 9) (by kernel_rfl) ?_
        refine Dstep.o0 (i := 9) rfl (st6 sz46 rfl rfl rfl rfl rfl rfl) (fun v B' H' hΦ hB => ?_)
        obtain ⟨rfl, rfl⟩ := hΦ; clear hB v
        refine ⟨jy (jy (je (JOk.top) (by kernel_rfl)) (ldv rfl rfl)) (ldv rfl rfl), ?_⟩
        refine Dx.one (i := 10) (by kernel_rfl) ?_
        refine Dstep.o0 (i := 10) rfl (st6 sz46 rfl rfl rfl rfl rfl rfl) (fun v B' H' hΦ hB => ?_)
        obtain ⟨rfl, rfl⟩ := hΦ; clear hB v
        refine ⟨jy (je (je (JOk.top) (by kernel_rfl)) (by kernel_rfl)) (ldv rfl rfl), ?_⟩
        refine Dx.one (i := 11) (by kernel_rfl) ?_
        refine Dstep.o0 (i := 11) rfl (st6 sz46 rfl rfl rfl rfl rfl rfl) (fun v B' H' hΦ hB => ?_)
        obtain ⟨rfl, rfl⟩ := hΦ; clear hB v
        refine ⟨je (je (je (JOk.top) (by kernel_rfl)) (by kernel_rfl)) (by kernel_rfl), ?_⟩
        refine Dx.done (by kernel_rfl) ?_
        exact Xx.mkK (mO hB2 hB3 hB4 hv2 hv3 hv4 rfl) (Sub.cons (s := 7) rfl (Sub.cons (s := 8) rfl (Sub.cons (s := 9) rfl (Sub.cons (s := 6) rfl (Sub.nil _)))))
      refine Dstep.o (i := 6) rfl (allocO ti46) rfl (fun v B' H' hΦ hB => ?_)
      obtain ⟨b7, rfl, rfl, rfl⟩ := hΦ; clear hB
      refine ⟨jy (jy (jy (JOk.top) (ldv rfl rfl)) (ldv rfl rfl)) (ldv rfl rfl), ?_⟩
      refine Dx.one (i := 3) (by kernel_rfl) ?_
      refine Dstep.o (i := 3) rfl (Ox.cb rfl rfl rfl (cut8 (ValR.mono hB2 hy))) rfl (fun v B' H' hΦ hB => ?_)
      obtain ⟨rfl, hΦ⟩ := hΦ
      obtain ⟨cs3, rfl, hv3⟩ := hΦ
      obtain ⟨Apcs3, cpcs3, Ancs3, cncs3, rfl⟩ := ValR.shape hv3
      have hB3 := hB
      refine ⟨jy (je (jy (JOk.top) (ldv rfl rfl)) (by kernel_rfl)) (ldv rfl rfl), ?_⟩
      refine Dx.one (i := 5) (by kernel_rfl) ?_
      refine Dstep.o (i := 5) rfl (Ox.cb rfl rfl rfl (cut8 (ValR.mono hB3 (ValR.mono hB2 hz)))) rfl (fun v B' H' hΦ hB => ?_)
      obtain ⟨rfl, hΦ⟩ := hΦ
      obtain ⟨cs4, rfl, hv4⟩ := hΦ
      obtain ⟨Apcs4, cpcs4, Ancs4, cncs4, rfl⟩ := ValR.shape hv4
      have hB4 := hB
      refine ⟨je (jy (jy (JOk.top) (ldv rfl rfl)) (ldv rfl rfl)) (by kernel_rfl), ?_⟩
      refine Dx.one (i := 9) (by kernel_rfl) ?_
      refine Dstep.o0 (i := 9) rfl (st6 sz46 rfl rfl rfl rfl rfl rfl) (fun v B' H' hΦ hB => ?_)
      obtain ⟨rfl, rfl⟩ := hΦ; clear hB v
      refine ⟨jy (jy (je (JOk.top) (by kernel_rfl)) (ldv rfl rfl)) (ldv rfl rfl), ?_⟩
      refine Dx.one (i := 10) (by kernel_rfl) ?_
      refine Dstep.o0 (i := 10) rfl (st6 sz46 rfl rfl rfl rfl rfl rfl) (fun v B' H' hΦ hB => ?_)
      obtain ⟨rfl, rfl⟩ := hΦ; clear hB v
      refine ⟨jy (je (je (JOk.top) (by kernel_rfl)) (by kernel_rfl)) (ldv rfl rfl), ?_⟩
      refine Dx.one (i := 11) (by kernel_rfl) ?_
      refine Dstep.o0 (i := 11) rfl (st6 sz46 rfl rfl rfl rfl rfl rfl) (fun v B' H' hΦ hB => ?_)
      obtain ⟨rfl, rfl⟩ := hΦ; clear hB v
      refine ⟨je (je (je (JOk.top) (by kernel_rfl)) (by kernel_rfl)) (by kernel_rfl), ?_⟩
      refine Dx.done (by kernel_rfl) ?_
      exact Xx.mkK (mO hB2 hB3 hB4 hv2 hv3 hv4 rfl) (Sub.cons (s := 7) rfl (Sub.cons (s := 8) rfl (Sub.cons (s := 9) rfl (Sub.cons (s := 6) rfl (Sub.nil _)))))
    refine Dstep.o (i := 6) rfl (allocO ti46) rfl (fun v B' H' hΦ hB => ?_)
    obtain ⟨b7, rfl, rfl, rfl⟩ := hΦ; clear hB
    refine ⟨jy (jy (jy (JOk.top) (ldv rfl rfl)) (ldv rfl rfl)) (ldv rfl rfl), ?_⟩
    refine Dx.one (i := 1) (by kernel_rfl) ?_
    refine Dstep.o (i := 1) rfl (Ox.cb rfl rfl rfl (cut8 (hx))) rfl (fun v B' H' hΦ hB => ?_)
    obtain ⟨rfl, hΦ⟩ := hΦ
    obtain ⟨cs2, rfl, hv2⟩ := hΦ
    obtain ⟨Apcs2, cpcs2, Ancs2, cncs2, rfl⟩ := ValR.shape hv2
    have hB2 := hB
    refine ⟨jy (jy (je (JOk.top) (by kernel_rfl)) (ldv rfl rfl)) (ldv rfl rfl), ?_⟩
    refine Dx.one (i := 3) (by kernel_rfl) ?_
    refine Dstep.o (i := 3) rfl (Ox.cb rfl rfl rfl (cut8 (ValR.mono hB2 hy))) rfl (fun v B' H' hΦ hB => ?_)
    obtain ⟨rfl, hΦ⟩ := hΦ
    obtain ⟨cs3, rfl, hv3⟩ := hΦ
    obtain ⟨Apcs3, cpcs3, Ancs3, cncs3, rfl⟩ := ValR.shape hv3
    have hB3 := hB
    refine ⟨jy (je (jy (JOk.top) (ldv rfl rfl)) (by kernel_rfl)) (ldv rfl rfl), ?_⟩
    refine Dx.one (i := 5) (by kernel_rfl) ?_
    refine Dstep.o (i := 5) rfl (Ox.cb rfl rfl rfl (cut8 (ValR.mono hB3 (ValR.mono hB2 hz)))) rfl (fun v B' H' hΦ hB => ?_)
    obtain ⟨rfl, hΦ⟩ := hΦ
    obtain ⟨cs4, rfl, hv4⟩ := hΦ
    obtain ⟨Apcs4, cpcs4, Ancs4, cncs4, rfl⟩ := ValR.shape hv4
    have hB4 := hB
    refine ⟨je (jy (jy (JOk.top) (ldv rfl rfl)) (ldv rfl rfl)) (by kernel_rfl), ?_⟩
    refine Dx.one (i := 9) (by kernel_rfl) ?_
    refine Dstep.o0 (i := 9) rfl (st6 sz46 rfl rfl rfl rfl rfl rfl) (fun v B' H' hΦ hB => ?_)
    obtain ⟨rfl, rfl⟩ := hΦ; clear hB v
    refine ⟨jy (jy (je (JOk.top) (by kernel_rfl)) (ldv rfl rfl)) (ldv rfl rfl), ?_⟩
    refine Dx.one (i := 10) (by kernel_rfl) ?_
    refine Dstep.o0 (i := 10) rfl (st6 sz46 rfl rfl rfl rfl rfl rfl) (fun v B' H' hΦ hB => ?_)
    obtain ⟨rfl, rfl⟩ := hΦ; clear hB v
    refine ⟨jy (je (je (JOk.top) (by kernel_rfl)) (by kernel_rfl)) (ldv rfl rfl), ?_⟩
    refine Dx.one (i := 11) (by kernel_rfl) ?_
    refine Dstep.o0 (i := 11) rfl (st6 sz46 rfl rfl rfl rfl rfl rfl) (fun v B' H' hΦ hB => ?_)
    obtain ⟨rfl, rfl⟩ := hΦ; clear hB v
    refine ⟨je (je (je (JOk.top) (by kernel_rfl)) (by kernel_rfl)) (by kernel_rfl), ?_⟩
    refine Dx.done (by kernel_rfl) ?_
    exact Xx.mkK (mO hB2 hB3 hB4 hv2 hv3 hv4 rfl) (Sub.cons (s := 7) rfl (Sub.cons (s := 8) rfl (Sub.cons (s := 9) rfl (Sub.cons (s := 6) rfl (Sub.nil _)))))
  · rintro ρ' B' H' ⟨b7, b8, b9, Ap2, cp2, An2, cn2, Ap3, cp3, An3, cn3, Ap4, cp4, An4, cn4, rfl, hB4, hv2, hv3, hv4, rfl⟩
    obtain ⟨B4, rfl⟩ : ∃ B4, B4 = B' := ⟨B', rfl⟩
    refine Xx.dropB b3 (Xx.dropB b4 (Xx.dropB b5 ?_))
    refine Cx.seq (fun K2 k2 => ?_)
    refine Cx.seq (fun K3 k3 => ?_)
    refine Cx.region ?_
    refine Lx.y (ldA Try.underlying46 rfl sz46 rfl (Cells.own (n := 6) PickB.eq rfl) rfl) rfl ?_
    refine Lx.cp rfl rfl rfl (Check_ct 9 _ _ _ hv2 (fun z => cut_bytes z)) rfl ?_
    refine Lx.y (neI rfl rfl) rfl ?_
    refine Lx.y (mv rfl) rfl ?_
    refine Xx.ifN (t := 26) rfl (fun h4 => ?_) (fun h4 => ?_)
    · skip
      refine Lx.gF rfl rfl rfl rfl ?_
      refine Lx.gF rfl rfl rfl rfl ?_
      refine Lx.gF rfl rfl rfl rfl ?_
      refine Lx.y (pickT rfl rfl) rfl ?_
      refine Lx.y (mv rfl) rfl ?_
      refine Lx.gF rfl rfl rfl rfl ?_
      refine Lx.gF rfl rfl rfl rfl ?_
      refine Lx.gF rfl rfl rfl rfl ?_
      refine Lx.y (pickT rfl rfl) rfl ?_
      refine Lx.nil ?_
      refine Xx.tn (k3 _ _ _ _ ?_)
      refine Cx.condT rfl ?_
      refine Cx.seq (fun K5 k5 => ?_)
      refine Cx.region ?_
      refine Lx.cb rfl rfl rfl (awake_ct _) rfl ?_
      rintro v B5 rfl hB5
      refine Lx.y (asg rfl) rfl ?_
      refine Lx.nil ?_
      refine Xx.tn (k5 _ _ _ _ ?_)
      refine Cx.ret ?_
      refine Xx.tr ?_
      refine Xx.dropB b9 (Xx.dropB b8 (Xx.dropB b7 ?_))
      first | exact Xx.rB1 rfl rfl rfl (Frag.le_trans hB4 (Frag.le_trans hB5 (Frag.le_trans hB6 (Frag.le_trans hB7 (Frag.le_trans hB8 hB9))))) rfl | exact Xx.rB1 rfl rfl rfl (Frag.le_trans hB4 hB5) rfl
    · skip
      have hca : CheckF 9 (cutF 8 32 x) = 0 := h4
      refine Lx.gT rfl rfl rfl ?_
      refine Lx.y (ldA Try.underlying46 rfl sz46 rfl (Cells.own (n := 6) PickB.eq rfl) rfl) rfl ?_
      refine Lx.gT rfl rfl rfl ?_
      refine Lx.cp rfl rfl rfl (Check_ct 9 _ _ _ hv3 (fun z => cut_bytes z)) rfl ?_
      refine Lx.gT rfl rfl rfl ?_
      refine Lx.y (neI rfl rfl) rfl ?_
      refine Lx.y (pickF rfl rfl) rfl ?_
      refine Lx.y (mv rfl) rfl ?_
      refine Xx.ifN (t := 31) rfl (fun h7 => ?_) (fun h7 => ?_)
      · skip
        refine Lx.gF rfl rfl rfl rfl ?_
        refine Lx.gF rfl rfl rfl rfl ?_
        refine Lx.gF rfl rfl rfl rfl ?_
        refine Lx.y (pickT rfl rfl) rfl ?_
        refine Lx.nil ?_
        refine Xx.tn (k3 _ _ _ _ ?_)
        refine Cx.condT rfl ?_
        refine Cx.seq (fun K8 k8 => ?_)
        refine Cx.region ?_
        refine Lx.cb rfl rfl rfl (awake_ct _) rfl ?_
        rintro v B5 rfl hB5
        refine Lx.y (asg rfl) rfl ?_
        refine Lx.nil ?_
        refine Xx.tn (k8 _ _ _ _ ?_)
        refine Cx.ret ?_
        refine Xx.tr ?_
        refine Xx.dropB b9 (Xx.dropB b8 (Xx.dropB b7 ?_))
        first | exact Xx.rB1 rfl rfl rfl (Frag.le_trans hB4 (Frag.le_trans hB5 (Frag.le_trans hB6 (Frag.le_trans hB7 (Frag.le_trans hB8 hB9))))) rfl | exact Xx.rB1 rfl rfl rfl (Frag.le_trans hB4 hB5) rfl
      · skip
        have hcb : CheckF 9 (cutF 8 32 y) = 0 := h7
        refine Lx.gT rfl rfl rfl ?_
        refine Lx.y (ldA Try.underlying46 rfl sz46 rfl (Cells.own (n := 6) PickB.eq rfl) rfl) rfl ?_
        refine Lx.gT rfl rfl rfl ?_
        refine Lx.cp rfl rfl rfl (Check_ct 9 _ _ _ hv4 (fun z => cut_bytes z)) rfl ?_
        refine Lx.gT rfl rfl rfl ?_
        refine Lx.y (neI rfl rfl) rfl ?_
        refine Lx.y (pickF rfl rfl) rfl ?_
        refine Lx.nil ?_
        refine Xx.tn (k3 _ _ _ _ ?_)
        refine Cx.condN rfl (fun h10 => ?_) (fun h10 => ?_)
        · skip
          refine Cx.seq (fun K11 k11 => ?_)
          refine Cx.region ?_
          refine Lx.cb rfl rfl rfl (awake_ct _) rfl ?_
          rintro v B5 rfl hB5
          refine Lx.y (asg rfl) rfl ?_
          refine Lx.nil ?_
          refine Xx.tn (k11 _ _ _ _ ?_)
          refine Cx.ret ?_
          refine Xx.tr ?_
          refine Xx.dropB b9 (Xx.dropB b8 (Xx.dropB b7 ?_))
          first | exact Xx.rB1 rfl rfl rfl (Frag.le_trans hB4 (Frag.le_trans hB5 (Frag.le_trans hB6 (Frag.le_trans hB7 (Frag.le_trans hB8 hB9))))) rfl | exact Xx.rB1 rfl rfl rfl (Frag.le_trans hB4 hB5) rfl
        · skip
          have hcc : CheckF 9 (cutF 8 32 z) = 0 := h10
          obtain ⟨oka, bya⟩ := CheckF_zero hca
          obtain ⟨okb, byb⟩ := CheckF_zero hcb
          obtain ⟨okc, byc⟩ := CheckF_zero hcc
          have hsw := cmpF_swap 9 (cutF 8 32 x) (cutF 8 32 y)
          have hT3 := T3_F 9 (cutF 8 32 x) (cutF 8 32 y) (cutF 8 32 z)
          refine Cx.skip ?_
          refine Xx.tn (k2 _ _ _ _ ?_)
          refine Cx.seq (fun K13 k13 => ?_)
          refine Cx.drawn (by kernel_rfl) ?_
          refine Dx.r (i := 0) rfl (by kernel_rfl) (ldA Try.underlying46 rfl sz46 rfl (Cells.own (n := 6) PickB.eq rfl) rfl) rfl ?_
          refine Dx.r (i := 1) rfl (by kernel_rfl) (ldA Try.underlying46 rfl sz46 rfl (Cells.own (n := 6) PickB.eq rfl) rfl) rfl ?_
          refine Dx.r (i := 3) rfl (by kernel_rfl) (ldA Try.underlying46 rfl sz46 rfl (Cells.own (n := 6) PickB.eq rfl) rfl) rfl ?_
          refine Dx.r (i := 4) rfl (by kernel_rfl) (ldA Try.underlying46 rfl sz46 rfl (Cells.own (n := 6) PickB.eq rfl) rfl) rfl ?_
          refine Dx.r (i := 6) rfl (by kernel_rfl) (ldA Try.underlying46 rfl sz46 rfl (Cells.own (n := 6) PickB.eq rfl) rfl) rfl ?_
          refine Dx.r (i := 7) rfl (by kernel_rfl) (ldA Try.underlying46 rfl sz46 rfl (Cells.own (n := 6) PickB.eq rfl) rfl) rfl ?_
          refine Dx.one (i := 2) (by kernel_rfl) ?_
          refine Dstep.o (i := 2) rfl (Ox.cb rfl rfl rfl (Compare_ct 9 _ _ _ _ _ _ hv2 hv3 oka okb)) rfl (fun v B' H' hΦ hB => ?_)
          obtain ⟨rfl, rfl, rfl⟩ := hΦ; clear hB
          refine ⟨jy (jy (jy (jy (je (je (JOk.top) (by kernel_rfl)) (by kernel_rfl)) (ldA Try.underlying46 rfl sz46 rfl (Cells.own (n := 6) PickB.eq rfl) rfl)) (ldA Try.underlying46 rfl sz46 rfl (Cells.own (n := 6) PickB.eq rfl) rfl)) (ldA Try.underlying46 rfl sz46 rfl (Cells.own (n := 6) PickB.eq rfl) rfl)) (ldA Try.underlying46 rfl sz46 rfl (Cells.own (n := 6) PickB.eq rfl) rfl), ?_⟩
          refine Dx.one (i := 5) (by kernel_rfl) ?_
          refine Dstep.o (i := 5) rfl (Ox.cb rfl rfl rfl (Compare_ct 9 _ _ _ _ _ _ hv3 hv4 okb okc)) rfl (fun v B' H' hΦ hB => ?_)
          obtain ⟨rfl, rfl, rfl⟩ := hΦ; clear hB
          refine ⟨jy (jy (je (je (jy (jy (JOk.top) (ldA Try.underlying46 rfl sz46 rfl (Cells.own (n := 6) PickB.eq rfl) rfl)) (ldA Try.underlying46 rfl sz46 rfl (Cells.own (n := 6) PickB.eq rfl) rfl)) (by kernel_rfl)) (by kernel_rfl)) (ldA Try.underlying46 rfl sz46 rfl (Cells.own (n := 6) PickB.eq rfl) rfl)) (ldA Try.underlying46 rfl sz46 rfl (Cells.own (n := 6) PickB.eq rfl) rfl), ?_⟩
          refine Dx.one (i := 8) (by kernel_rfl) ?_
          refine Dstep.o (i := 8) rfl (Ox.cb rfl rfl rfl (Compare_ct 9 _ _ _ _ _ _ hv2 hv4 oka okc)) rfl (fun v B' H' hΦ hB => ?_)
          obtain ⟨rfl, rfl, rfl⟩ := hΦ; clear hB
          refine ⟨je (je (jy (jy (jy (jy (JOk.top) (ldA Try.underlying46 rfl sz46 rfl (Cells.own (n := 6) PickB.eq rfl) rfl)) (ldA Try.underlying46 rfl sz46 rfl (Cells.own (n := 6) PickB.eq rfl) rfl)) (ldA Try.underlying46 rfl sz46 rfl (Cells.own (n := 6) PickB.eq rfl) rfl)) (ldA Try.underlying46 rfl sz46 rfl (Cells.own (n := 6) PickB.eq rfl) rfl)) (by kernel_rfl)) (by kernel_rfl), ?_⟩
          refine Dx.p (i := 9) rfl (by kernel_rfl) (asg rfl) rfl ?_
          refine Dx.p (i := 10) rfl (by kernel_rfl) (asg rfl) rfl ?_
          refine Dx.p (i := 11) rfl (by kernel_rfl) (asg rfl) rfl ?_
          refine Dx.done (by kernel_rfl) ?_
          refine Xx.tn (k13 _ _ _ _ ?_)
          refine Cx.seq (fun K14 k14 => ?_)
          refine Cx.seq (fun K15 k15 => ?_)
          refine Cx.drawn (by kernel_rfl) ?_
          refine Dx.one (i := 0) (by kernel_rfl) ?_
          refine Dstep.o (i := 0) rfl (Ox.cb rfl rfl rfl (awake_ct _)) rfl (fun v B' H' hΦ hB => ?_)
          obtain ⟨rfl, hΦ⟩ := hΦ
          obtain rfl := hΦ
          have hB5 := hB
          refine ⟨JOk.top, ?_⟩
          refine Dx.p (i := 1) rfl (by kernel_rfl) (not' rfl) rfl ?_
          refine Dx.p (i := 2) rfl (by kernel_rfl) (mv rfl) rfl ?_
          refine Dx.pT (i := 3) rfl rfl rfl rfl (by kernel_rfl) (mv rfl) rfl ?_
          refine Dx.pT (i := 4) rfl rfl rfl rfl (by kernel_rfl) (lss rfl rfl) rfl ?_
          refine Dx.rT (i := 5) rfl rfl rfl rfl (by kernel_rfl) (ldA Try.underlying46 rfl sz46 rfl (Cells.own (n := 6) PickB.eq rfl) rfl) rfl ?_
          refine Dx.rT (i := 7) rfl rfl rfl rfl (by kernel_rfl) (ldA Try.underlying46 rfl sz46 rfl (Cells.own (n := 6) PickB.eq rfl) rfl) rfl ?_
          refine Dx.one (i := 6) (by kernel_rfl) ?_
          refine Dstep.oT (i := 6) rfl rfl rfl rfl (Ox.cb rfl rfl rfl (Ref_ct 9 _ _ _ (ValR.mono hB5 hv2) (cutF_few _ _ _ _ (by decide)))) rfl (fun v B' H' hΦ hB => ?_)
          obtain ⟨rfl, hΦ⟩ := hΦ
          obtain ⟨cs6, rfl, hv6⟩ := hΦ
          obtain ⟨Apcs6, cpcs6, Ancs6, cncs6, rfl⟩ := ValR.shape hv6
          have hB6 := hB
          refine ⟨jy (je (JOk.top) (by kernel_rfl)) (ldA Try.underlying46 rfl sz46 rfl (Cells.own (n := 6) PickB.eq rfl) rfl), ?_⟩
          refine Dx.one (i := 8) (by kernel_rfl) ?_
          refine Dstep.oT (i := 8) rfl rfl rfl rfl (Ox.cb rfl rfl rfl (Ref_ct 9 _ _ _ (ValR.mono hB6 (ValR.mono hB5 hv3)) (cutF_few _ _ _ _ (by decide)))) rfl (fun v B' H' hΦ hB => ?_)
          obtain ⟨rfl, hΦ⟩ := hΦ
          obtain ⟨cs7, rfl, hv7⟩ := hΦ
          obtain ⟨Apcs7, cpcs7, Ancs7, cncs7, rfl⟩ := ValR.shape hv7
          have hB7 := hB
          refine ⟨je (jy (JOk.top) (ldA Try.underlying46 rfl sz46 rfl (Cells.own (n := 6) PickB.eq rfl) rfl)) (by kernel_rfl), ?_⟩
          refine Dx.one (i := 9) (by kernel_rfl) ?_
          refine Dstep.oT (i := 9) rfl rfl rfl rfl (Ox.cb rfl rfl rfl (Before_ct 9 _ _ _ _ _ _ (ValR.mono hB7 hv6) hv7 oka okb)) rfl (fun v B' H' hΦ hB => ?_)
          obtain ⟨rfl, rfl, rfl⟩ := hΦ; clear hB
          refine ⟨jy (jy (JOk.top) (ldA Try.underlying46 rfl sz46 rfl (Cells.own (n := 6) PickB.eq rfl) rfl)) (ldA Try.underlying46 rfl sz46 rfl (Cells.own (n := 6) PickB.eq rfl) rfl), ?_⟩
          refine Dx.pT (i := 10) rfl rfl rfl rfl (by kernel_rfl) (Yx.ff (neB Try.underlying4 rfl rfl) (ordL _)) rfl ?_
          refine Dx.p (i := 11) rfl (by kernel_rfl) (pickF rfl rfl) rfl ?_
          refine Dx.p (i := 12) rfl (by kernel_rfl) (mv rfl) rfl ?_
          refine Dx.pT (i := 13) rfl rfl rfl rfl (by kernel_rfl) (mv rfl) rfl ?_
          refine Dx.pT (i := 14) rfl rfl rfl rfl (by kernel_rfl) (gtr rfl rfl) rfl ?_
          refine Dx.rT (i := 15) rfl rfl rfl rfl (by kernel_rfl) (ldA Try.underlying46 rfl sz46 rfl (Cells.own (n := 6) PickB.eq rfl) rfl) rfl ?_
          refine Dx.rT (i := 17) rfl rfl rfl rfl (by kernel_rfl) (ldA Try.underlying46 rfl sz46 rfl (Cells.own (n := 6) PickB.eq rfl) rfl) rfl ?_
          refine Dx.one (i := 16) (by kernel_rfl) ?_
          refine Dstep.oT (i := 16) rfl rfl rfl rfl (Ox.cb rfl rfl rfl (Ref_ct 9 _ _ _ (ValR.mono hB7 (ValR.mono hB6 (ValR.mono hB5 hv3))) (cutF_few _ _ _ _ (by decide)))) rfl (fun v B' H' hΦ hB => ?_)
          obtain ⟨rfl, hΦ⟩ := hΦ
          obtain ⟨cs8, rfl, hv8⟩ := hΦ
          obtain ⟨Apcs8, cpcs8, Ancs8, cncs8, rfl⟩ := ValR.shape hv8
          have hB8 := hB
          refine ⟨jy (je (jy (jy (JOk.top) (ldA Try.underlying46 rfl sz46 rfl (Cells.own (n := 6) PickB.eq rfl) rfl)) (ldA Try.underlying46 rfl sz46 rfl (Cells.own (n := 6) PickB.eq rfl) rfl)) (by kernel_rfl)) (ldA Try.underlying46 rfl sz46 rfl (Cells.own (n := 6) PickB.eq rfl) rfl), ?_⟩
          refine Dx.one (i := 18) (by kernel_rfl) ?_
          refine Dstep.oT (i := 18) rfl rfl rfl rfl (Ox.cb rfl rfl rfl (Ref_ct 9 _ _ _ (ValR.mono hB8 (ValR.mono hB7 (ValR.mono hB6 (ValR.mono hB5 hv2)))) (cutF_few _ _ _ _ (by decide)))) rfl (fun v B' H' hΦ hB => ?_)
          obtain ⟨rfl, hΦ⟩ := hΦ
          obtain ⟨cs9, rfl, hv9⟩ := hΦ
          obtain ⟨Apcs9, cpcs9, Ancs9, cncs9, rfl⟩ := ValR.shape hv9
          have hB9 := hB
          refine ⟨je (jy (jy (jy (JOk.top) (ldA Try.underlying46 rfl sz46 rfl (Cells.own (n := 6) PickB.eq rfl) rfl)) (ldA Try.underlying46 rfl sz46 rfl (Cells.own (n := 6) PickB.eq rfl) rfl)) (ldA Try.underlying46 rfl sz46 rfl (Cells.own (n := 6) PickB.eq rfl) rfl)) (by kernel_rfl), ?_⟩
          refine Dx.one (i := 19) (by kernel_rfl) ?_
          refine Dstep.oT (i := 19) rfl rfl rfl rfl (Ox.cb rfl rfl rfl (Before_ct 9 _ _ _ _ _ _ (ValR.mono hB9 hv8) hv9 okb oka)) rfl (fun v B' H' hΦ hB => ?_)
          obtain ⟨rfl, rfl, rfl⟩ := hΦ; clear hB
          refine ⟨jy (jy (jy (jy (JOk.top) (ldA Try.underlying46 rfl sz46 rfl (Cells.own (n := 6) PickB.eq rfl) rfl)) (ldA Try.underlying46 rfl sz46 rfl (Cells.own (n := 6) PickB.eq rfl) rfl)) (ldA Try.underlying46 rfl sz46 rfl (Cells.own (n := 6) PickB.eq rfl) rfl)) (ldA Try.underlying46 rfl sz46 rfl (Cells.own (n := 6) PickB.eq rfl) rfl), ?_⟩
          refine Dx.pT (i := 20) rfl rfl rfl rfl (by kernel_rfl) (Yx.ff (neB Try.underlying4 rfl rfl) (ordG hsw)) rfl ?_
          refine Dx.p (i := 21) rfl (by kernel_rfl) (pickF rfl rfl) rfl ?_
          refine Dx.done (by kernel_rfl) ?_
          refine Xx.tn (k15 _ _ _ _ ?_)
          refine Cx.condF rfl ?_
          refine Cx.skip ?_
          refine Xx.tn (k14 _ _ _ _ ?_)
          refine Cx.seq (fun K16 k16 => ?_)
          have hv2 := ValR.mono hB9 (ValR.mono hB8 (ValR.mono hB7 (ValR.mono hB6 (ValR.mono hB5 hv2))))
          have hv3 := ValR.mono hB9 (ValR.mono hB8 (ValR.mono hB7 (ValR.mono hB6 (ValR.mono hB5 hv3))))
          refine Cx.region ?_
          refine Lx.y (ldA Try.underlying46 rfl sz46 rfl (Cells.own (n := 6) PickB.eq rfl) rfl) rfl ?_
          refine Lx.cp rfl rfl rfl (Encode_ct 9 _ _ _ hv2 (fun z => cut_bytes z)) rfl ?_
          rw [if_pos hca, hca]
          refine Lx.y (mv rfl) rfl ?_
          refine Lx.y (ext rfl rfl) rfl ?_
          refine Lx.y (ext rfl rfl) rfl ?_
          refine Lx.y (asg rfl) rfl ?_
          refine Lx.y (asg rfl) rfl ?_
          refine Lx.nil ?_
          refine Xx.tn (k16 _ _ _ _ ?_)
          refine Cx.seq (fun K17 k17 => ?_)
          refine Cx.region ?_
          refine Lx.y (ldA Try.underlying46 rfl sz46 rfl (Cells.own (n := 6) PickB.eq rfl) rfl) rfl ?_
          refine Lx.cp rfl rfl rfl (Encode_ct 9 _ _ _ hv3 (fun z => cut_bytes z)) rfl ?_
          rw [if_pos hcb, hcb]
          refine Lx.y (mv rfl) rfl ?_
          refine Lx.y (ext rfl rfl) rfl ?_
          refine Lx.y (ext rfl rfl) rfl ?_
          refine Lx.y (asg rfl) rfl ?_
          refine Lx.y (asg rfl) rfl ?_
          refine Lx.nil ?_
          refine Xx.tn (k17 _ _ _ _ ?_)
          refine Cx.seq (fun K18 k18 => ?_)
          refine Cx.region ?_
          refine Lx.y (ldA Try.underlying46 rfl sz46 rfl (Cells.own (n := 6) PickB.eq rfl) rfl) rfl ?_
          refine Lx.y (ldA Try.underlying46 rfl sz46 rfl (Cells.own (n := 6) PickB.eq rfl) rfl) rfl ?_
          refine Lx.cp rfl rfl rfl (Compare_ct 9 _ _ _ _ _ _ hv3 hv2 okb oka) rfl ?_
          refine Lx.y (gtr rfl rfl) rfl ?_
          refine Lx.y (mv rfl) rfl ?_
          refine Lx.y (lss rfl rfl) rfl ?_
          refine Lx.y (Yx.tt (eqB Try.underlying4 rfl rfl) (ordS hsw)) rfl ?_
          refine Lx.y (mv rfl) rfl ?_
          refine Lx.gT rfl rfl rfl ?_
          refine Lx.y (mv rfl) rfl ?_
          refine Lx.gT rfl rfl rfl ?_
          refine Lx.y (leq rfl rfl) rfl ?_
          refine Lx.gT rfl rfl rfl ?_
          refine Lx.y (mv rfl) rfl ?_
          refine Xx.ifD (t := 88) rfl (fun h19 => ?_) (fun h19 => ?_)
          · skip
            have hn := h19
            refine Lx.gT rfl rfl rfl ?_
            refine Lx.y (mv rfl) rfl ?_
            refine Lx.gT rfl rfl rfl ?_
            refine Lx.y (leq rfl rfl) rfl ?_
            refine Lx.gT rfl rfl rfl ?_
            refine Lx.y (pickT rfl rfl) rfl ?_
            refine Lx.gT rfl rfl rfl ?_
            refine Lx.y (mv rfl) rfl ?_
            refine Xx.ifD (t := 92) rfl (fun h20 => ?_) (fun h20 => ?_)
            · skip
              have hm := h20
              refine Lx.gT rfl rfl rfl ?_
              refine Lx.y (mv rfl) rfl ?_
              refine Lx.gT rfl rfl rfl ?_
              refine Lx.y (gtr rfl rfl) rfl ?_
              refine Lx.gT rfl rfl rfl ?_
              refine Lx.y (pickT rfl rfl) rfl ?_
              refine Lx.gT rfl rfl rfl ?_
              refine Lx.y (Yx.tt (not' rfl) (by first | rfl | exact ord3 hT3 hn hm)) rfl ?_
              refine Lx.y (pickT rfl rfl) rfl ?_
              refine Lx.y (mv rfl) rfl ?_
              refine Lx.gT rfl rfl rfl ?_
              refine Lx.y (ldA Try.underlying46 rfl sz46 rfl (Cells.own (n := 6) PickB.eq rfl) rfl) rfl ?_
              refine Lx.gT rfl rfl rfl ?_
              refine Lx.y (ldA Try.underlying46 rfl sz46 rfl (Cells.own (n := 6) PickB.eq rfl) rfl) rfl ?_
              refine Lx.gT rfl rfl rfl ?_
              refine Lx.cp rfl rfl rfl (VSame_ct 9 _ _ _ _ _ _ hv2 hv3 oka okb) rfl ?_
              refine Lx.gT rfl rfl rfl ?_
              refine Lx.y (mv rfl) rfl ?_
              refine Lx.gT rfl rfl rfl ?_
              refine Lx.y (eqI rfl rfl) rfl ?_
              refine Lx.gT rfl rfl rfl ?_
              refine Lx.y (Yx.tt (eqB Try.underlying4 rfl rfl) (ordE _)) rfl ?_
              refine Lx.y (pickT rfl rfl) rfl ?_
              refine Lx.y (mv rfl) rfl ?_
              refine Lx.gT rfl rfl rfl ?_
              refine Lx.y (mv rfl) rfl ?_
              refine Lx.gT rfl rfl rfl ?_
              refine Lx.y (eqI rfl rfl) rfl ?_
              refine Lx.gT rfl rfl rfl ?_
              refine Lx.y (mv rfl) rfl ?_
              refine Lx.gT rfl rfl rfl ?_
              refine Lx.y (mv rfl) rfl ?_
              refine Lx.gT rfl rfl rfl ?_
              refine Lx.y (eqS rfl rfl) rfl ?_
              refine Lx.gT rfl rfl rfl ?_
              refine Lx.y (Yx.tt (eqB Try.underlying4 rfl rfl) (ordB hca hcb (ValR.rg hv2) (ValR.rg hv3))) rfl ?_
              refine Lx.y (pickT rfl rfl) rfl ?_
              refine Lx.y (asg rfl) rfl ?_
              refine Lx.nil ?_
              refine Xx.tn (k18 _ _ _ _ ?_)
              refine Cx.ret ?_
              refine Xx.dropB b9 (Xx.dropB b8 (Xx.dropB b7 ?_))
              first | exact Xx.rB1 rfl rfl rfl (Frag.le_trans hB4 (Frag.le_trans hB5 (Frag.le_trans hB6 (Frag.le_trans hB7 (Frag.le_trans hB8 hB9))))) rfl | exact Xx.rB1 rfl rfl rfl (Frag.le_trans hB4 hB5) rfl
            · skip
              refine Lx.gF rfl rfl rfl rfl ?_
              refine Lx.gF rfl rfl rfl rfl ?_
              refine Lx.gT rfl rfl rfl ?_
              refine Lx.y (pickF rfl rfl) rfl ?_
              refine Lx.gT rfl rfl rfl ?_
              refine Lx.y (Yx.tt (not' rfl) (by first | rfl | exact ord3 hT3 hn hm)) rfl ?_
              refine Lx.y (pickT rfl rfl) rfl ?_
              refine Lx.y (mv rfl) rfl ?_
              refine Lx.gT rfl rfl rfl ?_
              refine Lx.y (ldA Try.underlying46 rfl sz46 rfl (Cells.own (n := 6) PickB.eq rfl) rfl) rfl ?_
              refine Lx.gT rfl rfl rfl ?_
              refine Lx.y (ldA Try.underlying46 rfl sz46 rfl (Cells.own (n := 6) PickB.eq rfl) rfl) rfl ?_
              refine Lx.gT rfl rfl rfl ?_
              refine Lx.cp rfl rfl rfl (VSame_ct 9 _ _ _ _ _ _ hv2 hv3 oka okb) rfl ?_
              refine Lx.gT rfl rfl rfl ?_
              refine Lx.y (mv rfl) rfl ?_
              refine Lx.gT rfl rfl rfl ?_
              refine Lx.y (eqI rfl rfl) rfl ?_
              refine Lx.gT rfl rfl rfl ?_
              refine Lx.y (Yx.tt (eqB Try.underlying4 rfl rfl) (ordE _)) rfl ?_
              refine Lx.y (pickT rfl rfl) rfl ?_
              refine Lx.y (mv rfl) rfl ?_
              refine Lx.gT rfl rfl rfl ?_
              refine Lx.y (mv rfl) rfl ?_
              refine Lx.gT rfl rfl rfl ?_
              refine Lx.y (eqI rfl rfl) rfl ?_
              refine Lx.gT rfl rfl rfl ?_
              refine Lx.y (mv rfl) rfl ?_
              refine Lx.gT rfl rfl rfl ?_
              refine Lx.y (mv rfl) rfl ?_
              refine Lx.gT rfl rfl rfl ?_
              refine Lx.y (eqS rfl rfl) rfl ?_
              refine Lx.gT rfl rfl rfl ?_
              refine Lx.y (Yx.tt (eqB Try.underlying4 rfl rfl) (ordB hca hcb (ValR.rg hv2) (ValR.rg hv3))) rfl ?_
              refine Lx.y (pickT rfl rfl) rfl ?_
              refine Lx.y (asg rfl) rfl ?_
              refine Lx.nil ?_
              refine Xx.tn (k18 _ _ _ _ ?_)
              refine Cx.ret ?_
              refine Xx.dropB b9 (Xx.dropB b8 (Xx.dropB b7 ?_))
              first | exact Xx.rB1 rfl rfl rfl (Frag.le_trans hB4 (Frag.le_trans hB5 (Frag.le_trans hB6 (Frag.le_trans hB7 (Frag.le_trans hB8 hB9))))) rfl | exact Xx.rB1 rfl rfl rfl (Frag.le_trans hB4 hB5) rfl
          · skip
            refine Lx.gF rfl rfl rfl rfl ?_
            refine Lx.gF rfl rfl rfl rfl ?_
            refine Lx.gT rfl rfl rfl ?_
            refine Lx.y (pickF rfl rfl) rfl ?_
            refine Lx.gT rfl rfl rfl ?_
            refine Lx.y (mv rfl) rfl ?_
            refine Lx.gF rfl rfl rfl rfl ?_
            refine Lx.gF rfl rfl rfl rfl ?_
            refine Lx.gT rfl rfl rfl ?_
            refine Lx.y (pickF rfl rfl) rfl ?_
            refine Lx.gT rfl rfl rfl ?_
            refine Lx.y (Yx.tt (not' rfl) (by first | rfl | exact ord3 hT3 hn hm)) rfl ?_
            refine Lx.y (pickT rfl rfl) rfl ?_
            refine Lx.y (mv rfl) rfl ?_
            refine Lx.gT rfl rfl rfl ?_
            refine Lx.y (ldA Try.underlying46 rfl sz46 rfl (Cells.own (n := 6) PickB.eq rfl) rfl) rfl ?_
            refine Lx.gT rfl rfl rfl ?_
            refine Lx.y (ldA Try.underlying46 rfl sz46 rfl (Cells.own (n := 6) PickB.eq rfl) rfl) rfl ?_
            refine Lx.gT rfl rfl rfl ?_
            refine Lx.cp rfl rfl rfl (VSame_ct 9 _ _ _ _ _ _ hv2 hv3 oka okb) rfl ?_
            refine Lx.gT rfl rfl rfl ?_
            refine Lx.y (mv rfl) rfl ?_
            refine Lx.gT rfl rfl rfl ?_
            refine Lx.y (eqI rfl rfl) rfl ?_
            refine Lx.gT rfl rfl rfl ?_
            refine Lx.y (Yx.tt (eqB Try.underlying4 rfl rfl) (ordE _)) rfl ?_
            refine Lx.y (pickT rfl rfl) rfl ?_
            refine Lx.y (mv rfl) rfl ?_
            refine Lx.gT rfl rfl rfl ?_
            refine Lx.y (mv rfl) rfl ?_
            refine Lx.gT rfl rfl rfl ?_
            refine Lx.y (eqI rfl rfl) rfl ?_
            refine Lx.gT rfl rfl rfl ?_
            refine Lx.y (mv rfl) rfl ?_
            refine Lx.gT rfl rfl rfl ?_
            refine Lx.y (mv rfl) rfl ?_
            refine Lx.gT rfl rfl rfl ?_
            refine Lx.y (eqS rfl rfl) rfl ?_
            refine Lx.gT rfl rfl rfl ?_
            refine Lx.y (Yx.tt (eqB Try.underlying4 rfl rfl) (ordB hca hcb (ValR.rg hv2) (ValR.rg hv3))) rfl ?_
            refine Lx.y (pickT rfl rfl) rfl ?_
            refine Lx.y (asg rfl) rfl ?_
            refine Lx.nil ?_
            refine Xx.tn (k18 _ _ _ _ ?_)
            refine Cx.ret ?_
            refine Xx.dropB b9 (Xx.dropB b8 (Xx.dropB b7 ?_))
            first | exact Xx.rB1 rfl rfl rfl (Frag.le_trans hB4 (Frag.le_trans hB5 (Frag.le_trans hB6 (Frag.le_trans hB7 (Frag.le_trans hB8 hB9))))) rfl | exact Xx.rB1 rfl rfl rfl (Frag.le_trans hB4 hB5) rfl
end VaP
end Go.Proofs.Ytcoiejmlpinpbaa
