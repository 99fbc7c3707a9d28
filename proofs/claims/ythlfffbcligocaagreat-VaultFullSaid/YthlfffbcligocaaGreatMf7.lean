/-
  Texts of this seat, one behind the other: VhZ, ViA, ViB, ViE, ViG, ViC, ViF, ViH, ViI, ViD.
-/
import Derived.Test.YthlfffbcligocaaGreatProg
import Derived.Test.YthlfffbcligocaaGreatMf6
set_option linter.unusedSimpArgs false
set_option linter.unusedVariables false
namespace Go.Proofs.YthlfffbcligocaaGreat
open Go.SL Go.RowKit
set_option maxRecDepth 100000
open VhA VhB VhC VhD VhE VhF VhG VhH VhI VhJ VhK VhL VhM VhN VhO VhP VhQ VhR VhS VhT VhU VhV VhW VhX VhY
open Jn1 (Rc rcc)
namespace VhZ
theorem sz3 : (Tryz.prog.info? 3).map (·.size) = some 1 := by kernel_rfl
theorem sz4 : (Tryz.prog.info? 4).map (·.size) = some 1 := by kernel_rfl
theorem sz9 : (Tryz.prog.info? 9).map (·.size) = some 1 := by kernel_rfl
theorem sz22 : (Tryz.prog.info? 22).map (·.size) = some 1 := by kernel_rfl
theorem sz23 : (Tryz.prog.info? 23).map (·.size) = some 1 := by kernel_rfl
theorem sz25 : (Tryz.prog.info? 25).map (·.size) = some 4 := by kernel_rfl
theorem sz40 : (Tryz.prog.info? 40).map (·.size) = some 8 := by kernel_rfl
theorem sz123 : (Tryz.prog.info? 123).map (·.size) = some 2 := by kernel_rfl
theorem sz149 : (Tryz.prog.info? 149).map (·.size) = some 4 := by kernel_rfl
theorem ti25 : TI Tryz.prog 25 [.int .u64 0, str [], .int .u64 0, .slice none 0 0] 4 56 := TI.of (by kernel_rfl) rfl rfl
theorem ti40 : TI Tryz.prog 40 [.int .i64 0, str [], str [], .int .u64 0, .int .u64 0, str [], str [], .bool false] 8 96 := TI.of (by kernel_rfl) rfl rfl
theorem ti123 : TI Tryz.prog 123 [.int .u64 0, .int .i64 0] 2 16 := TI.of (by kernel_rfl) rfl rfl
theorem fo149_2 : FO Tryz.prog 149 2 2 1 false := FO.of U149 rfl rfl (by kernel_rfl) U9 rfl rfl
theorem fo149_3 : FO Tryz.prog 149 3 3 1 false := FO.of U149 rfl rfl (by kernel_rfl) U4 rfl rfl
theorem pl123 : PL Tryz.prog 123 [(0, 1), (1, 1)] := PL.of U123 (by kernel_rfl)
theorem plc_key : MKey.key Plc Tryz.prog 123 := ⟨_, _, U123, by kernel_rfl, by decide, by decide, U22, U3, rfl, rfl⟩
theorem era_no {r : Rc} (h : r.good = false ∨ r.body.length < 1 ∨ ¬ r.body.take 1 = [69]) : eraseF r = ((0#64, 0), false) := by unfold eraseF; rw [if_pos h]
theorem era_yes {r : Rc} (h : ¬ (r.good = false ∨ r.body.length < 1 ∨ ¬ r.body.take 1 = [69])) : eraseF r = (((eraC (r.body.drop 1)).2.1, ((eraC (r.body.drop 1)).2.2 : Int)), decide ((eraC (r.body.drop 1)).1.fin.e = 0)) := by unfold eraseF; rw [if_neg h]
set_option maxHeartbeats 4000000 in
theorem erase_ct (r : Rc) (B : Frag) (hb : r.body.length ≤ 1000000) : CtP Tryz.prog 106 [.agg (rcc r).toArray] B (.tuple #[.agg #[u64 (eraseF r).1.1, i64 (eraseF r).1.2], .bool (eraseF r).2]) := by
 have q0 : (⟨r.body.drop 1, 0, 0⟩ : Cu).ok := ⟨Nat.zero_le _, by show (r.body.drop 1).length ≤ _; rw [List.length_drop]; omega⟩
 have q1 := Cu.uint_ok q0
 have q2 := Cu.count_ok q1 64
 refine CtB.of_body Tryz.func106 rfl (nt := 35) rfl (by kernel_rfl) rfl ?_
 intro N0 w0 R
 refine Cq (fun K1 k1 => ?_)
 refine Cr ?_
 refine Lx.new (boxA rfl) rfl (fun b1 => ?_)
 refine Lx.new (allocO ti123) rfl (fun br => ?_)
 refine Lx.y (asg rfl) rfl <| Lx.nil <| ?_
 refine Xx.tn (k1 _ _ _ _ ?_)
 refine Cq (fun K2 k2 => ?_)
 refine Cq (fun K3 k3 => ?_)
 refine Cr <| Lx.y (fa' fo149_3 rfl) rfl <| Lx.y (ld U4 rfl rfl rfl) rfl <| Lx.y (not' rfl) rfl <| Lx.y (mv rfl) rfl <| ?_
 refine Xx.ifB (t := 9) rfl (fun h4 => ?_) (fun h4 => ?_)
 ·
  have g1 := h4
  have hz := era_no (r := r) (.inl (by simpa using g1))
  refine Lx.gF rfl rfl rfl rfl <| Lx.gF rfl rfl rfl rfl <| Lx.gF rfl rfl rfl rfl <| Lx.gF rfl rfl rfl rfl <| Lx.y (pickT rfl rfl) rfl <| Lx.y (mv rfl) rfl <| Lx.gF rfl rfl rfl rfl <| Lx.gF rfl rfl rfl rfl <| Lx.gF rfl rfl rfl rfl <| Lx.gF rfl rfl rfl rfl <| Lx.y (pickT rfl rfl) rfl <| Lx.nil <| ?_
  refine Xx.tn (k3 _ _ _ _ ?_)
  refine Cx.condT rfl ?_
  refine Cq (fun K5 k5 => ?_)
  refine Cr <| Lx.y (bld ti123 pl123 rfl rfl) rfl <| ?_
  refine Lx.st (stA (d := .bool) sz123 rfl rfl rfl rfl (by show 0 + 2 ≤ 2; omega) rfl) ?_
  refine Lx.y (asg rfl) rfl <| Lx.nil <| ?_
  refine Xx.tn (k5 _ _ _ _ ?_)
  refine Cx.ret <| Xx.tr <| ?_
  refine Xx.dropB b1 ?_
  exact Xx.rBc rfl U123 rfl sz123 rfl rfl rfl ⟨by rw [hz]; rfl, rfl⟩ (Fl _)
 ·
  have g1 := h4
  refine Lx.gT rfl rfl rfl <| Lx.y (fa' fo149_2 rfl) rfl <| Lx.gT rfl rfl rfl <| Lx.y (ld U9 rfl rfl rfl) rfl <| Lx.gT rfl rfl rfl <| Lx.y (lenS U9 rfl) rfl <| Lx.gT rfl rfl rfl <| Lx.y (lss rfl rfl) rfl <| Lx.y (pickF rfl rfl) rfl <| Lx.y (mv rfl) rfl <| ?_
  refine Xx.ifD (t := 15) rfl (fun h6 => ?_) (fun h6 => ?_)
  ·
   have g2 := h6
   have hz := era_no (r := r) (.inr (.inl (by omega)))
   refine Lx.gF rfl rfl rfl rfl <| Lx.gF rfl rfl rfl rfl <| Lx.gF rfl rfl rfl rfl <| Lx.gF rfl rfl rfl rfl <| Lx.y (pickT rfl rfl) rfl <| Lx.nil <| ?_
   refine Xx.tn (k3 _ _ _ _ ?_)
   refine Cx.condT rfl ?_
   refine Cq (fun K7 k7 => ?_)
   refine Cr <| Lx.y (bld ti123 pl123 rfl rfl) rfl <| ?_
   refine Lx.st (stA (d := .bool) sz123 rfl rfl rfl rfl (by show 0 + 2 ≤ 2; omega) rfl) ?_
   refine Lx.y (asg rfl) rfl <| Lx.nil <| ?_
   refine Xx.tn (k7 _ _ _ _ ?_)
   refine Cx.ret <| Xx.tr <| ?_
   refine Xx.dropB b1 ?_
   exact Xx.rBc rfl U123 rfl sz123 rfl rfl rfl ⟨by rw [hz]; rfl, rfl⟩ (Fl _)
  ·
   have g2 := h6
   refine Lx.gT rfl rfl rfl <| Lx.y (fa' fo149_2 rfl) rfl <| Lx.gT rfl rfl rfl <| Lx.y (ld U9 rfl rfl rfl) rfl <| Lx.gT rfl rfl rfl <| Lx.y (sl2S U9 rfl rfl (show Int.toNat _ = 1 from rfl) (by omega) (by omega)) rfl <| Lx.gT rfl rfl rfl <| Lx.y (neS rfl rfl) rfl <| Lx.y (pickF rfl rfl) rfl <| Lx.nil <| ?_
   refine Xx.tn (k3 _ _ _ _ ?_)
   refine Cx.condN rfl (fun h8 => ?_) (fun h8 => ?_)
   ·
    have g3 := h8
    have hz := era_no (r := r) (.inr (.inr g3))
    refine Cq (fun K9 k9 => ?_)
    refine Cr <| Lx.y (bld ti123 pl123 rfl rfl) rfl <| ?_
    refine Lx.st (stA (d := .bool) sz123 rfl rfl rfl rfl (by show 0 + 2 ≤ 2; omega) rfl) ?_
    refine Lx.y (asg rfl) rfl <| Lx.nil <| ?_
    refine Xx.tn (k9 _ _ _ _ ?_)
    refine Cx.ret <| Xx.tr <| ?_
    refine Xx.dropB b1 ?_
    exact Xx.rBc rfl U123 rfl sz123 rfl rfl rfl ⟨by rw [hz]; rfl, rfl⟩ (Fl _)
   ·
    have g3 := h8
    have hz := era_yes (r := r) (fun e => e.elim (fun e => by simp_all) fun e => e.elim (fun e => by omega) fun e => e g3)
    refine Cx.skip ?_
    refine Xx.tn (k2 _ _ _ _ ?_)
    refine Cq (fun K10 k10 => ?_)
    refine Cr <| Lx.y (fa' fo149_2 rfl) rfl <| Lx.y (ld U9 rfl rfl rfl) rfl <| Lx.y (sl1S U9 rfl rfl (show Int.toNat _ = 1 from rfl) (by omega) (by omega)) rfl <| ?_
    refine Lx.c rfl rfl rfl (At_ct (r.body.drop 1) _) ((one_star _).symm) rfl ?_
    rintro v1 B1 H1 ⟨b, rfl, hBB, rfl⟩ hB1
    have hBB2 := hBB.symm
    subst hBB2
    clear hB1
    refine Lx.y (asg rfl) rfl <| Lx.nil <| ?_
    refine Xx.tn (k10 _ _ _ _ ?_)
    refine Cq (fun K11 k11 => ?_)
    refine Cr <| Lx.y (mv rfl) rfl <| ?_
    refine Lx.co rfl rfl rfl (Uint_ct (⟨r.body.drop 1, 0, 0⟩ : Cu) b _ q0) (Pick.eq) rfl ?_
    refine Lx.y (mv rfl) rfl ?_
    refine Lx.co rfl rfl rfl (Count_ct (⟨r.body.drop 1, 0, 0⟩ : Cu).uint.1 b _ 64 q1 (by decide)) (Pick.eq) rfl ?_
    refine Lx.y (bld ti123 pl123 rfl rfl) rfl ?_
    refine Lx.new (allocO ti123) rfl (fun b5 => ?_)
    refine Lx.st (stA (d := .bool) sz123 rfl rfl rfl rfl (by show 0 + 2 ≤ 2; omega) rfl) ?_
    refine Lx.nil ?_
    refine Xx.tn (k11 _ _ _ _ ?_)
    refine Cq (fun K12 k12 => ?_)
    refine Cx.drawn (by kernel_rfl) ?_
    refine Dx.r (i := 0) rfl (by kernel_rfl) (ldA U123 rfl sz123 rfl (Co (n := 2) Pe rfl) rfl) rfl ?_
    refine Dx.p (i := 1) rfl (by kernel_rfl) (mv rfl) rfl ?_
    refine Dx.one (i := 2) (by kernel_rfl) ?_
    refine Dstep.o (i := 2) rfl (Ox.co rfl rfl rfl (End_ct ((⟨r.body.drop 1, 0, 0⟩ : Cu).uint.1.count 64).1 b _ q2) (Pick.eq)) rfl (fun v B' H' hΦ hB => ?_)
    obtain ⟨rfl, Y, rfl⟩ := hΦ; have E := Y.symm; subst E; clear hB
    refine ⟨Jy (Jt) (ldA U123 rfl sz123 rfl (Co (n := 2) Pe rfl) rfl), ?_⟩
    refine Dx.p (i := 3) rfl (by kernel_rfl) (eqI rfl rfl) rfl ?_
    refine Dx.one (i := 4) (by kernel_rfl) ?_
    refine Dstep.o0 (i := 4) rfl (stA (d := .bool) sz123 rfl rfl rfl rfl (by show 0 + 2 ≤ 2; omega) rfl) (fun v B' H' hΦ hB => ?_)
    obtain ⟨Y, rfl⟩ := hΦ; have E := Y.symm; subst E; clear hB v
    refine ⟨Je (Jt) (by kernel_rfl), ?_⟩
    refine Dx.p (i := 5) rfl (by kernel_rfl) (asg rfl) rfl ?_
    refine Dx.done (by kernel_rfl) ?_
    refine Xx.tn (k12 _ _ _ _ ?_)
    refine Cx.ret ?_
    refine Xx.dropB b5 (Xx.dropB b (Xx.dropB b1 ?_))
    exact Xx.rBc rfl U123 rfl sz123 rfl rfl rfl ⟨by rw [hz]; rfl, rfl⟩ (Fl _)
set_option maxHeartbeats 1000000 in
theorem says_ct (r : Rc) (B : Frag) : CtP Tryz.prog 138 [.agg (rcc r).toArray] B (str (saysF r)) := by
 refine CtB.of_body Tryz.func138 rfl (nt := 15) rfl (by kernel_rfl) rfl ?_
 intro N0 w0 R
 refine Cq (fun K1 k1 => ?_)
 refine Cr ?_
 refine Lx.new (boxA rfl) rfl (fun b1 => ?_)
 refine Lx.y (asg rfl) rfl <| Lx.nil <| ?_
 refine Xx.tn (k1 _ _ _ _ ?_)
 refine Cq (fun K2 k2 => ?_)
 refine Cq (fun K3 k3 => ?_)
 refine Cr <| Lx.y (fa' fo149_3 rfl) rfl <| Lx.y (ld U4 rfl rfl rfl) rfl <| Lx.y (not' rfl) rfl <| Lx.y (mv rfl) rfl <| ?_
 refine Xx.ifB (t := 6) rfl (fun h4 => ?_) (fun h4 => ?_)
 ·
  have g1 := h4
  refine Lx.gF rfl rfl rfl rfl <| Lx.gF rfl rfl rfl rfl <| Lx.gF rfl rfl rfl rfl <| Lx.gF rfl rfl rfl rfl <| Lx.y (pickT rfl rfl) rfl <| Lx.nil <| ?_
  refine Xx.tn (k3 _ _ _ _ ?_)
  refine Cx.condT rfl ?_
  refine Cq (fun K5 k5 => ?_)
  refine Cr <| Lx.y (asg rfl) rfl <| Lx.nil <| ?_
  refine Xx.tn (k5 _ _ _ _ ?_)
  refine Cx.ret <| Xx.tr <| ?_
  refine Xx.dropB b1 ?_
  exact Xx.rB1 rfl rfl ⟨by unfold saysF; rw [if_pos (.inl (by simpa using g1))], rfl⟩ (Fl _) rfl
 ·
  have g1 := h4
  refine Lx.gT rfl rfl rfl <| Lx.y (fa' fo149_2 rfl) rfl <| Lx.gT rfl rfl rfl <| Lx.y (ld U9 rfl rfl rfl) rfl <| Lx.gT rfl rfl rfl <| Lx.y (lenS U9 rfl) rfl <| Lx.gT rfl rfl rfl <| Lx.y (lss rfl rfl) rfl <| Lx.y (pickF rfl rfl) rfl <| Lx.nil <| ?_
  refine Xx.tn (k3 _ _ _ _ ?_)
  refine Cx.condD rfl (fun h6 => ?_) (fun h6 => ?_)
  ·
   have g2 := h6
   refine Cq (fun K7 k7 => ?_)
   refine Cr <| Lx.y (asg rfl) rfl <| Lx.nil <| ?_
   refine Xx.tn (k7 _ _ _ _ ?_)
   refine Cx.ret <| Xx.tr <| ?_
   refine Xx.dropB b1 ?_
   exact Xx.rB1 rfl rfl ⟨by unfold saysF; rw [if_pos (.inr (by omega))], rfl⟩ (Fl _) rfl
  ·
   have g2 := h6
   refine Cx.skip ?_
   refine Xx.tn (k2 _ _ _ _ ?_)
   refine Cq (fun K8 k8 => ?_)
   refine Cr <| Lx.y (fa' fo149_2 rfl) rfl <| Lx.y (ld U9 rfl rfl rfl) rfl <| Lx.y (sl2S U9 rfl rfl (show Int.toNat _ = 1 from rfl) (by omega) (by omega)) rfl <| Lx.y (asg rfl) rfl <| Lx.nil <| ?_
   refine Xx.tn (k8 _ _ _ _ ?_)
   refine Cx.ret ?_
   refine Xx.dropB b1 ?_
   exact Xx.rB1 rfl rfl ⟨by unfold saysF; rw [if_neg (fun e => e.elim (fun e => by simp_all) fun e => by omega)], rfl⟩ (Fl _) rfl
structure Vm where
  ms : List Bm
  ends : Nat
  bod : List (Plc × Value)
  db : Nat
  jb : Nat
  tb : Nat
  mb : Nat
  Al : Option Addr
  cl : Nat
  A1 : Option Addr
  c1 : Nat
  A2 : Option Addr
  c2 : Nat
def vcs (x : Vm) : List Value := [.pointer (some ⟨x.db, 0, none⟩), .pointer (some ⟨x.jb, 0, none⟩), .slice x.Al x.ms.length x.cl, .pointer (some ⟨x.tb, 0, none⟩), .map (some x.mb), i64 (x.ends : Int), i64 0]
def lvs (x : Vm) : List (List UInt8) := x.ms.map fun b => leafF (hashB b.b)
def mkO (x : Vm) : Mk := ⟨lvs x, pkOf (lvs x), x.A1, x.c1, x.A2, x.c2⟩
def vH (vb : Nat) (x : Vm) : HP := row vb 94 (vcs x) * (sbuf 25 4 x.Al x.ms.length x.cl (x.ms.flatMap bmc) * (mkH x.tb (mkO x) * gmap x.mb x.bod))
def Vm.vs (x : Vm) : Vs := ⟨x.ms.map (·.b), x.ends, x.bod⟩
def VmOk (B : Frag) (x : Vm) : Prop := (∀ b ∈ x.ms, b.ro B ∧ b.b.Ok) ∧ x.ms.length ≤ 1000000
theorem VmOk.mono {B B' : Frag} {x : Vm} (h : VmOk B x) (hB : B.le B') : VmOk B' x := ⟨fun b hb => ⟨Bm.ro_mono (h.1 b hb).1 hB, (h.1 b hb).2⟩, h.2⟩
theorem bmc_len (b : Bm) : (bmc b).length = 4 := rfl
theorem bmc_all (l : List Bm) : (l.flatMap bmc).all (·.oneCell') = true := by
  rw [List.all_eq_true]; intro v hv
  obtain ⟨x, _, hx⟩ := List.mem_flatMap.1 hv
  exact List.all_eq_true.1 (show (bmc x).all (·.oneCell') = true from rfl) v hx
theorem okR_le {r : Rv} (h : okR r = true) : RvLe 1024 r := by
  obtain ⟨_, _, h3, h4, _, h6⟩ := okR_and h
  have a1 := name_len h3
  have a2 := fldR_len h4
  have a3 := bytR_hash h6
  exact ⟨a3.2, by omega, by omega, by omega⟩
theorem ok_sm {b : Bk} (h : b.Ok) : BkSm b := by
  obtain ⟨h1, h2, h3, h4⟩ := h
  refine ⟨by omega, by omega, fun r hr => ?_⟩
  obtain ⟨_, q2, q3, q4⟩ := okR_le (List.all_eq_true.1 h4 r hr)
  exact ⟨by omega, by omega, by omega⟩
theorem ok_in {b : Bk} (h : b.Ok) : BkIn b := by
  obtain ⟨h1, h2, h3, h4⟩ := h
  refine ⟨by omega, fun r hr => ?_⟩
  obtain ⟨q1, q2, q3, q4⟩ := okR_le (List.all_eq_true.1 h4 r hr)
  exact ⟨by omega, by omega, by omega, by omega⟩
theorem lvs_all (x : Vm) : ∀ y ∈ lvs x, y.length ≤ 32 := fun y hy => by
  obtain ⟨r, _, rfl⟩ := List.mem_map.1 hy
  rw [leafF_len]; exact Nat.le_refl _
theorem vs_prev (x : Vm) {l : List Bm} {z : Bm} (h : x.ms = l ++ [z]) : prevF x.vs.l = hashB z.b := by
  show prevF (x.ms.map (·.b)) = _
  rw [h, List.map_append]; exact prevF_snoc _ _
end VhZ
end Go.Proofs.YthlfffbcligocaaGreat
namespace Go.Proofs.YthlfffbcligocaaGreat
open Go.SL Go.RowKit
set_option maxRecDepth 100000
open VhA VhB VhC VhD VhE VhF VhG VhH VhI VhJ VhK VhL VhM VhN VhO VhP VhQ VhR VhS VhT VhU VhV VhW VhX VhY VhZ
open Jn1 (Rc rcc)
open DkB (Dk dkH)
namespace ViA
theorem sz3 : (Tryz.prog.info? 3).map (·.size) = some 1 := by kernel_rfl
theorem sz4 : (Tryz.prog.info? 4).map (·.size) = some 1 := by kernel_rfl
theorem sz9 : (Tryz.prog.info? 9).map (·.size) = some 1 := by kernel_rfl
theorem sz22 : (Tryz.prog.info? 22).map (·.size) = some 1 := by kernel_rfl
theorem sz23 : (Tryz.prog.info? 23).map (·.size) = some 1 := by kernel_rfl
theorem sz25 : (Tryz.prog.info? 25).map (·.size) = some 4 := by kernel_rfl
theorem sz40 : (Tryz.prog.info? 40).map (·.size) = some 8 := by kernel_rfl
theorem sz51 : (Tryz.prog.info? 51).map (·.size) = some 1 := by kernel_rfl
theorem sz123 : (Tryz.prog.info? 123).map (·.size) = some 2 := by kernel_rfl
theorem sz149 : (Tryz.prog.info? 149).map (·.size) = some 4 := by kernel_rfl
theorem ti25 : TI Tryz.prog 25 [.int .u64 0, str [], .int .u64 0, .slice none 0 0] 4 56 := TI.of (by kernel_rfl) rfl rfl
theorem ti40 : TI Tryz.prog 40 [.int .i64 0, str [], str [], .int .u64 0, .int .u64 0, str [], str [], .bool false] 8 96 := TI.of (by kernel_rfl) rfl rfl
theorem ti123 : TI Tryz.prog 123 [.int .u64 0, .int .i64 0] 2 16 := TI.of (by kernel_rfl) rfl rfl
theorem fo25_0 : FO Tryz.prog 25 0 0 1 false := FO.of U25 rfl rfl (by kernel_rfl) U22 rfl rfl
theorem fo94_0 : FO Tryz.prog 94 0 0 1 false := FO.of U94 rfl rfl (by kernel_rfl) U27 rfl rfl
theorem fo94_2 : FO Tryz.prog 94 2 2 1 false := FO.of U94 rfl rfl (by kernel_rfl) U51 rfl rfl
theorem fo94_3 : FO Tryz.prog 94 3 3 1 false := FO.of U94 rfl rfl (by kernel_rfl) U66 rfl rfl
theorem fo94_4 : FO Tryz.prog 94 4 4 1 false := FO.of U94 rfl rfl (by kernel_rfl) U92 rfl rfl
theorem fo94_6 : FO Tryz.prog 94 6 6 1 false := FO.of U94 rfl rfl (by kernel_rfl) U28 rfl rfl
theorem pl123 : PL Tryz.prog 123 [(0, 1), (1, 1)] := PL.of U123 (by kernel_rfl)
theorem bodK_app (b : Bk) (a : Nat) : ∀ (l1 l2 : List Nat) (k : Nat) (g : List (Plc × Value)), bodK b a (l1 ++ l2) k g = bodK b a l2 (k + l1.length) (bodK b a l1 k g) := by
  intro l1
  induction l1 with
  | nil => intro l2 k g; rfl
  | cons i l1 ih =>
    intro l2 k g
    rw [List.cons_append, bodK, ih, bodK, List.length_cons, show k + 1 + l1.length = k + (l1.length + 1) by omega]
theorem bodK_split (b : Bk) (a : Nat) (l : List Nat) (k : Nat) (hk : k ≤ l.length) (g : List (Plc × Value)) : bodK b a l 0 g = bodK b a (l.drop k) k (bodK b a (l.take k) 0 g) := by
  have h := bodK_app b a (l.take k) (l.drop k) 0 g
  rw [List.take_append_drop, List.length_take, Nat.min_eq_left hk, Nat.zero_add] at h
  exact h
theorem bodK_take (b : Bk) (a : Nat) (l : List Nat) (i : Nat) (h : i < l.length) (g : List (Plc × Value)) : gset (b.seq, (l[i] : Int)) (i64 ((a + 1 + i : Nat) : Int)) (bodK b a (l.take i) 0 g) = bodK b a (l.take (i + 1)) 0 g := by
  rw [List.take_succ_eq_append_getElem h, bodK_app, List.length_take, Nat.min_eq_left (Nat.le_of_lt h), Nat.zero_add]
  rfl
set_option maxHeartbeats 2000000 in
theorem prev_ct (vb : Nat) (x : Vm) (B : Frag) (hk : VmOk B x) : CtC Tryz.prog 45 [.pointer (some ⟨vb, 0, none⟩)] B (vH vb x) (str (prevF x.vs.l)) (vH vb x) := by
 refine Ct.of_body Tryz.func45 rfl (nt := 22) rfl (by kernel_rfl) rfl ?_
 intro N0 w0 R
 unfold vH
 simp only [star_assoc]
 refine Cq (fun K1 k1 => ?_)
 refine Cr <| Lx.y (asg rfl) rfl <| Lx.nil <| ?_
 refine Xx.tn (k1 _ _ _ _ ?_)
 refine Cq (fun K2 k2 => ?_)
 refine Cq (fun K3 k3 => ?_)
 refine Cr <| Lx.y (mv rfl) rfl <| Lx.y (nilc rfl) rfl <| Lx.y (fa' fo94_2 rfl) rfl <| Lx.y (ld U51 rfl rfl rfl) rfl <| Lx.y (lenV (ty' := 0) U51 rfl) rfl <| Lx.y (eqI rfl rfl) rfl <| Lx.nil <| ?_
 refine Xx.tn (k3 _ _ _ _ ?_)
 refine Cx.condD rfl (fun h4 => ?_) (fun h4 => ?_)
 ·
  have h0 := h4
  have h0 : x.ms = [] := List.length_eq_zero_iff.1 (by omega)
  have hz : prevF x.vs.l = [] := by show prevF (x.ms.map (·.b)) = []; rw [h0]; rfl
  refine Cq (fun K5 k5 => ?_)
  refine Cr <| Lx.y (asg rfl) rfl <| Lx.nil <| ?_
  refine Xx.tn (k5 _ _ _ _ ?_)
  refine Cx.ret <| Xx.tr <| ?_
  exact Xx.ret1 rfl rfl ⟨by rw [hz], rfl, rfl⟩ (Fl _) (by ac_rfl)
 ·
  have h0 := h4
  obtain ⟨l, z, hlz⟩ : ∃ l z, x.ms = l ++ [z] := (snoc_cases x.ms).resolve_left fun e => h0 (by rw [e]; rfl)
  have hz := vs_prev x hlz
  obtain ⟨hzr, hzo⟩ := hk.1 z (by rw [hlz]; simp)
  have hlen : x.ms.length = l.length + 1 := by rw [hlz]; simp
  have hk2 := hk.2
  refine Xx.addrT x.Al (by omega) (fun bl hA hxl hxc => ?_)
  refine Cx.skip ?_
  refine Xx.tn (k2 _ _ _ _ ?_)
  refine Cq (fun K6 k6 => ?_)
  rw [hA]
  refine Cx.drawn (by kernel_rfl) ?_
  refine Dx.p (i := 0) rfl (by kernel_rfl) (mv rfl) rfl ?_
  refine Dx.p (i := 1) rfl (by kernel_rfl) (nilc rfl) rfl ?_
  refine Dx.p (i := 2) rfl (by kernel_rfl) (fa' fo94_2 rfl) rfl ?_
  refine Dx.r (i := 3) rfl (by kernel_rfl) (Yx.val (ld U51 rfl rfl rfl) (show _ = Value.slice (some ⟨bl, 0, none⟩) x.ms.length x.cl from by rw [← hA])) rfl ?_
  refine Dx.p (i := 4) rfl (by kernel_rfl) (mv rfl) rfl ?_
  refine Dx.p (i := 5) rfl (by kernel_rfl) (nilc rfl) rfl ?_
  refine Dx.p (i := 6) rfl (by kernel_rfl) (fa' fo94_2 rfl) rfl ?_
  refine Dx.r (i := 7) rfl (by kernel_rfl) (ld U51 rfl rfl rfl) rfl ?_
  refine Dx.p (i := 8) rfl (by kernel_rfl) (lenV (ty' := 0) U51 rfl) rfl ?_
  refine Dx.p (i := 9) rfl (by kernel_rfl) (sub rfl rfl (show IntKind.i64.wrap _ = ((l.length : Nat) : Int) from (wrap64 (by omega) (by omega)).trans (by omega))) rfl ?_
  refine Dx.p (i := 10) rfl (by kernel_rfl) (ia (j := l.length) U51 sz25 rfl rfl (Int.toNat_natCast _) (by omega) (by omega)) rfl ?_
  refine Dx.r (i := 11) rfl (by kernel_rfl) (ldA U25 rfl sz25 rfl (Cells.buf (b := bl) (m := 4) (show _ = bmc z from by rw [Nat.zero_add, flatG_at bmc_len l.length x.ms (by omega)]; congr 1; simp [hlz]) (by rw [flatG_len bmc_len]; omega)) rfl) rfl ?_
  refine Dx.one (i := 12) (by kernel_rfl) ?_
  refine Dstep.o (i := 12) rfl (Ox.cb rfl rfl rfl (Hash_ct z _ hzr (ok_sm hzo))) rfl (fun v B' H' hΦ hB => ?_)
  obtain ⟨rfl, rfl, rfl⟩ := hΦ; clear hB
  refine ⟨Je (Jy (Jy (Jt) (Yx.val (ld U51 rfl rfl rfl) (show _ = Value.slice (some ⟨bl, 0, none⟩) x.ms.length x.cl from by rw [← hA]))) (ld U51 rfl rfl rfl)) (by kernel_rfl), ?_⟩
  refine Dx.p (i := 13) rfl (by kernel_rfl) (asg rfl) rfl ?_
  refine Dx.done (by kernel_rfl) ?_
  refine Xx.tn (k6 _ _ _ _ ?_)
  refine Cx.ret ?_
  exact Xx.ret1 rfl rfl ⟨by rw [hz], rfl, rfl⟩ (Fl _) (by rw [← hA]; ac_rfl)
set_option maxHeartbeats 1000000 in
theorem Prev_ct (vb : Nat) (x : Vm) (B : Frag) (hk : VmOk B x) : CtC Tryz.prog 16 [.pointer (some ⟨vb, 0, none⟩)] B (vH vb x) (str (prevF x.vs.l)) (vH vb x) := by
 refine Ct.of_body Tryz.func16 rfl (nt := 7) rfl (by kernel_rfl) rfl ?_
 intro N0 w0 R
 skip
 refine Cq (fun K1 k1 => ?_)
 refine Cr <| Lx.y (asg rfl) rfl <| Lx.nil <| ?_
 refine Xx.tn (k1 _ _ _ _ ?_)
 refine Cq (fun K2 k2 => ?_)
 refine Cq (fun K3 k3 => ?_)
 refine Cr <| Lx.y (mv rfl) rfl <| Lx.y (Yx.ff (eqNilP U31 rfl rfl) rfl) rfl <| Lx.nil <| ?_
 refine Xx.tn (k3 _ _ _ _ ?_)
 refine Cx.condF rfl <| Cx.skip <| ?_
 refine Xx.tn (k2 _ _ _ _ ?_)
 refine Cq (fun K4 k4 => ?_)
 refine Cr <| Lx.y (mv rfl) rfl <| ?_
 refine Lx.co rfl rfl rfl (prev_ct vb x _ hk) (rfl) rfl ?_
 refine Lx.y (asg rfl) rfl <| Lx.nil <| ?_
 refine Xx.tn (k4 _ _ _ _ ?_)
 refine Cx.ret ?_
 exact Xx.ret1 rfl rfl ⟨rfl, rfl, rfl⟩ (Fl _) rfl
set_option maxHeartbeats 1000000 in
theorem VLen_ct (vb : Nat) (x : Vm) (B : Frag) : CtC Tryz.prog 17 [.pointer (some ⟨vb, 0, none⟩)] B (vH vb x) (u64 (BitVec.ofInt 64 (x.ms.length : Nat))) (vH vb x) := by
  refine Ct.of_body Tryz.func17 rfl (nt := 11) rfl (by kernel_rfl) rfl ?_
  intro N0 w0 R
  unfold vH
  simp only [star_assoc]
  refine Cq (fun K1 k1 => ?_)
  refine Cr <| Lx.y (asg rfl) rfl <| Lx.nil <| ?_
  refine Xx.tn (k1 _ _ _ _ ?_)
  refine Cq (fun K2 k2 => ?_)
  refine Cq (fun K3 k3 => ?_)
  refine Cr <| Lx.y (mv rfl) rfl <| Lx.y (Yx.ff (eqNilP U31 rfl rfl) rfl) rfl <| Lx.nil <| ?_
  refine Xx.tn (k3 _ _ _ _ ?_)
  refine Cx.condF rfl <| Cx.skip <| ?_
  refine Xx.tn (k2 _ _ _ _ ?_)
  refine Cq (fun K4 k4 => ?_)
  refine Cr <| Lx.y (mv rfl) rfl <| Lx.y (nilc rfl) rfl <| Lx.y (fa' fo94_2 rfl) rfl <| Lx.y (ld U51 rfl rfl rfl) rfl <| Lx.y (lenV (ty' := 0) U51 rfl) rfl <| Lx.y (cvW64 rfl U3 U22) rfl <| Lx.y (asg rfl) rfl <| Lx.nil <| ?_
  refine Xx.tn (k4 _ _ _ _ ?_)
  refine Cx.ret ?_
  exact Xx.ret1 rfl rfl ⟨rfl, rfl, rfl⟩ (Fl _) (by ac_rfl)
set_option maxHeartbeats 1000000 in
theorem VDead_ct (vb : Nat) (x : Vm) (d : Dk) (B : Frag) : CtC Tryz.prog 24 [.pointer (some ⟨vb, 0, none⟩)] B (vH vb x * dkH x.db d) (.bool d.dead) (vH vb x * dkH x.db d) := by
 refine Ct.of_body Tryz.func24 rfl (nt := 19) rfl (by kernel_rfl) rfl ?_
 intro N0 w0 R
 unfold vH
 simp only [star_assoc]
 refine Cq (fun K1 k1 => ?_)
 refine Cr <| Lx.y (asg rfl) rfl <| Lx.nil <| ?_
 refine Xx.tn (k1 _ _ _ _ ?_)
 refine Cq (fun K2 k2 => ?_)
 refine Cr <| Lx.y (mv rfl) rfl <| Lx.y (Yx.ff (eqNilP U31 rfl rfl) rfl) rfl <| Lx.y (mv rfl) rfl <| Lx.gT rfl rfl rfl <| Lx.y (mv rfl) rfl <| Lx.gT rfl rfl rfl <| Lx.y (nilc rfl) rfl <| Lx.gT rfl rfl rfl <| Lx.y (fa' fo94_0 rfl) rfl <| Lx.gT rfl rfl rfl <| Lx.y (ld U27 rfl rfl rfl) rfl <| ?_
 refine Lx.gT rfl rfl rfl ?_
 refine Lx.co rfl rfl rfl (DkB.Dead_ct d x.db _) (Pick.eq) rfl ?_
 refine Lx.y (pickF rfl rfl) rfl <| Lx.y (mv rfl) rfl <| ?_
 refine Xx.ifB (t := 12) rfl (fun h3 => ?_) (fun h3 => ?_)
 ·
  have g1 := h3
  refine Lx.gF rfl rfl rfl rfl <| Lx.gF rfl rfl rfl rfl <| Lx.gF rfl rfl rfl rfl <| Lx.gF rfl rfl rfl rfl <| Lx.gF rfl rfl rfl rfl <| Lx.y (pickT rfl rfl) rfl <| Lx.y (asg rfl) rfl <| Lx.nil <| ?_
  refine Xx.tn (k2 _ _ _ _ ?_)
  refine Cx.ret ?_
  exact Xx.ret1 rfl rfl ⟨by rw [g1], rfl, rfl⟩ (Fl _) (by ac_rfl)
 ·
  have g1 := h3
  refine Lx.gT rfl rfl rfl <| Lx.y (mv rfl) rfl <| Lx.gT rfl rfl rfl <| Lx.y (nilc rfl) rfl <| Lx.gT rfl rfl rfl <| Lx.y (fa' fo94_6 rfl) rfl <| Lx.gT rfl rfl rfl <| Lx.y (ld U28 rfl rfl rfl) rfl <| Lx.gT rfl rfl rfl <| Lx.y (neI rfl rfl) rfl <| Lx.y (pickF rfl rfl) rfl <| Lx.y (asg rfl) rfl <| ?_
  refine Lx.nil ?_
  refine Xx.tn (k2 _ _ _ _ ?_)
  refine Cx.ret ?_
  exact Xx.ret1 rfl rfl ⟨by rw [g1]; rfl, rfl, rfl⟩ (Fl _) (by ac_rfl)
set_option maxHeartbeats 8000000 in
theorem take_ct (vb : Nat) (x : Vm) (bm : Bm) (a : Nat) (B : Frag) (hk : VmOk B x) (hR : bm.ro B) (ho : bm.b.Ok) (hx : x.ms.length ≤ 900000) (ha : a ≤ 4611686018427387900) : Ct Tryz.prog 50 [.pointer (some ⟨vb, 0, none⟩), .agg (bmc bm).toArray, i64 (a : Int)] B (vH vb x) (fun v B' H' => v = .tuple #[] ∧ ∃ x', H' = vH vb x' ∧ x'.ms = x.ms ++ [bm] ∧ x'.ends = x.ends ∧ x'.bod = bodK bm.b a (bodd bm.b.revs) 0 x.bod ∧ x'.db = x.db ∧ x'.jb = x.jb) := by
 have hol := ho.2.2.1
 have hbl := bodd_len bm.b.revs
 have hlv : lvs x ++ [leafF (hashB bm.b)] = (x.ms ++ [bm]).map fun b => leafF (hashB b.b) := by unfold lvs; rw [List.map_append]; rfl
 have hbk : ∀ k, k ≤ (bodd bm.b.revs).length → bodK bm.b a (bodd bm.b.revs) 0 x.bod = bodK bm.b a ((bodd bm.b.revs).drop k) k (bodK bm.b a ((bodd bm.b.revs).take k) 0 x.bod) := fun k hk => bodK_split bm.b a _ k hk x.bod
 refine Ct.of_body Tryz.func50 rfl (nt := 46) rfl (by kernel_rfl) rfl ?_
 intro N0 w0 R
 unfold vH
 simp only [star_assoc]
 refine Cq (fun K1 k1 => ?_)
 refine Cr ?_
 refine Lx.new (boxA rfl) rfl (fun b1 => ?_)
 refine Lx.nil ?_
 refine Xx.tn (k1 _ _ _ _ ?_)
 refine Cq (fun K2 k2 => ?_)
 refine Cx.drawn (by kernel_rfl) ?_
 refine Dx.p (i := 0) rfl (by kernel_rfl) (mv rfl) rfl ?_
 refine Dx.p (i := 1) rfl (by kernel_rfl) (mv rfl) rfl ?_
 refine Dx.p (i := 2) rfl (by kernel_rfl) (nilc rfl) rfl ?_
 refine Dx.p (i := 3) rfl (by kernel_rfl) (fa' fo94_2 rfl) rfl ?_
 refine Dx.r (i := 4) rfl (by kernel_rfl) (ld U51 rfl rfl rfl) rfl ?_
 refine Dx.r (i := 5) rfl (by kernel_rfl) (ldA U25 rfl sz25 rfl (Co (n := 4) Pe (show ((bmc bm).drop 0).take 4 = bmc bm from rfl)) rfl) rfl ?_
 refine Dx.one (i := 6) (by kernel_rfl) ?_
 refine Dstep.o (i := 6) rfl (bslA U51 ti25 rfl rfl (by decide)) rfl (fun v B' H' hΦ hB => ?_)
 obtain ⟨bv, rfl, Y, rfl⟩ := hΦ; have E := Y.symm; subst E; clear hB
 refine ⟨Je (Jy (Jt) (ld U51 rfl rfl rfl)) (by kernel_rfl), ?_⟩
 refine Dx.one (i := 7) (by kernel_rfl) ?_
 refine Dstep.o (i := 7) rfl (appN (et := 25) (A := x.Al) (x.ms.length + 1) (bmc bm) ((x.ms ++ [bm]).flatMap bmc) U51 U51 ti25 rfl rfl rfl rfl rfl (by omega) (by omega) rfl (by simp only [List.flatMap_append, List.flatMap_cons, List.flatMap_nil, List.append_nil])) rfl (fun v B' H' hΦ hB => ?_)
 obtain ⟨A9, c9, rfl, hA9, hl9, hc9, hBB, rfl⟩ := hΦ
 have hBB2 := hBB.symm
 subst hBB2
 refine ⟨Jy (Je (Jt) (by kernel_rfl)) (ldA U25 rfl sz25 rfl (Co (n := 4) Pe (show ((bmc bm).drop 0).take 4 = bmc bm from rfl)) rfl), ?_⟩
 refine Dx.p (i := 8) rfl (by kernel_rfl) (nilc rfl) rfl ?_
 refine Dx.p (i := 9) rfl (by kernel_rfl) (fa' fo94_2 rfl) rfl ?_
 refine Dx.one (i := 10) (by kernel_rfl) ?_
 refine Dstep.o0 (i := 10) rfl (stO U51 sz51 rfl rfl rfl (by show 2 < 7; omega) rfl) (fun v B' H' hΦ hB => ?_)
 obtain ⟨Y, rfl⟩ := hΦ; have E := Y.symm; subst E; clear hB v
 refine ⟨Je (Je (Jt) (by kernel_rfl)) (by kernel_rfl), ?_⟩
 refine Dx.done (by kernel_rfl) ?_
 refine Xx.tn (k2 _ _ _ _ ?_)
 refine Cq (fun K3 k3 => ?_)
 refine Xx.dropB bv ?_
 unfold mkO
 refine Cx.drawn (by kernel_rfl) ?_
 refine Dx.p (i := 0) rfl (by kernel_rfl) (mv rfl) rfl ?_
 refine Dx.p (i := 1) rfl (by kernel_rfl) (nilc rfl) rfl ?_
 refine Dx.p (i := 2) rfl (by kernel_rfl) (fa' fo94_3 rfl) rfl ?_
 refine Dx.r (i := 3) rfl (by kernel_rfl) (ld U66 rfl rfl rfl) rfl ?_
 refine Dx.r (i := 4) rfl (by kernel_rfl) (ldA U25 rfl sz25 rfl (Co (n := 4) Pe (show ((bmc bm).drop 0).take 4 = bmc bm from rfl)) rfl) rfl ?_
 refine Dx.one (i := 5) (by kernel_rfl) ?_
 refine Dstep.o (i := 5) rfl (Ox.cb rfl rfl rfl (Hash_ct bm _ hR (ok_sm ho))) rfl (fun v B' H' hΦ hB => ?_)
 obtain ⟨rfl, rfl, Y⟩ := hΦ; have E := Y.symm; subst E; clear hB
 refine ⟨Je (Jy (Jt) (ld U66 rfl rfl rfl)) (by kernel_rfl), ?_⟩
 refine Dx.one (i := 6) (by kernel_rfl) ?_
 refine Dstep.o (i := 6) rfl (Ox.call rfl rfl rfl (MAdd_ct x.tb (lvs x) x.A1 x.A2 x.c1 x.c2 (hashB bm.b) _ (by rw [hashB_len]; omega) (by unfold lvs; rw [List.length_map]; omega) (lvs_all x)) (Pick.eq)) rfl (fun v B' H' hΦ hB => ?_)
 obtain ⟨_, rfl, hΦ⟩ := hΦ
 obtain ⟨hBB, rfl, A3, c3, A4, c4, rfl⟩ := hΦ
 have hBB2 := hBB.symm
 subst hBB2
 clear hB
 refine ⟨Jy (Je (Jt) (by kernel_rfl)) (ldA U25 rfl sz25 rfl (Co (n := 4) Pe (show ((bmc bm).drop 0).take 4 = bmc bm from rfl)) rfl), ?_⟩
 refine Dx.done (by kernel_rfl) ?_
 refine Xx.tn (k3 _ _ _ _ ?_)
 refine Cq (fun K4 k4 => ?_)
 refine Cr <| Lx.y (ldA U25 rfl sz25 rfl (Co (n := 4) Pe (show ((bmc bm).drop 0).take 4 = bmc bm from rfl)) rfl) rfl <| ?_
 refine Lx.cb rfl rfl rfl (bodied2_ct bm _ hR (by omega)) rfl ?_
 rintro v3 B3 ⟨Ab, cb, rfl, hRb⟩ hB3
 refine Lx.y (lenV (ty' := 0) U26 rfl) rfl <| Lx.y (mv rfl) rfl <| Lx.nil <| ?_
 refine Xx.tn (k4 _ _ _ _ ?_)
 refine Cx.block ?_
 refine Cx.loopK (Sc 0 rfl (Sc 1 rfl (Sc 2 rfl (Sc 4 rfl (Sc 8 rfl (Sc 9 rfl (Sc 10 rfl (Sc 11 rfl (Sc 12 rfl (Sc 13 rfl (Sc 14 rfl (Sc 15 rfl (Sc 16 rfl (Sc 17 rfl (Sc 18 rfl (Sc 19 rfl (Sc 20 rfl (Sc 21 rfl (Sc 22 rfl (Sc 23 rfl (Sc 25 rfl (Sc 26 rfl (Sc 27 rfl (Sub.nil _)))))))))))))))))))))))) (fun m ρ' B' H' => ∃ (i : Nat), (i ≤ (bodd bm.b.revs).length) ∧ m = (bodd bm.b.revs).length - i ∧ ρ' = [(28, i64 (i : Int))] ∧ B3 = B' ∧ row vb 94 [.pointer (some ⟨x.db, 0, none⟩), .pointer (some ⟨x.jb, 0, none⟩), .slice A9 (x.ms.length + 1) c9, .pointer (some ⟨x.tb, 0, none⟩), .map (some x.mb), i64 (x.ends : Int), i64 0] * (gmap x.mb (bodK bm.b a ((bodd bm.b.revs).take i) 0 x.bod) * (mkH x.tb ⟨lvs x ++ [leafF (hashB bm.b)], pkOf (lvs x ++ [leafF (hashB bm.b)]), A3, c3, A4, c4⟩ * (row b1 25 (bmc bm) * (sbuf 25 4 A9 (x.ms.length + 1) c9 ((x.ms ++ [bm]).flatMap bmc) * R)))) = H') ⟨0, Nat.zero_le _, rfl, rfl, rfl, by rw [List.take_zero]; show _ * (gmap x.mb x.bod * _) = _; ac_rfl⟩ (Sc 28 rfl (Sc 0 rfl (Sc 1 rfl (Sc 2 rfl (Sc 4 rfl (Sc 8 rfl (Sc 9 rfl (Sc 10 rfl (Sc 11 rfl (Sc 12 rfl (Sc 13 rfl (Sc 14 rfl (Sc 15 rfl (Sc 16 rfl (Sc 17 rfl (Sc 18 rfl (Sc 19 rfl (Sc 20 rfl (Sc 21 rfl (Sc 22 rfl (Sc 23 rfl (Sc 25 rfl (Sc 26 rfl (Sc 27 rfl (Sub.nil _))))))))))))))))))))))))) ?_
 rintro m ρ' B' H' ⟨i, hi, rfl, rfl, rfl, rfl⟩
 refine Cq (fun K6 k6 => ?_)
 refine Cr <| Lx.y (lss rfl rfl) rfl <| Lx.nil <| ?_
 refine Xx.tn (k6 _ _ _ _ ?_)
 refine Cq (fun K7 k7 => ?_)
 refine Cx.condD rfl (fun h8 => ?_) (fun h8 => ?_)
 ·
  have hlt := h8
  have hlt : i < (bodd bm.b.revs).length := by omega
  obtain ⟨b0, o0, cs0, et0, fz0, hA0, hB0, hv0⟩ := hRb.at1 hlt
  rw [List.getElem?_map, List.getElem?_eq_getElem hlt] at hv0
  refine Cx.skip ?_
  refine Xx.tn (k7 _ _ _ _ ?_)
  refine Cq (fun K9 k9 => ?_)
  refine Cx.block ?_
  refine Cq (fun K10 k10 => ?_)
  refine Cr <| Lx.y (mv rfl) rfl <| Lx.y (Yx.val (ia (b := b0) (o := o0) U26 sz3 (by rw [← hA0]; rfl) rfl (Int.toNat_natCast _) (by omega) (by omega)) rfl) rfl <| Lx.y (ldB U3 rfl rfl hB0 hv0) rfl <| Lx.y (asg rfl) rfl <| Lx.y (asg rfl) rfl <| Lx.nil <| ?_
  refine Xx.tn (k10 _ _ _ _ ?_)
  refine Cx.drawn (by kernel_rfl) ?_
  refine Dx.p (i := 0) rfl (by kernel_rfl) (mv rfl) rfl ?_
  refine Dx.p (i := 1) rfl (by kernel_rfl) (nilc rfl) rfl ?_
  refine Dx.p (i := 2) rfl (by kernel_rfl) (fa' fo94_4 rfl) rfl ?_
  refine Dx.r (i := 3) rfl (by kernel_rfl) (ld U92 rfl rfl rfl) rfl ?_
  refine Dx.p (i := 4) rfl (by kernel_rfl) (fa' fo25_0 rfl) rfl ?_
  refine Dx.r (i := 5) rfl (by kernel_rfl) (ld U22 rfl rfl rfl) rfl ?_
  refine Dx.p (i := 6) rfl (by kernel_rfl) (mv rfl) rfl ?_
  refine Dx.p (i := 7) rfl (by kernel_rfl) (bld ti123 pl123 rfl rfl) rfl ?_
  refine Dx.p (i := 8) rfl (by kernel_rfl) (mv rfl) rfl ?_
  refine Dx.p (i := 9) rfl (by kernel_rfl) (Yx.val (add rfl rfl (by first | exact wrap64 (by omega) (by omega) | rfl)) (show _ = i64 ((a + 1 : Nat) : Int) from rfl)) rfl ?_
  refine Dx.p (i := 10) rfl (by kernel_rfl) (mv rfl) rfl ?_
  refine Dx.p (i := 11) rfl (by kernel_rfl) (Yx.val (add rfl rfl (by first | exact wrap64 (by omega) (by omega) | rfl)) (show _ = i64 ((a + 1 + i : Nat) : Int) from rfl)) rfl ?_
  refine Dx.one (i := 12) (by kernel_rfl) ?_
  refine Dstep.o0 (i := 12) rfl (stG (κ := Plc) (k := (bm.b.seq, ((bodd bm.b.revs)[i]'hlt : Int))) (v := i64 ((a + 1 + i : Nat) : Int)) U92 plc_key rfl rfl rfl) (fun v B' H' hΦ hB => ?_)
  obtain ⟨hBB, rfl⟩ := hΦ
  have hBB2 := hBB.symm
  subst hBB2
  clear hB
  rw [bodK_take bm.b a _ _ hlt x.bod]
  refine ⟨Je (Je (Jt) (by kernel_rfl)) (by kernel_rfl), ?_⟩
  refine Dx.done (by kernel_rfl) ?_
  refine Xx.bn ?_
  refine Xx.tn (k9 _ _ _ _ ?_)
  refine Cr <| Lx.y (Yx.val (add rfl rfl (by first | exact wrap64 (by omega) (by omega) | rfl)) (show _ = i64 ((i + 1 : Nat) : Int) from rfl)) rfl <| Lx.y (mv rfl) rfl <| Lx.nil <| ?_
  exact Xx.againK ⟨i + 1, hlt, rfl, rfl, rfl, (by ac_rfl)⟩ (by omega) (Sc 28 rfl (Sc 0 rfl (Sc 1 rfl (Sc 2 rfl (Sc 4 rfl (Sc 8 rfl (Sc 9 rfl (Sc 10 rfl (Sc 11 rfl (Sc 12 rfl (Sc 13 rfl (Sc 14 rfl (Sc 15 rfl (Sc 16 rfl (Sc 17 rfl (Sc 18 rfl (Sc 19 rfl (Sc 20 rfl (Sc 21 rfl (Sc 22 rfl (Sc 23 rfl (Sc 25 rfl (Sc 26 rfl (Sc 27 rfl (Sub.nil _)))))))))))))))))))))))))
 ·
  have hge := h8
  obtain rfl : i = (bodd bm.b.revs).length := by omega
  rw [List.take_length]
  refine Cx.exit <| Xx.te <| Xx.te <| Xx.bh <| ?_
  refine Xx.dropB b1 ?_
  exact Xx.end0 rfl ⟨rfl, ⟨x.ms ++ [bm], x.ends, bodK bm.b a (bodd bm.b.revs) 0 x.bod, x.db, x.jb, x.tb, x.mb, A9, c9, A3, c3, A4, c4⟩, rfl, rfl, rfl, rfl, rfl, rfl⟩ hB3 (by unfold vcs mkO lvs; simp only [List.map_append, List.map_cons, List.map_nil, List.length_append, List.length_singleton]; ac_rfl)
end ViA
end Go.Proofs.YthlfffbcligocaaGreat
namespace Go.Proofs.YthlfffbcligocaaGreat
open Go.SL Go.RowKit
set_option maxRecDepth 100000
open VhA VhB VhC VhD VhE VhF VhG VhH VhI VhJ VhK VhL VhM VhN VhO VhP VhQ VhR VhS VhT VhU VhV VhW VhX VhY VhZ ViA
open Jn1 (Rc rcc Jn jnH atV)
open DkB (Dk dkH)
namespace ViB
theorem sz3 : (Tryz.prog.info? 3).map (·.size) = some 1 := by kernel_rfl
theorem sz4 : (Tryz.prog.info? 4).map (·.size) = some 1 := by kernel_rfl
theorem sz9 : (Tryz.prog.info? 9).map (·.size) = some 1 := by kernel_rfl
theorem sz22 : (Tryz.prog.info? 22).map (·.size) = some 1 := by kernel_rfl
theorem sz23 : (Tryz.prog.info? 23).map (·.size) = some 1 := by kernel_rfl
theorem sz25 : (Tryz.prog.info? 25).map (·.size) = some 4 := by kernel_rfl
theorem sz40 : (Tryz.prog.info? 40).map (·.size) = some 8 := by kernel_rfl
theorem sz51 : (Tryz.prog.info? 51).map (·.size) = some 1 := by kernel_rfl
theorem sz123 : (Tryz.prog.info? 123).map (·.size) = some 2 := by kernel_rfl
theorem sz149 : (Tryz.prog.info? 149).map (·.size) = some 4 := by kernel_rfl
theorem ti25 : TI Tryz.prog 25 [.int .u64 0, str [], .int .u64 0, .slice none 0 0] 4 56 := TI.of (by kernel_rfl) rfl rfl
theorem ti40 : TI Tryz.prog 40 [.int .i64 0, str [], str [], .int .u64 0, .int .u64 0, str [], str [], .bool false] 8 96 := TI.of (by kernel_rfl) rfl rfl
theorem ti123 : TI Tryz.prog 123 [.int .u64 0, .int .i64 0] 2 16 := TI.of (by kernel_rfl) rfl rfl
theorem ti149 : TI Tryz.prog 149 [.int .i64 0, .int .i64 0, str [], .bool false] 4 40 := TI.of (by kernel_rfl) rfl rfl
theorem fo25_0 : FO Tryz.prog 25 0 0 1 false := FO.of U25 rfl rfl (by kernel_rfl) U22 rfl rfl
theorem fo94_1 : FO Tryz.prog 94 1 1 1 false := FO.of U94 rfl rfl (by kernel_rfl) U91 rfl rfl
theorem fo94_2 : FO Tryz.prog 94 2 2 1 false := FO.of U94 rfl rfl (by kernel_rfl) U51 rfl rfl
theorem fo149_2 : FO Tryz.prog 149 2 2 1 false := FO.of U149 rfl rfl (by kernel_rfl) U9 rfl rfl
theorem pl123 : PL Tryz.prog 123 [(0, 1), (1, 1)] := PL.of U123 (by kernel_rfl)
theorem atV_get (l : List Rc) (i : Nat) : atV l (i : Int) = .tuple #[.agg (rcc (l.getD i zRc)).toArray, .bool (decide (i < l.length))] := by
  unfold atV
  by_cases h : i < l.length
  · rw [dif_pos ⟨by omega, by omega⟩, decide_eq_true h, List.getD_eq_getElem?_getD, List.getElem?_eq_getElem h]; rfl
  · rw [dif_neg (by omega), decide_eq_false h, List.getD_eq_getElem?_getD, List.getElem?_eq_none (by omega)]; rfl
instance (vb : Nat) (x : Vm) (R : HP) : PickB (vH vb x * R) vb (.cells (vcs x).toArray 94 (0, 0)) ((sbuf 25 4 x.Al x.ms.length x.cl (x.ms.flatMap bmc) * (mkH x.tb (mkO x) * gmap x.mb x.bod)) * R) := ⟨by unfold vH; simp only [star_assoc]⟩
section
variable {l : List Bk} {rs : List Rc} {a n : Nat} {gone : List Plc}
theorem nx1 (h : (eraseF (rs.getD a zRc)).2 = true) : nextF l rs a n gone = (1, none) := by unfold nextF; rw [if_pos h]
theorem nx2 (h1 : ¬ (eraseF (rs.getD a zRc)).2 = true) (h2 : ¬ saysF (rs.getD a zRc) = [66]) : nextF l rs a n gone = (0, none) := by unfold nextF; rw [if_neg h1, if_neg h2]
theorem nx3 (h1 : ¬ (eraseF (rs.getD a zRc)).2 = true) (h2 : saysF (rs.getD a zRc) = [66]) (h3 : ¬ ((readB ((rs.getD a zRc).body.drop 1)).2 = 0 ∧ a + (bodd (readB ((rs.getD a zRc).body.drop 1)).1.revs).length < n)) : nextF l rs a n gone = (0, none) := by unfold nextF; rw [if_neg h1, if_pos h2, if_neg h3]
theorem nx4 (h1 : ¬ (eraseF (rs.getD a zRc)).2 = true) (h2 : saysF (rs.getD a zRc) = [66]) (h3 : (readB ((rs.getD a zRc).body.drop 1)).2 = 0 ∧ a + (bodd (readB ((rs.getD a zRc).body.drop 1)).1.revs).length < n)
    (hb : bodF rs a gone (bodd (readB ((rs.getD a zRc).body.drop 1)).1.revs) 0 (readB ((rs.getD a zRc).body.drop 1)).1 = none) : nextF l rs a n gone = (0, none) := by unfold nextF; rw [if_neg h1, if_pos h2, if_pos h3, hb]
theorem nx5 {b : Bk} (h1 : ¬ (eraseF (rs.getD a zRc)).2 = true) (h2 : saysF (rs.getD a zRc) = [66]) (h3 : (readB ((rs.getD a zRc).body.drop 1)).2 = 0 ∧ a + (bodd (readB ((rs.getD a zRc).body.drop 1)).1.revs).length < n)
    (hb : bodF rs a gone (bodd (readB ((rs.getD a zRc).body.drop 1)).1.revs) 0 (readB ((rs.getD a zRc).body.drop 1)).1 = some b) (hf : ¬ followsF b (BitVec.ofInt 64 (l.length : Nat)) (prevF l) = 0) : nextF l rs a n gone = (0, none) := by
  unfold nextF; rw [if_neg h1, if_pos h2, if_pos h3, hb]; simp only; rw [if_neg hf]
theorem nx6 {b : Bk} (h1 : ¬ (eraseF (rs.getD a zRc)).2 = true) (h2 : saysF (rs.getD a zRc) = [66]) (h3 : (readB ((rs.getD a zRc).body.drop 1)).2 = 0 ∧ a + (bodd (readB ((rs.getD a zRc).body.drop 1)).1.revs).length < n)
    (hb : bodF rs a gone (bodd (readB ((rs.getD a zRc).body.drop 1)).1.revs) 0 (readB ((rs.getD a zRc).body.drop 1)).1 = some b) (hf : followsF b (BitVec.ofInt 64 (l.length : Nat)) (prevF l) = 0) : nextF l rs a n gone = (1 + (bodd (readB ((rs.getD a zRc).body.drop 1)).1.revs).length, some b) := by
  unfold nextF; rw [if_neg h1, if_pos h2, if_pos h3, hb]; simp only; rw [if_pos hf]
variable {b : Bk} {i k : Nat} {is : List Nat}
theorem bf1 (h : (b.seq, (i : Int)) ∈ gone ∧ ¬ saysF (rs.getD (a + 1 + k) zRc) = [66] ∧ ¬ saysF (rs.getD (a + 1 + k) zRc) = [69]) : bodF rs a gone (i :: is) k b = bodF rs a gone is (k + 1) b := by rw [bodF, if_pos h]
theorem bf2 (h : ¬ ((b.seq, (i : Int)) ∈ gone ∧ ¬ saysF (rs.getD (a + 1 + k) zRc) = [66] ∧ ¬ saysF (rs.getD (a + 1 + k) zRc) = [69])) (h2 : ¬ saysF (rs.getD (a + 1 + k) zRc) = [68]) : bodF rs a gone (i :: is) k b = none := by rw [bodF, if_neg h, if_neg h2]
theorem bf3 (h : ¬ ((b.seq, (i : Int)) ∈ gone ∧ ¬ saysF (rs.getD (a + 1 + k) zRc) = [66] ∧ ¬ saysF (rs.getD (a + 1 + k) zRc) = [69])) (h2 : saysF (rs.getD (a + 1 + k) zRc) = [68]) (h3 : ¬ (withF b i ((rs.getD (a + 1 + k) zRc).body.drop 1)).2 = 0) : bodF rs a gone (i :: is) k b = none := by rw [bodF, if_neg h, if_pos h2, if_neg h3]
theorem bf4 (h : ¬ ((b.seq, (i : Int)) ∈ gone ∧ ¬ saysF (rs.getD (a + 1 + k) zRc) = [66] ∧ ¬ saysF (rs.getD (a + 1 + k) zRc) = [69])) (h2 : saysF (rs.getD (a + 1 + k) zRc) = [68]) (h3 : (withF b i ((rs.getD (a + 1 + k) zRc).body.drop 1)).2 = 0) : bodF rs a gone (i :: is) k b = bodF rs a gone is (k + 1) (withF b i ((rs.getD (a + 1 + k) zRc).body.drop 1)).1 := by rw [bodF, if_neg h, if_pos h2, if_pos h3]
end
theorem step_none {rs : List Rc} {n : Nat} {gone : List Plc} {V : Vs} {k : Nat} (h : nextF V.l rs V.ends n gone = (k, none)) : stepV rs n gone V = (V, k) := by unfold stepV; rw [h]
theorem step_some {rs : List Rc} {n : Nat} {gone : List Plc} {V : Vs} {k : Nat} {b : Bk} (h : nextF V.l rs V.ends n gone = (k, some b)) : stepV rs n gone V = (takeV V b V.ends, k) := by unfold stepV; rw [h]
theorem with_len (b : Bk) (i : Nat) (s : List UInt8) : (withF b i s).1.revs.length = b.revs.length ∧ (withF b i s).1.seq = b.seq := by
  unfold withF
  split
  · exact ⟨rfl, rfl⟩
  · split
    · exact ⟨List.length_set .., rfl⟩
    · exact ⟨rfl, rfl⟩
theorem with_le {b : Bk} {i : Nat} {s : List UInt8} {k : Nat} (h : ∀ r ∈ b.revs, RvLe k r) (hk : 1024 ≤ k) : ∀ r ∈ (withF b i s).1.revs, RvLe k r := by
  unfold withF
  split
  · exact h
  · rename_i r hr
    split
    · rename_i hc
      intro q hq
      rcases List.mem_or_eq_of_mem_set hq with hq | rfl
      · exact h q hq
      · obtain ⟨_, h2, h3, h4⟩ := h r (List.mem_of_getElem? hr)
        exact ⟨Nat.le_trans hc.2.2 hk, h2, h3, h4⟩
    · exact h
theorem readRvs_len : ∀ (n : Nat) (c : Cu) (l : List Rv), (readRvs n c l).2.length ≤ l.length + n := by
  intro n
  induction n with
  | zero => intro c l; exact Nat.le_refl _
  | succ n ih =>
    intro c l
    rw [readRvs]
    split
    · show l.length ≤ _; omega
    · have := ih (takeRv c).1 (l ++ [{ (takeRv c).2 with gone := bodB (takeRv c).2.op }])
      rw [List.length_append, List.length_singleton] at this; omega
theorem count_most (c : Cu) (m : Nat) : (c.count m).2 ≤ m := by
  unfold Cu.count
  split
  · exact Nat.zero_le _
  · show (if _ then _ else _) ≤ _
    split
    · exact Nat.zero_le _
    · rename_i h3; exact cnt_err (by simpa using h3)
theorem read_len (s : List UInt8) : (readB s).1.revs.length ≤ 64 := by
  have h : (rdB s).2.length ≤ 64 := by
    have h1 := readRvs_len (curB s).2.2.2.2 (curB s).1 []
    have h2 : (curB s).2.2.2.2 ≤ 64 := count_most _ 64
    unfold rdB
    simp only [List.length_nil] at h1
    omega
  unfold readB
  split
  · exact Nat.zero_le _
  · split
    · exact h
    · exact Nat.zero_le _
theorem read_all {s : List UInt8} (h : (readB s).2 = 0) : ∀ r ∈ (readB s).1.revs, okR r = true := by
  unfold readB at h ⊢
  split at h
  · rename_i h1; exact absurd h h1
  · rename_i h1
    split at h
    · rename_i h2; rw [if_neg h1, if_pos h2]; exact List.all_eq_true.1 h2
    · cases h
theorem says_len {r : Rc} {x : UInt8} (h : saysF r = [x]) : 1 ≤ r.body.length := by
  unfold saysF at h
  split at h
  · cases h
  · rename_i h1; omega
def GoneIs (gl : List (Plc × Value)) (gone : List Plc) : Prop := ∀ p, gget p gl = if p ∈ gone then some (.bool true) else none
theorem GoneIs.get {gl : List (Plc × Value)} {gone : List Plc} (h : GoneIs gl gone) (p : Plc) : (gget p gl).getD (.bool false) = .bool (decide (p ∈ gone)) := by
  rw [h p]
  by_cases e : p ∈ gone
  · rw [if_pos e, decide_eq_true e]; rfl
  · rw [if_neg e, decide_eq_false e]; rfl
set_option maxHeartbeats 16000000 in
theorem next_ct (vb gb n : Nat) (x : Vm) (j : Jn) (gl : List (Plc × Value)) (gone : List Plc) (B : Frag) (hk : VmOk B x) (hx : x.ms.length ≤ 900000) (hg : GoneIs gl gone) (hj : ∀ r ∈ j.l, r.body.length ≤ 1000000) (hn : n ≤ 1000000000) (ha : x.ends ≤ n) : Ct Tryz.prog 107 [.pointer (some ⟨vb, 0, none⟩), i64 (x.ends : Int), i64 (n : Int), .map (some gb)] B (vH vb x * (jnH x.jb j * gmap gb gl)) (fun v B' H' => ∃ x', v = i64 (((stepV j.l n gone x.vs).2 : Nat) : Int) ∧ x'.vs = (stepV j.l n gone x.vs).1 ∧ x'.db = x.db ∧ x'.jb = x.jb ∧ VmOk B' x' ∧ H' = vH vb x' * (jnH x.jb j * gmap gb gl)) := by
 have hgd : ∀ i, (j.l.getD i zRc).body.length ≤ 1000000 := fun i => by
  rw [List.getD_eq_getElem?_getD]
  cases h : j.l[i]? with
  | none => exact Nat.zero_le _
  | some r => exact hj r (List.mem_of_getElem? h)
 obtain ⟨r, hr⟩ : ∃ r, r = j.l.getD x.ends zRc := ⟨_, rfl⟩
 have hrb := hgd x.ends
 rw [← hr] at hrb
 obtain ⟨b0, hb0⟩ : ∃ b0, b0 = (readB (r.body.drop 1)).1 := ⟨_, rfl⟩
 obtain ⟨e0, he0⟩ : ∃ e0, e0 = (readB (r.body.drop 1)).2 := ⟨_, rfl⟩
 have hl64 : b0.revs.length ≤ 64 := by rw [hb0]; exact read_len _
 have hol := bodd_len b0.revs
 refine Ct.of_body Tryz.func107 rfl (nt := 125) rfl (by kernel_rfl) rfl ?_
 intro N0 w0 R
 simp only [star_assoc]
 refine Cq (fun K1 k1 => ?_)
 refine Cr <| Lx.y (asg rfl) rfl <| Lx.nil <| ?_
 refine Xx.tn (k1 _ _ _ _ ?_)
 refine Cq (fun K2 k2 => ?_)
 refine Cr <| Lx.y (mv rfl) rfl <| Lx.y (nilc rfl) rfl <| Lx.y (fa' fo94_1 rfl) rfl <| Lx.y (ld U91 rfl rfl rfl) rfl <| Lx.y (mv rfl) rfl <| ?_
 refine Lx.co rfl rfl rfl (Jn1.JAt_ct x.jb j (x.ends : Int) _) (Pick.eq) rfl ?_
 rw [atV_get, ← hr]
 refine Lx.y (mv rfl) rfl <| Lx.y (ext rfl rfl) rfl <| Lx.y (ext rfl rfl) rfl <| ?_
 refine Lx.new (allocO ti149) rfl (fun b9 => ?_)
 refine Lx.st (stA (d := .bool) sz149 rfl rfl rfl rfl (by show 0 + 4 ≤ 4; omega) rfl) ?_
 refine Lx.y (asg rfl) rfl <| Lx.nil <| ?_
 refine Xx.tn (k2 _ _ _ _ ?_)
 refine Cq (fun K3 k3 => ?_)
 refine Cq (fun K4 k4 => ?_)
 refine Cr <| Lx.y (ldA U149 rfl sz149 rfl (Co (n := 4) Pe rfl) rfl) rfl <| ?_
 refine Lx.cp rfl rfl rfl (erase_ct r _ hrb) rfl ?_
 refine Lx.y (mv rfl) rfl <| Lx.y (ext rfl rfl) rfl <| Lx.y (ext rfl rfl) rfl <| ?_
 refine Lx.new (allocO ti123) rfl (fun bp => ?_)
 refine Lx.st (stA (d := .bool) sz123 rfl rfl rfl rfl (by show 0 + 2 ≤ 2; omega) rfl) ?_
 refine Lx.y (asg rfl) rfl <| Lx.nil <| ?_
 refine Xx.tn (k4 _ _ _ _ ?_)
 refine Cq (fun K5 k5 => ?_)
 refine Cr <| Lx.y (mv rfl) rfl <| Lx.nil <| ?_
 refine Xx.tn (k5 _ _ _ _ ?_)
 refine Cx.condB rfl (fun h6 => ?_) (fun h6 => ?_)
 ·
  have g1 : (eraseF r).2 = true := h6
  refine Cq (fun K7 k7 => ?_)
  refine Cr <| Lx.y (asg rfl) rfl <| Lx.nil <| ?_
  refine Xx.tn (k7 _ _ _ _ ?_)
  refine Cx.ret <| Xx.tr <| ?_
  refine Xx.dropB bp (Xx.dropB b9 ?_)
  have hz := step_none (n := n) (gone := gone) (V := x.vs) (nx1 (by show (eraseF (j.l.getD x.ends zRc)).2 = true; rw [← hr]; exact g1))
  exact Xx.ret1 rfl rfl ⟨x, by rw [hz]; rfl, by rw [hz], rfl, rfl, hk.mono (Fl _), rfl⟩ (Fl _) (by ac_rfl)
 ·
  have g1 := h6
  have g1 : ¬ (eraseF r).2 = true := by rw [g1]; decide
  refine Cx.skip ?_
  refine Xx.tn (k3 _ _ _ _ ?_)
  refine Cq (fun K8 k8 => ?_)
  refine Cq (fun K9 k9 => ?_)
  refine Cr <| Lx.y (ldA U149 rfl sz149 rfl (Co (n := 4) Pe rfl) rfl) rfl <| ?_
  refine Lx.cp rfl rfl rfl (says_ct r _) rfl ?_
  refine Lx.y (neS rfl rfl) rfl <| Lx.nil <| ?_
  refine Xx.tn (k9 _ _ _ _ ?_)
  refine Cx.condN rfl (fun h10 => ?_) (fun h10 => ?_)
  ·
   have g2 := h10
   refine Cq (fun K11 k11 => ?_)
   refine Cr <| Lx.y (asg rfl) rfl <| Lx.nil <| ?_
   refine Xx.tn (k11 _ _ _ _ ?_)
   refine Cx.ret <| Xx.tr <| ?_
   refine Xx.dropB bp (Xx.dropB b9 ?_)
   have hz := step_none (n := n) (gone := gone) (V := x.vs) (nx2 (by show ¬ (eraseF (j.l.getD x.ends zRc)).2 = true; rw [← hr]; exact g1) (by show ¬ saysF (j.l.getD x.ends zRc) = [66]; rw [← hr]; exact g2))
   exact Xx.ret1 rfl rfl ⟨x, by rw [hz]; rfl, by rw [hz], rfl, rfl, hk.mono (Fl _), rfl⟩ (Fl _) (by ac_rfl)
  ·
   have g2 := h10
   have hb1 := says_len g2
   refine Cx.skip ?_
   refine Xx.tn (k8 _ _ _ _ ?_)
   refine Cq (fun K12 k12 => ?_)
   refine Cr <| Lx.y (fa' fo149_2 rfl) rfl <| Lx.y (ld U9 rfl rfl rfl) rfl <| Lx.y (sl1S U9 rfl rfl (show Int.toNat _ = 1 from rfl) (by omega) (by omega)) rfl <| ?_
   refine Lx.cb rfl rfl rfl (Read_ct (r.body.drop 1) _ (by rw [List.length_drop]; omega)) rfl ?_
   rintro v7 B7 ⟨A7, c7, rfl, hR7⟩ hB7
   rw [← hb0] at hR7
   rw [← hb0, ← he0]
   refine Lx.y (mv rfl) rfl <| Lx.y (ext rfl rfl) rfl <| Lx.y (ext rfl rfl) rfl <| ?_
   refine Lx.new (allocO ti25) rfl (fun bb => ?_)
   refine Lx.st (stA (d := .bool) sz25 rfl rfl rfl rfl (by show 0 + 4 ≤ 4; omega) rfl) ?_
   refine Lx.y (asg rfl) rfl <| Lx.nil <| ?_
   refine Xx.tn (k12 _ _ _ _ ?_)
   refine Cq (fun K14 k14 => ?_)
   refine Cr <| Lx.y (ldA U25 rfl sz25 rfl (Co (n := 4) Pe (show ((bmc ⟨b0, A7, c7⟩).drop 0).take 4 = bmc ⟨b0, A7, c7⟩ from rfl)) rfl) rfl <| ?_
   refine Lx.cb rfl rfl rfl ((show CtB Tryz.prog 47 [.agg (bmc ⟨b0, A7, c7⟩).toArray] _ (fun v B' => ∃ A c, v = .slice A (bodd b0.revs).length c ∧ RoS B' 1 A (bodd b0.revs).length ((bodd b0.revs).map fun k : Nat => i64 (k : Int))) from bodied2_ct ⟨b0, A7, c7⟩ _ hR7 (by show b0.revs.length ≤ _; omega))) rfl ?_
   rintro v8 B8 ⟨Ab, cb, rfl, hRb⟩ hB8
   refine Lx.y (asg rfl) rfl <| Lx.nil <| ?_
   refine Xx.tn (k14 _ _ _ _ ?_)
   refine Cq (fun K16 k16 => ?_)
   refine Cq (fun K17 k17 => ?_)
   refine Cr <| Lx.y (mv rfl) rfl <| Lx.y (neI rfl rfl) rfl <| Lx.y (mv rfl) rfl <| ?_
   refine Xx.ifN (t := 50) rfl (fun h18 => ?_) (fun h18 => ?_)
   ·
    have g3 := h18
    refine Lx.gF rfl rfl rfl rfl <| Lx.gF rfl rfl rfl rfl <| Lx.gF rfl rfl rfl rfl <| Lx.gF rfl rfl rfl rfl <| Lx.gF rfl rfl rfl rfl <| Lx.gF rfl rfl rfl rfl <| Lx.y (pickT rfl rfl) rfl <| Lx.nil <| ?_
    refine Xx.tn (k17 _ _ _ _ ?_)
    refine Cx.condT rfl ?_
    refine Cq (fun K19 k19 => ?_)
    refine Cr <| Lx.y (asg rfl) rfl <| Lx.nil <| ?_
    refine Xx.tn (k19 _ _ _ _ ?_)
    refine Cx.ret <| Xx.tr <| ?_
    refine Xx.dropB bb (Xx.dropB bp (Xx.dropB b9 ?_))
    have hz := step_none (n := n) (gone := gone) (V := x.vs) (by have h := @nx3 x.vs.l j.l x.ends n gone; rw [← hr] at h; exact h g1 g2 (fun e => g3 (by rw [he0]; exact e.1)))
    exact Xx.ret1 rfl rfl ⟨x, by rw [hz]; rfl, by rw [hz], rfl, rfl, hk.mono (Fz hB7 hB8), rfl⟩ (Fz hB7 hB8) (by ac_rfl)
   ·
    have g3 := h18
    refine Lx.gT rfl rfl rfl <| Lx.y (mv rfl) rfl <| Lx.gT rfl rfl rfl <| Lx.y (mv rfl) rfl <| Lx.gT rfl rfl rfl <| Lx.y (lenV (ty' := 0) U26 rfl) rfl <| Lx.gT rfl rfl rfl <| Lx.y (Yx.val (add rfl rfl (by first | exact wrap64 (by omega) (by omega) | rfl)) (show _ = i64 ((x.ends + (bodd b0.revs).length : Nat) : Int) from rfl)) rfl <| Lx.gT rfl rfl rfl <| Lx.y (mv rfl) rfl <| Lx.gT rfl rfl rfl <| Lx.y (geq rfl rfl) rfl <| ?_
    refine Lx.y (pickF rfl rfl) rfl <| Lx.nil <| ?_
    refine Xx.tn (k17 _ _ _ _ ?_)
    refine Cx.condD rfl (fun h20 => ?_) (fun h20 => ?_)
    ·
     have g4 := h20
     refine Cq (fun K21 k21 => ?_)
     refine Cr <| Lx.y (asg rfl) rfl <| Lx.nil <| ?_
     refine Xx.tn (k21 _ _ _ _ ?_)
     refine Cx.ret <| Xx.tr <| ?_
     refine Xx.dropB bb (Xx.dropB bp (Xx.dropB b9 ?_))
     have hz := step_none (n := n) (gone := gone) (V := x.vs) (by have h := @nx3 x.vs.l j.l x.ends n gone; rw [← hr] at h; exact h g1 g2 (fun e => by have := e.2; rw [← hb0] at this; omega))
     exact Xx.ret1 rfl rfl ⟨x, by rw [hz]; rfl, by rw [hz], rfl, rfl, hk.mono (Fz hB7 hB8), rfl⟩ (Fz hB7 hB8) (by ac_rfl)
    ·
     have g4 := h20
     have h3 : (readB (r.body.drop 1)).2 = 0 ∧ x.ends + (bodd (readB (r.body.drop 1)).1.revs).length < n := by rw [← he0, ← hb0]; exact ⟨g3, by omega⟩
     have hle0 : ∀ q ∈ b0.revs, RvLe 1000000 q := fun q hq => by
      obtain ⟨w1, w2, w3, w4⟩ := okR_le (read_all h3.1 q (by rw [← hb0]; exact hq))
      exact ⟨by omega, by omega, by omega, by omega⟩
     have hnx := @nx6 x.vs.l j.l x.ends n gone
     rw [← hr] at hnx
     refine Cx.skip ?_
     refine Xx.tn (k16 _ _ _ _ ?_)
     refine Cq (fun K22 k22 => ?_)
     refine Cq (fun K23 k23 => ?_)
     refine Cr <| Lx.y (mv rfl) rfl <| Lx.y (lenV (ty' := 0) U26 rfl) rfl <| Lx.y (mv rfl) rfl <| Lx.nil <| ?_
     refine Xx.tn (k23 _ _ _ _ ?_)
     refine Cx.block ?_
     refine Cx.loopK (Sc 0 rfl (Sc 1 rfl (Sc 2 rfl (Sc 3 rfl (Sc 9 rfl (Sc 11 rfl (Sc 12 rfl (Sc 13 rfl (Sc 15 rfl (Sc 21 rfl (Sc 22 rfl (Sc 23 rfl (Sc 24 rfl (Sc 25 rfl (Sc 26 rfl (Sc 27 rfl (Sc 28 rfl (Sc 29 rfl (Sc 30 rfl (Sc 31 rfl (Sc 32 rfl (Sc 33 rfl (Sc 34 rfl (Sc 35 rfl (Sc 36 rfl (Sc 37 rfl (Sc 38 rfl (Sc 39 rfl (Sc 40 rfl (Sc 41 rfl (Sc 42 rfl (Sc 43 rfl (Sc 44 rfl (Sc 45 rfl (Sc 46 rfl (Sc 47 rfl (Sc 48 rfl (Sc 49 rfl (Sc 50 rfl (Sc 51 rfl (Sc 52 rfl (Sc 53 rfl (Sc 54 rfl (Sc 55 rfl (Sc 56 rfl (Sc 57 rfl (Sc 58 rfl (Sc 59 rfl (Sub.nil _))))))))))))))))))))))))))))))))))))))))))))))))) (fun m ρ' B' H' => ∃ (i : Nat) (bc : Bm) (B9 : Frag), (i ≤ (bodd b0.revs).length ∧ bodF j.l x.ends gone (bodd b0.revs) 0 b0 = bodF j.l x.ends gone ((bodd b0.revs).drop i) i bc.b ∧ bc.ro B9 ∧ bc.b.revs.length ≤ 64 ∧ (∀ q ∈ bc.b.revs, RvLe 1000000 q) ∧ B8.le B9) ∧ m = (bodd b0.revs).length - i ∧ ρ' = [(60, i64 (i : Int))] ∧ B9 = B' ∧ row bb 25 (bmc bc) * (row b9 149 (rcc r) * (row bp 123 [u64 (eraseF r).1.1, i64 (eraseF r).1.2] * (vH vb x * (jnH x.jb j * (gmap gb gl * R))))) = H') ⟨0, ⟨b0, A7, c7⟩, _, ⟨Nat.zero_le _, rfl, Bm.ro_mono hR7 hB8, hl64, hle0, Fl _⟩, rfl, rfl, rfl, by ac_rfl⟩ (Sc 60 rfl (Sc 0 rfl (Sc 1 rfl (Sc 2 rfl (Sc 3 rfl (Sc 9 rfl (Sc 11 rfl (Sc 12 rfl (Sc 13 rfl (Sc 15 rfl (Sc 21 rfl (Sc 22 rfl (Sc 23 rfl (Sc 24 rfl (Sc 25 rfl (Sc 26 rfl (Sc 27 rfl (Sc 28 rfl (Sc 29 rfl (Sc 30 rfl (Sc 31 rfl (Sc 32 rfl (Sc 33 rfl (Sc 34 rfl (Sc 35 rfl (Sc 36 rfl (Sc 37 rfl (Sc 38 rfl (Sc 39 rfl (Sc 40 rfl (Sc 41 rfl (Sc 42 rfl (Sc 43 rfl (Sc 44 rfl (Sc 45 rfl (Sc 46 rfl (Sc 47 rfl (Sc 48 rfl (Sc 49 rfl (Sc 50 rfl (Sc 51 rfl (Sc 52 rfl (Sc 53 rfl (Sc 54 rfl (Sc 55 rfl (Sc 56 rfl (Sc 57 rfl (Sc 58 rfl (Sc 59 rfl (Sub.nil _)))))))))))))))))))))))))))))))))))))))))))))))))) ?_
     rintro m ρ' B' H' ⟨i, bc, B9, ⟨hi, hbf, hRc, hl6, hlec, hB9⟩, rfl, rfl, rfl, rfl⟩
     refine Cq (fun K24 k24 => ?_)
     refine Cr <| Lx.y (lss rfl rfl) rfl <| Lx.nil <| ?_
     refine Xx.tn (k24 _ _ _ _ ?_)
     refine Cq (fun K25 k25 => ?_)
     refine Cx.condD rfl (fun h26 => ?_) (fun h26 => ?_)
     ·
      have hlt := h26
      have hlt : i < (bodd b0.revs).length := by omega
      obtain ⟨b0c, o0, cs0, et0, fz0, hA0, hB0, hv0⟩ := hRb.at1 hlt
      rw [List.getElem?_map, List.getElem?_eq_getElem hlt] at hv0
      have hB0 := hB9 _ _ hB0
      have hdr : (bodd b0.revs).drop i = ((bodd b0.revs)[i]'hlt) :: (bodd b0.revs).drop (i + 1) := List.drop_eq_getElem_cons hlt
      have hoi : ((bodd b0.revs)[i]'hlt) < b0.revs.length := by
       obtain ⟨q, hq, _⟩ := mem_bodd.1 (List.getElem_mem hlt)
       exact (List.getElem?_eq_some_iff.1 hq).1
      have hyb := hgd (x.ends + 1 + i)
      refine Cx.skip ?_
      refine Xx.tn (k25 _ _ _ _ ?_)
      refine Cq (fun K27 k27 => ?_)
      refine Cx.block ?_
      refine Cq (fun K28 k28 => ?_)
      refine Cr <| Lx.y (mv rfl) rfl <| Lx.y (Yx.val (ia (b := b0c) (o := o0) U26 sz3 (by rw [← hA0]; rfl) rfl (Int.toNat_natCast _) (by omega) (by omega)) rfl) rfl <| Lx.y (ldB U3 rfl rfl hB0 hv0) rfl <| Lx.y (asg rfl) rfl <| Lx.y (asg rfl) rfl <| Lx.nil <| ?_
      refine Xx.tn (k28 _ _ _ _ ?_)
      refine Cq (fun K29 k29 => ?_)
      refine Cr <| Lx.y (mv rfl) rfl <| Lx.y (nilc rfl) rfl <| Lx.y (fa' fo94_1 rfl) rfl <| Lx.y (ld U91 rfl rfl rfl) rfl <| Lx.y (mv rfl) rfl <| Lx.y (Yx.val (add rfl rfl (by first | exact wrap64 (by omega) (by omega) | rfl)) (show _ = i64 ((x.ends + 1 : Nat) : Int) from rfl)) rfl <| Lx.y (mv rfl) rfl <| Lx.y (Yx.val (add rfl rfl (by first | exact wrap64 (by omega) (by omega) | rfl)) (show _ = i64 ((x.ends + 1 + i : Nat) : Int) from rfl)) rfl <| ?_
      refine Lx.co rfl rfl rfl (Jn1.JAt_ct x.jb j ((x.ends + 1 + i : Nat) : Int) _) (Pick.eq) rfl ?_
      rw [atV_get]
      refine Lx.y (mv rfl) rfl <| Lx.y (ext rfl rfl) rfl <| Lx.y (ext rfl rfl) rfl <| ?_
      refine Lx.new (allocO ti149) rfl (fun bY => ?_)
      refine Lx.st (stA (d := .bool) sz149 rfl rfl rfl rfl (by show 0 + 4 ≤ 4; omega) rfl) ?_
      refine Lx.y (asg rfl) rfl <| Lx.nil <| ?_
      refine Xx.tn (k29 _ _ _ _ ?_)
      refine Cq (fun K30 k30 => ?_)
      refine Cr <| Lx.y (ldA U149 rfl sz149 rfl (Co (n := 4) Pe rfl) rfl) rfl <| ?_
      refine Lx.cp rfl rfl rfl (says_ct (j.l.getD (x.ends + 1 + i) zRc) _) rfl ?_
      refine Lx.y (asg rfl) rfl <| Lx.nil <| ?_
      refine Xx.tn (k30 _ _ _ _ ?_)
      refine Cx.cutK (ds' := []) (Sc 0 rfl (Sc 1 rfl (Sc 2 rfl (Sc 3 rfl (Sc 9 rfl (Sc 11 rfl (Sc 12 rfl (Sc 13 rfl (Sc 15 rfl (Sc 16 rfl (Sc 17 rfl (Sc 18 rfl (Sc 20 rfl (Sc 21 rfl (Sc 22 rfl (Sc 23 rfl (Sc 24 rfl (Sc 25 rfl (Sc 26 rfl (Sc 27 rfl (Sc 28 rfl (Sc 29 rfl (Sc 30 rfl (Sc 31 rfl (Sc 32 rfl (Sc 33 rfl (Sc 34 rfl (Sc 35 rfl (Sc 36 rfl (Sc 37 rfl (Sc 38 rfl (Sc 39 rfl (Sc 40 rfl (Sc 41 rfl (Sc 42 rfl (Sc 43 rfl (Sc 44 rfl (Sc 45 rfl (Sc 46 rfl (Sc 47 rfl (Sc 48 rfl (Sc 49 rfl (Sc 50 rfl (Sc 51 rfl (Sc 52 rfl (Sc 53 rfl (Sc 54 rfl (Sc 55 rfl (Sc 56 rfl (Sc 57 rfl (Sc 58 rfl (Sc 59 rfl (Sc 60 rfl (Sc 61 rfl (Sc 62 rfl (Sc 63 rfl (Sc 64 rfl (Sc 65 rfl (Sc 66 rfl (Sc 67 rfl (Sc 68 rfl (Sc 69 rfl (Sc 70 rfl (Sc 71 rfl (Sc 72 rfl (Sc 73 rfl (Sc 74 rfl (Sc 75 rfl (Sc 76 rfl (Sc 77 rfl (Sc 78 rfl (Sub.nil _)))))))))))))))))))))))))))))))))))))))))))))))))))))))))))))))))))))))) (fun ρ' B' H' => ρ' = [] ∧ B9 = B' ∧ row bY 149 (rcc (j.l.getD (x.ends + 1 + i) zRc)) * (row bb 25 (bmc bc) * (row b9 149 (rcc r) * (row bp 123 [u64 (eraseF r).1.1, i64 (eraseF r).1.2] * (vH vb x * (jnH x.jb j * (gmap gb gl * R)))))) = H' ∧ ¬ ((bc.b.seq, (((bodd b0.revs)[i]'hlt) : Int)) ∈ gone ∧ ¬ saysF (j.l.getD (x.ends + 1 + i) zRc) = [66] ∧ ¬ saysF (j.l.getD (x.ends + 1 + i) zRc) = [69])) ?_ ?_
      ·
       refine Cq (fun K31 k31 => ?_)
       refine Cr <| Lx.y (mv rfl) rfl <| Lx.y (fa' fo25_0 rfl) rfl <| Lx.y (ld U22 rfl rfl rfl) rfl <| Lx.y (mv rfl) rfl <| Lx.y (bld ti123 pl123 rfl rfl) rfl <| Lx.y (lkG (κ := Plc) (k := (bc.b.seq, (((bodd b0.revs)[i]'hlt) : Int))) U117 plc_key Tryz.zeroValue4 rfl rfl (hg.get _)) rfl <| Lx.y (mv rfl) rfl <| ?_
       refine Xx.ifB (t := 85) rfl (fun h32 => ?_) (fun h32 => ?_)
       ·
        have q1 := of_decide_eq_true h32
        refine Lx.gT rfl rfl rfl <| Lx.y (mv rfl) rfl <| Lx.gT rfl rfl rfl <| Lx.y (neS rfl rfl) rfl <| Lx.y (pickT rfl rfl) rfl <| Lx.y (mv rfl) rfl <| ?_
        refine Xx.ifN (t := 89) rfl (fun h33 => ?_) (fun h33 => ?_)
        ·
         have q2 := h33
         refine Lx.gT rfl rfl rfl <| Lx.y (mv rfl) rfl <| Lx.gT rfl rfl rfl <| Lx.y (neS rfl rfl) rfl <| Lx.y (pickT rfl rfl) rfl <| Lx.nil <| ?_
         refine Xx.tn (k31 _ _ _ _ ?_)
         refine Cx.condN rfl (fun h34 => ?_) (fun h34 => ?_)
         ·
          have q3 := h34
          refine Cx.exit <| Xx.te <| Xx.bh <| ?_
          refine Xx.tn (k27 _ _ _ _ ?_)
          refine Cr <| Lx.y (Yx.val (add rfl rfl (by first | exact wrap64 (by omega) (by omega) | rfl)) (show _ = i64 ((i + 1 : Nat) : Int) from rfl)) rfl <| Lx.y (mv rfl) rfl <| Lx.nil <| ?_
          refine Xx.dropB bY ?_
          exact Xx.againK ⟨i + 1, bc, _, ⟨hlt, hbf.trans (by rw [hdr]; exact bf1 ⟨q1, q2, q3⟩), hRc, hl6, hlec, hB9⟩, rfl, rfl, rfl, (by ac_rfl)⟩ (by omega) (Sc 60 rfl (Sc 0 rfl (Sc 1 rfl (Sc 2 rfl (Sc 3 rfl (Sc 9 rfl (Sc 11 rfl (Sc 12 rfl (Sc 13 rfl (Sc 15 rfl (Sc 21 rfl (Sc 22 rfl (Sc 23 rfl (Sc 24 rfl (Sc 25 rfl (Sc 26 rfl (Sc 27 rfl (Sc 28 rfl (Sc 29 rfl (Sc 30 rfl (Sc 31 rfl (Sc 32 rfl (Sc 33 rfl (Sc 34 rfl (Sc 35 rfl (Sc 36 rfl (Sc 37 rfl (Sc 38 rfl (Sc 39 rfl (Sc 40 rfl (Sc 41 rfl (Sc 42 rfl (Sc 43 rfl (Sc 44 rfl (Sc 45 rfl (Sc 46 rfl (Sc 47 rfl (Sc 48 rfl (Sc 49 rfl (Sc 50 rfl (Sc 51 rfl (Sc 52 rfl (Sc 53 rfl (Sc 54 rfl (Sc 55 rfl (Sc 56 rfl (Sc 57 rfl (Sc 58 rfl (Sc 59 rfl (Sub.nil _))))))))))))))))))))))))))))))))))))))))))))))))))
         ·
          have q3 := h34
          have hng : ¬ ((bc.b.seq, (((bodd b0.revs)[i]'hlt) : Int)) ∈ gone ∧ ¬ saysF (j.l.getD (x.ends + 1 + i) zRc) = [66] ∧ ¬ saysF (j.l.getD (x.ends + 1 + i) zRc) = [69]) := fun e => e.2.2 q3
          refine Cx.skip ?_
          exact Xx.mkK (⟨rfl, rfl, by ac_rfl, hng⟩) (Sc 0 rfl (Sc 1 rfl (Sc 2 rfl (Sc 3 rfl (Sc 9 rfl (Sc 11 rfl (Sc 12 rfl (Sc 13 rfl (Sc 15 rfl (Sc 16 rfl (Sc 17 rfl (Sc 18 rfl (Sc 20 rfl (Sc 21 rfl (Sc 22 rfl (Sc 23 rfl (Sc 24 rfl (Sc 25 rfl (Sc 26 rfl (Sc 27 rfl (Sc 28 rfl (Sc 29 rfl (Sc 30 rfl (Sc 31 rfl (Sc 32 rfl (Sc 33 rfl (Sc 34 rfl (Sc 35 rfl (Sc 36 rfl (Sc 37 rfl (Sc 38 rfl (Sc 39 rfl (Sc 40 rfl (Sc 41 rfl (Sc 42 rfl (Sc 43 rfl (Sc 44 rfl (Sc 45 rfl (Sc 46 rfl (Sc 47 rfl (Sc 48 rfl (Sc 49 rfl (Sc 50 rfl (Sc 51 rfl (Sc 52 rfl (Sc 53 rfl (Sc 54 rfl (Sc 55 rfl (Sc 56 rfl (Sc 57 rfl (Sc 58 rfl (Sc 59 rfl (Sc 60 rfl (Sc 61 rfl (Sc 62 rfl (Sc 63 rfl (Sc 64 rfl (Sc 65 rfl (Sc 66 rfl (Sc 67 rfl (Sc 68 rfl (Sc 69 rfl (Sc 70 rfl (Sc 71 rfl (Sc 72 rfl (Sc 73 rfl (Sc 74 rfl (Sc 75 rfl (Sc 76 rfl (Sc 77 rfl (Sc 78 rfl (Sub.nil _))))))))))))))))))))))))))))))))))))))))))))))))))))))))))))))))))))))))
        ·
         have q2 := h33
         have hng : ¬ ((bc.b.seq, (((bodd b0.revs)[i]'hlt) : Int)) ∈ gone ∧ ¬ saysF (j.l.getD (x.ends + 1 + i) zRc) = [66] ∧ ¬ saysF (j.l.getD (x.ends + 1 + i) zRc) = [69]) := fun e => e.2.1 q2
         refine Lx.gF rfl rfl rfl rfl <| Lx.gF rfl rfl rfl rfl <| Lx.y (pickF rfl rfl) rfl <| Lx.nil <| ?_
         refine Xx.tn (k31 _ _ _ _ ?_)
         refine Cx.condF rfl <| Cx.skip <| ?_
         exact Xx.mkK (⟨rfl, rfl, by ac_rfl, hng⟩) (Sc 0 rfl (Sc 1 rfl (Sc 2 rfl (Sc 3 rfl (Sc 9 rfl (Sc 11 rfl (Sc 12 rfl (Sc 13 rfl (Sc 15 rfl (Sc 16 rfl (Sc 17 rfl (Sc 18 rfl (Sc 20 rfl (Sc 21 rfl (Sc 22 rfl (Sc 23 rfl (Sc 24 rfl (Sc 25 rfl (Sc 26 rfl (Sc 27 rfl (Sc 28 rfl (Sc 29 rfl (Sc 30 rfl (Sc 31 rfl (Sc 32 rfl (Sc 33 rfl (Sc 34 rfl (Sc 35 rfl (Sc 36 rfl (Sc 37 rfl (Sc 38 rfl (Sc 39 rfl (Sc 40 rfl (Sc 41 rfl (Sc 42 rfl (Sc 43 rfl (Sc 44 rfl (Sc 45 rfl (Sc 46 rfl (Sc 47 rfl (Sc 48 rfl (Sc 49 rfl (Sc 50 rfl (Sc 51 rfl (Sc 52 rfl (Sc 53 rfl (Sc 54 rfl (Sc 55 rfl (Sc 56 rfl (Sc 57 rfl (Sc 58 rfl (Sc 59 rfl (Sc 60 rfl (Sc 61 rfl (Sc 62 rfl (Sc 63 rfl (Sc 64 rfl (Sc 65 rfl (Sc 66 rfl (Sc 67 rfl (Sc 68 rfl (Sc 69 rfl (Sc 70 rfl (Sc 71 rfl (Sc 72 rfl (Sc 73 rfl (Sc 74 rfl (Sc 75 rfl (Sc 76 rfl (Sc 77 rfl (Sc 78 rfl (Sub.nil _))))))))))))))))))))))))))))))))))))))))))))))))))))))))))))))))))))))))
       ·
        have q1 := of_decide_eq_false h32
        have hng : ¬ ((bc.b.seq, (((bodd b0.revs)[i]'hlt) : Int)) ∈ gone ∧ ¬ saysF (j.l.getD (x.ends + 1 + i) zRc) = [66] ∧ ¬ saysF (j.l.getD (x.ends + 1 + i) zRc) = [69]) := fun e => q1 e.1
        refine Lx.gF rfl rfl rfl rfl <| Lx.gF rfl rfl rfl rfl <| Lx.y (pickF rfl rfl) rfl <| Lx.y (mv rfl) rfl <| Lx.gF rfl rfl rfl rfl <| Lx.gF rfl rfl rfl rfl <| Lx.y (pickF rfl rfl) rfl <| Lx.nil <| ?_
        refine Xx.tn (k31 _ _ _ _ ?_)
        refine Cx.condF rfl <| Cx.skip <| ?_
        exact Xx.mkK (⟨rfl, rfl, by ac_rfl, hng⟩) (Sc 0 rfl (Sc 1 rfl (Sc 2 rfl (Sc 3 rfl (Sc 9 rfl (Sc 11 rfl (Sc 12 rfl (Sc 13 rfl (Sc 15 rfl (Sc 16 rfl (Sc 17 rfl (Sc 18 rfl (Sc 20 rfl (Sc 21 rfl (Sc 22 rfl (Sc 23 rfl (Sc 24 rfl (Sc 25 rfl (Sc 26 rfl (Sc 27 rfl (Sc 28 rfl (Sc 29 rfl (Sc 30 rfl (Sc 31 rfl (Sc 32 rfl (Sc 33 rfl (Sc 34 rfl (Sc 35 rfl (Sc 36 rfl (Sc 37 rfl (Sc 38 rfl (Sc 39 rfl (Sc 40 rfl (Sc 41 rfl (Sc 42 rfl (Sc 43 rfl (Sc 44 rfl (Sc 45 rfl (Sc 46 rfl (Sc 47 rfl (Sc 48 rfl (Sc 49 rfl (Sc 50 rfl (Sc 51 rfl (Sc 52 rfl (Sc 53 rfl (Sc 54 rfl (Sc 55 rfl (Sc 56 rfl (Sc 57 rfl (Sc 58 rfl (Sc 59 rfl (Sc 60 rfl (Sc 61 rfl (Sc 62 rfl (Sc 63 rfl (Sc 64 rfl (Sc 65 rfl (Sc 66 rfl (Sc 67 rfl (Sc 68 rfl (Sc 69 rfl (Sc 70 rfl (Sc 71 rfl (Sc 72 rfl (Sc 73 rfl (Sc 74 rfl (Sc 75 rfl (Sc 76 rfl (Sc 77 rfl (Sc 78 rfl (Sub.nil _))))))))))))))))))))))))))))))))))))))))))))))))))))))))))))))))))))))))
      ·rintro ρ' B' H' ⟨rfl, rfl, rfl, hng⟩
       refine Cq (fun K35 k35 => ?_)
       refine Cq (fun K36 k36 => ?_)
       refine Cr <| Lx.y (mv rfl) rfl <| Lx.y (neS rfl rfl) rfl <| Lx.nil <| ?_
       refine Xx.tn (k36 _ _ _ _ ?_)
       refine Cx.condN rfl (fun h37 => ?_) (fun h37 => ?_)
       ·
        have g5 := h37
        have hbn : bodF j.l x.ends gone (bodd b0.revs) 0 b0 = none := hbf.trans (by rw [hdr]; exact bf2 hng g5)
        rw [hb0] at hbn
        refine Cq (fun K38 k38 => ?_)
        refine Cr <| Lx.y (asg rfl) rfl <| Lx.nil <| ?_
        refine Xx.tn (k38 _ _ _ _ ?_)
        refine Cx.ret <| Xx.tr <| ?_
        refine Xx.br ?_
        refine Xx.tr <| Xx.tr <| ?_
        refine Xx.br ?_
        refine Xx.tr ?_
        refine Xx.dropB bY (Xx.dropB bb (Xx.dropB bp (Xx.dropB b9 ?_)))
        have hz := step_none (n := n) (gone := gone) (V := x.vs) (by have h := @nx4 x.vs.l j.l x.ends n gone; rw [← hr] at h; exact h g1 g2 h3 hbn)
        exact Xx.ret1 rfl rfl ⟨x, by rw [hz]; rfl, by rw [hz], rfl, rfl, hk.mono (Fz hB7 (Fz hB8 hB9)), rfl⟩ (Fz hB7 (Fz hB8 hB9)) (by ac_rfl)
       ·
        have g5 := h37
        have hy1 := says_len g5
        refine Cx.skip ?_
        refine Xx.tn (k35 _ _ _ _ ?_)
        refine Cq (fun K39 k39 => ?_)
        refine Cx.drawn (by kernel_rfl) ?_
        refine Dx.r (i := 0) rfl (by kernel_rfl) (ldA U25 rfl sz25 rfl (Co (n := 4) Pe (show ((bmc bc).drop 0).take 4 = bmc bc from rfl)) rfl) rfl ?_
        refine Dx.p (i := 1) rfl (by kernel_rfl) (mv rfl) rfl ?_
        refine Dx.p (i := 2) rfl (by kernel_rfl) (fa' fo149_2 rfl) rfl ?_
        refine Dx.r (i := 3) rfl (by kernel_rfl) (ld U9 rfl rfl rfl) rfl ?_
        refine Dx.p (i := 4) rfl (by kernel_rfl) (sl1S U9 rfl rfl (show Int.toNat _ = 1 from rfl) (by omega) (by omega)) rfl ?_
        refine Dx.one (i := 5) (by kernel_rfl) ?_
        refine Dstep.o (i := 5) rfl (Ox.cb rfl rfl rfl (With_ct bc ((bodd b0.revs)[i]'hlt) ((j.l.getD (x.ends + 1 + i) zRc).body.drop 1) _ hRc (by omega) (by omega) (by rw [List.length_drop]; omega))) rfl (fun v B' H' hΦ hB => ?_)
        obtain ⟨rfl, hΦ⟩ := hΦ
        obtain ⟨A8, c8, rfl, hR8⟩ := hΦ
        have hB10 := hB
        clear hB
        rename Frag => B10
        refine ⟨Jy (Je (Jt) (by kernel_rfl)) (ld U9 rfl rfl rfl), ?_⟩
        refine Dx.p (i := 6) rfl (by kernel_rfl) (mv rfl) rfl ?_
        refine Dx.p (i := 7) rfl (by kernel_rfl) (ext rfl rfl) rfl ?_
        refine Dx.p (i := 8) rfl (by kernel_rfl) (ext rfl rfl) rfl ?_
        refine Dx.one (i := 9) (by kernel_rfl) ?_
        refine Dstep.o0 (i := 9) rfl (stA (d := .bool) sz25 rfl rfl rfl rfl (by show 0 + 4 ≤ 4; omega) rfl) (fun v B' H' hΦ hB => ?_)
        obtain ⟨Y, rfl⟩ := hΦ; have E := Y.symm; subst E; clear hB v
        refine ⟨Je (Je (Jt) (by kernel_rfl)) (by kernel_rfl), ?_⟩
        refine Dx.p (i := 10) rfl (by kernel_rfl) (asg rfl) rfl ?_
        refine Dx.done (by kernel_rfl) ?_
        refine Xx.tn (k39 _ _ _ _ ?_)
        refine Cq (fun K40 k40 => ?_)
        refine Cr <| Lx.y (mv rfl) rfl <| Lx.y (neI rfl rfl) rfl <| Lx.nil <| ?_
        refine Xx.tn (k40 _ _ _ _ ?_)
        refine Cx.condN rfl (fun h41 => ?_) (fun h41 => ?_)
        ·
         have g6 := h41
         have hbn : bodF j.l x.ends gone (bodd b0.revs) 0 b0 = none := hbf.trans (by rw [hdr]; exact bf3 hng g5 g6)
         rw [hb0] at hbn
         refine Cq (fun K42 k42 => ?_)
         refine Cr <| Lx.y (asg rfl) rfl <| Lx.nil <| ?_
         refine Xx.tn (k42 _ _ _ _ ?_)
         refine Cx.ret ?_
         refine Xx.br ?_
         refine Xx.tr <| Xx.tr <| ?_
         refine Xx.br ?_
         refine Xx.tr ?_
         refine Xx.dropB bY (Xx.dropB bb (Xx.dropB bp (Xx.dropB b9 ?_)))
         have hz := step_none (n := n) (gone := gone) (V := x.vs) (by have h := @nx4 x.vs.l j.l x.ends n gone; rw [← hr] at h; exact h g1 g2 h3 hbn)
         exact Xx.ret1 rfl rfl ⟨x, by rw [hz]; rfl, by rw [hz], rfl, rfl, hk.mono (Fz hB7 (Fz hB8 (Fz hB9 hB10))), rfl⟩ (Fz hB7 (Fz hB8 (Fz hB9 hB10))) (by ac_rfl)
        ·
         have g6 := h41
         refine Cx.skip <| Xx.bn <| ?_
         refine Xx.tn (k27 _ _ _ _ ?_)
         refine Cr <| Lx.y (Yx.val (add rfl rfl (by first | exact wrap64 (by omega) (by omega) | rfl)) (show _ = i64 ((i + 1 : Nat) : Int) from rfl)) rfl <| Lx.y (mv rfl) rfl <| Lx.nil <| ?_
         refine Xx.dropB bY ?_
         exact Xx.againK ⟨i + 1, ⟨(withF bc.b ((bodd b0.revs)[i]'hlt) ((j.l.getD (x.ends + 1 + i) zRc).body.drop 1)).1, A8, c8⟩, _, ⟨hlt, hbf.trans (by rw [hdr]; exact bf4 hng g5 g6), hR8, by rw [(with_len _ _ _).1]; exact hl6, with_le hlec (by decide), Fz hB9 hB10⟩, rfl, rfl, rfl, (by ac_rfl)⟩ (by omega) (Sc 60 rfl (Sc 0 rfl (Sc 1 rfl (Sc 2 rfl (Sc 3 rfl (Sc 9 rfl (Sc 11 rfl (Sc 12 rfl (Sc 13 rfl (Sc 15 rfl (Sc 21 rfl (Sc 22 rfl (Sc 23 rfl (Sc 24 rfl (Sc 25 rfl (Sc 26 rfl (Sc 27 rfl (Sc 28 rfl (Sc 29 rfl (Sc 30 rfl (Sc 31 rfl (Sc 32 rfl (Sc 33 rfl (Sc 34 rfl (Sc 35 rfl (Sc 36 rfl (Sc 37 rfl (Sc 38 rfl (Sc 39 rfl (Sc 40 rfl (Sc 41 rfl (Sc 42 rfl (Sc 43 rfl (Sc 44 rfl (Sc 45 rfl (Sc 46 rfl (Sc 47 rfl (Sc 48 rfl (Sc 49 rfl (Sc 50 rfl (Sc 51 rfl (Sc 52 rfl (Sc 53 rfl (Sc 54 rfl (Sc 55 rfl (Sc 56 rfl (Sc 57 rfl (Sc 58 rfl (Sc 59 rfl (Sub.nil _))))))))))))))))))))))))))))))))))))))))))))))))))
     ·
      have hge := h26
      obtain rfl : i = (bodd b0.revs).length := by omega
      rw [List.drop_length] at hbf
      have hbf : bodF j.l x.ends gone (bodd b0.revs) 0 b0 = some bc.b := hbf
      rw [hb0] at hbf
      refine Cx.exit <| Xx.te <| Xx.te <| Xx.bh <| ?_
      refine Xx.tn (k22 _ _ _ _ ?_)
      refine Cq (fun K43 k43 => ?_)
      refine Cq (fun K44 k44 => ?_)
      refine Cx.drawn (by kernel_rfl) ?_
      refine Dx.r (i := 0) rfl (by kernel_rfl) (ldA U25 rfl sz25 rfl (Co (n := 4) Pe (show ((bmc bc).drop 0).take 4 = bmc bc from rfl)) rfl) rfl ?_
      refine Dx.p (i := 1) rfl (by kernel_rfl) (mv rfl) rfl ?_
      refine Dx.p (i := 2) rfl (by kernel_rfl) (nilc rfl) rfl ?_
      refine Dx.p (i := 3) rfl (by kernel_rfl) (fa' fo94_2 rfl) rfl ?_
      refine Dx.r (i := 4) rfl (by kernel_rfl) (ld U51 rfl rfl rfl) rfl ?_
      refine Dx.p (i := 5) rfl (by kernel_rfl) (lenV (ty' := 0) U51 rfl) rfl ?_
      refine Dx.p (i := 6) rfl (by kernel_rfl) (cvW64 rfl U3 U22) rfl ?_
      refine Dx.p (i := 7) rfl (by kernel_rfl) (mv rfl) rfl ?_
      refine Dx.one (i := 8) (by kernel_rfl) ?_
      refine Dstep.o (i := 8) rfl (Ox.co rfl rfl rfl (prev_ct vb x _ (hk.mono (Fz hB7 (Fz hB8 hB9)))) (Pick.eq)) rfl (fun v B' H' hΦ hB => ?_)
      obtain ⟨rfl, Y, rfl⟩ := hΦ; have E := Y.symm; subst E; clear hB
      refine ⟨Jy (Jy (Jt) (ldA U25 rfl sz25 rfl (Co (n := 4) Pe (show ((bmc bc).drop 0).take 4 = bmc bc from rfl)) rfl)) (ld U51 rfl rfl rfl), ?_⟩
      refine Dx.one (i := 9) (by kernel_rfl) ?_
      refine Dstep.o (i := 9) rfl (Ox.cb rfl rfl rfl (Follows_ct bc (BitVec.ofInt 64 (x.ms.length : Nat)) (prevF x.vs.l) _ hRc ⟨by omega, fun q hq => by obtain ⟨w1, w2, w3, w4⟩ := hlec q hq; exact ⟨by omega, by omega, by omega, by omega⟩⟩)) rfl (fun v B' H' hΦ hB => ?_)
      obtain ⟨rfl, rfl, Y⟩ := hΦ; have E := Y.symm; subst E; clear hB
      refine ⟨Jy (Je (Jt) (by kernel_rfl)) (ld U51 rfl rfl rfl), ?_⟩
      refine Dx.p (i := 10) rfl (by kernel_rfl) (neI rfl rfl) rfl ?_
      refine Dx.done (by kernel_rfl) ?_
      refine Xx.tn (k44 _ _ _ _ ?_)
      refine Cx.condN rfl (fun h45 => ?_) (fun h45 => ?_)
      ·
       have g7 := h45
       refine Cq (fun K46 k46 => ?_)
       refine Cr <| Lx.y (asg rfl) rfl <| Lx.nil <| ?_
       refine Xx.tn (k46 _ _ _ _ ?_)
       refine Cx.ret <| Xx.tr <| ?_
       refine Xx.dropB bb (Xx.dropB bp (Xx.dropB b9 ?_))
       have hz := step_none (n := n) (gone := gone) (V := x.vs) (by have h := @nx5 x.vs.l j.l x.ends n gone bc.b; rw [← hr] at h; exact h g1 g2 h3 hbf (by show ¬ followsF bc.b (BitVec.ofInt 64 ((x.ms.map (·.b)).length : Nat)) (prevF x.vs.l) = 0; rw [List.length_map]; exact g7))
       exact Xx.ret1 rfl rfl ⟨x, by rw [hz]; rfl, by rw [hz], rfl, rfl, hk.mono (Fz hB7 (Fz hB8 hB9)), rfl⟩ (Fz hB7 (Fz hB8 hB9)) (by ac_rfl)
      ·
       have g7 := h45
       refine Cx.skip ?_
       refine Xx.tn (k43 _ _ _ _ ?_)
       refine Cq (fun K47 k47 => ?_)
       refine Cr <| Lx.y (mv rfl) rfl <| Lx.y (ldA U25 rfl sz25 rfl (Co (n := 4) Pe (show ((bmc bc).drop 0).take 4 = bmc bc from rfl)) rfl) rfl <| Lx.y (mv rfl) rfl <| ?_
       refine Lx.c rfl rfl rfl (take_ct vb x bc x.ends _ (hk.mono (Fz hB7 (Fz hB8 hB9))) hRc (follows_ok g7 (prevF_len _)).1 hx (by omega)) (Pick.eq) rfl ?_
       rintro v11 B11 H11 ⟨rfl, x', rfl, hx1, hx2, hx3, hx4, hx5⟩ hB11
       refine Lx.nil ?_
       refine Xx.tn (k47 _ _ _ _ ?_)
       refine Cq (fun K48 k48 => ?_)
       refine Cr <| Lx.y (mv rfl) rfl <| Lx.y (lenV (ty' := 0) U26 rfl) rfl <| Lx.y (Yx.val (add rfl rfl (by first | exact wrap64 (by omega) (by omega) | rfl)) (show _ = i64 ((1 + (bodd b0.revs).length : Nat) : Int) from rfl)) rfl <| Lx.y (asg rfl) rfl <| Lx.nil <| ?_
       refine Xx.tn (k48 _ _ _ _ ?_)
       refine Cx.ret ?_
       refine Xx.dropB bb (Xx.dropB bp (Xx.dropB b9 ?_))
       have hz := step_some (V := x.vs) (hnx g1 g2 h3 hbf (by show followsF bc.b (BitVec.ofInt 64 ((x.ms.map (·.b)).length : Nat)) (prevF x.vs.l) = 0; rw [List.length_map]; exact g7))
       exact Xx.ret1 rfl rfl ⟨x', by rw [hz, ← hb0], by rw [hz]; unfold Vm.vs takeV; simp only [hx1, hx2, hx3, List.map_append, List.map_cons, List.map_nil], hx4, hx5, ⟨fun b hb => by rw [hx1] at hb; rcases List.mem_append.1 hb with hb | hb; exact ((hk.mono (Fz hB7 (Fz hB8 (Fz hB9 hB11)))).1 b hb); rw [List.mem_singleton.1 hb]; exact ⟨Bm.ro_mono hRc hB11, (follows_ok g7 (prevF_len _)).1⟩, by rw [hx1, List.length_append, List.length_singleton]; omega⟩, rfl⟩ (Fz hB7 (Fz hB8 (Fz hB9 hB11))) (by ac_rfl)
end ViB
end Go.Proofs.YthlfffbcligocaaGreat
namespace Go.Proofs.YthlfffbcligocaaGreat
open Go.SL Go.RowKit
set_option maxRecDepth 100000
open VhA VhB VhC VhD VhE VhF VhG VhH VhI VhJ VhK VhL VhM VhN VhO VhP VhQ VhR VhS VhT VhU VhV VhW VhX VhY VhZ ViA ViB
open Jn1 (Rc rcc Jn jnH atV jcs rcc_len)
open DkB (Dk dkH findM)
open DkH (fileM)
open DkI (errM)
open DkC (sortI_len)
namespace ViE
theorem sz3 : (Tryz.prog.info? 3).map (·.size) = some 1 := by kernel_rfl
theorem sz4 : (Tryz.prog.info? 4).map (·.size) = some 1 := by kernel_rfl
theorem sz9 : (Tryz.prog.info? 9).map (·.size) = some 1 := by kernel_rfl
theorem sz22 : (Tryz.prog.info? 22).map (·.size) = some 1 := by kernel_rfl
theorem sz28 : (Tryz.prog.info? 28).map (·.size) = some 1 := by kernel_rfl
theorem sz141 : (Tryz.prog.info? 141).map (·.size) = some 1 := by kernel_rfl
theorem sz149 : (Tryz.prog.info? 149).map (·.size) = some 4 := by kernel_rfl
theorem ti3 : TI Tryz.prog 3 [.int .i64 0] 1 8 := TI.of (by kernel_rfl) rfl rfl
theorem ti28 : TI Tryz.prog 28 [.int .i64 0] 1 8 := TI.of (by kernel_rfl) rfl rfl
theorem ti149 : TI Tryz.prog 149 [.int .i64 0, .int .i64 0, str [], .bool false] 4 40 := TI.of (by kernel_rfl) rfl rfl
theorem fo143_0 : FO Tryz.prog 143 0 0 1 false := FO.of U143 rfl rfl (by kernel_rfl) U27 rfl rfl
theorem fo143_2 : FO Tryz.prog 143 2 2 1 false := FO.of U143 rfl rfl (by kernel_rfl) U3 rfl rfl
theorem fo143_3 : FO Tryz.prog 143 3 3 1 false := FO.of U143 rfl rfl (by kernel_rfl) U3 rfl rfl
theorem fo143_4 : FO Tryz.prog 143 4 4 1 false := FO.of U143 rfl rfl (by kernel_rfl) U141 rfl rfl
theorem fo149_0 : FO Tryz.prog 149 0 0 1 false := FO.of U149 rfl rfl (by kernel_rfl) U3 rfl rfl
theorem fo149_1 : FO Tryz.prog 149 1 1 1 false := FO.of U149 rfl rfl (by kernel_rfl) U3 rfl rfl
theorem fo149_2 : FO Tryz.prog 149 2 2 1 false := FO.of U149 rfl rfl (by kernel_rfl) U9 rfl rfl
theorem Xx.rMc {P : Program} {B B0 : Frag} {H R : HP} {ρ : Sl} {N0 nt : Nat} {w0 : World} {fn : Func} {Ds : List Nat} {Φ : Value → Frag → HP → Prop} {v : Value} {G H' : HP} (hr : ∀ a w, Fr ρ nt (Ds.map SL.mark) a → St N0 B (G * (H' * R)) w → (results fn a.tmps).run P w = .ok v w)
    (hΦ : Φ v B H') (hB : B0.le B) (hH : H = marks Ds * (G * (H' * R))) : Xx ⟨P, none, N0, w0, nt⟩ (Ds.map SL.mark) (bodyPostM (FW none) 0 P fn (Fin N0 w0 R B0 Φ) .ret) ρ B H := fun a w f b s => by
  show LeavesInM (FW none) 0 P fn a.tmps _ a.defers .returning w
  rw [f.defers]
  exact leavesM Ds w b (hH ▸ s) fun w' b' s' => ⟨v, hr a w' f s', v, B, H', rfl, hΦ, hB, b', s'.drop⟩
def ixI (x : Int) : List Int → Nat → Int
  | [], _ => -1
  | y :: l, k => if x = y then (k : Int) else ixI x l (k + 1)
theorem ixI_ge (x : Int) : ∀ (l : List Int) (k : Nat), (0 ≤ ixI x l k) ↔ x ∈ l := by
  intro l
  induction l with
  | nil => intro k; simp [ixI]
  | cons y l ih =>
    intro k
    unfold ixI
    split
    · rename_i h; simp [h]
    · rename_i h; rw [ih]; simp [h]
theorem ints_at {l : List Int} {i : Nat} (h : i < l.length) : (ints l)[i]? = some (i64 l[i]) := by
  show (l.map (Value.int .i64))[i]? = _
  rw [List.getElem?_map, List.getElem?_eq_getElem h]; rfl
set_option maxHeartbeats 1000000 in
theorem IndexI_ct (l : List Int) (A : Option Addr) (c : Nat) (x : Int) (B : Frag) (hR : RoS B 1 A l.length (ints l)) (hn : l.length ≤ 1000000000) : CtP Tryz.prog 113 [.slice A l.length c, i64 x] B (i64 (ixI x l 0)) := by
  refine CtB.of_body Tryz.func113 rfl (nt := 19) rfl (by kernel_rfl) rfl ?_
  intro N0 w0 R
  refine Cq (fun K1 k1 => ?_)
  refine Cr <| Lx.y (asg rfl) rfl <| Lx.nil <| ?_
  refine Xx.tn (k1 _ _ _ _ ?_)
  refine Cq (fun K2 k2 => ?_)
  refine Cq (fun K3 k3 => ?_)
  refine Cr <| Lx.y (mv rfl) rfl <| Lx.y (lenV (ty' := 0) U26 rfl) rfl <| Lx.y (mv rfl) rfl <| Lx.nil <| ?_
  refine Xx.tn (k3 _ _ _ _ ?_)
  refine Cx.block ?_
  refine Cx.loopK (Sc 0 rfl (Sc 1 rfl (Sc 6 rfl (Sc 7 rfl (Sub.nil _))))) (fun m ρ' B' H' => ∃ (i : Nat), (i ≤ l.length ∧ ixI x l 0 = ixI x (l.drop i) i) ∧ m = l.length - i ∧ ρ' = [(8, i64 (i : Int))] ∧ B = B' ∧ R = H') ⟨0, ⟨Nat.zero_le _, rfl⟩, rfl, rfl, rfl, rfl⟩ (Sc 8 rfl (Sc 0 rfl (Sc 1 rfl (Sc 6 rfl (Sc 7 rfl (Sub.nil _)))))) ?_
  rintro m ρ' B' H' ⟨i, ⟨hi, hx⟩, rfl, rfl, rfl, rfl⟩
  refine Cq (fun K4 k4 => ?_)
  refine Cr <| Lx.y (lss rfl rfl) rfl <| Lx.nil <| ?_
  refine Xx.tn (k4 _ _ _ _ ?_)
  refine Cq (fun K5 k5 => ?_)
  refine Cx.condD rfl (fun h6 => ?_) (fun h6 => ?_)
  · skip
    have hlt := h6
    have hlt : i < l.length := by omega
    obtain ⟨b9, o9, cs9, et9, fz9, hA9, hB9, hv9⟩ := hR.at1 hlt
    rw [ints_at hlt] at hv9
    refine Cx.skip ?_
    refine Xx.tn (k5 _ _ _ _ ?_)
    refine Cq (fun K7 k7 => ?_)
    refine Cx.block ?_
    refine Cq (fun K8 k8 => ?_)
    refine Cr <| Lx.y (mv rfl) rfl <| Lx.y (asg rfl) rfl <| Lx.nil <| ?_
    refine Xx.tn (k8 _ _ _ _ ?_)
    refine Cq (fun K9 k9 => ?_)
    refine Cr <| Lx.y (mv rfl) rfl <| Lx.y (mv rfl) rfl <| Lx.y (mv rfl) rfl <| Lx.y (Yx.val (ia (b := b9) (o := o9) U26 sz3 (by rw [← hA9]; rfl) rfl (Int.toNat_natCast _) (by omega) (by omega)) rfl) rfl <| Lx.y (ldB U3 rfl rfl hB9 hv9) rfl <| Lx.y (eqI rfl rfl) rfl <| Lx.nil <| ?_
    refine Xx.tn (k9 _ _ _ _ ?_)
    refine Cx.condD rfl (fun h10 => ?_) (fun h10 => ?_)
    · skip
      have g1 : x = l[i] := h10
      refine Cq (fun K11 k11 => ?_)
      refine Cr <| Lx.y (mv rfl) rfl <| Lx.y (asg rfl) rfl <| Lx.nil <| ?_
      refine Xx.tn (k11 _ _ _ _ ?_)
      refine Cx.ret ?_
      refine Xx.br ?_
      refine Xx.tr <| Xx.tr <| ?_
      refine Xx.br ?_
      refine Xx.tr ?_
      exact Xx.rB1 rfl rfl ⟨by rw [hx, List.drop_eq_getElem_cons hlt, ixI, if_pos g1], rfl⟩ (Fl _) rfl
    · skip
      have g1 : ¬ x = l[i] := h10
      refine Cx.skip <| Xx.bn <| ?_
      refine Xx.tn (k7 _ _ _ _ ?_)
      refine Cr <| Lx.y (Yx.val (add rfl rfl (by first | exact wrap64 (by omega) (by omega) | rfl)) (show _ = i64 ((i + 1 : Nat) : Int) from rfl)) rfl <| Lx.y (mv rfl) rfl <| Lx.nil <| ?_
      exact Xx.againK ⟨i + 1, ⟨hlt, by rw [hx, List.drop_eq_getElem_cons hlt, ixI, if_neg g1]⟩, rfl, rfl, rfl, rfl⟩ (by omega) (Sc 8 rfl (Sc 0 rfl (Sc 1 rfl (Sc 6 rfl (Sc 7 rfl (Sub.nil _))))))
  · skip
    have hge := h6
    obtain rfl : i = l.length := by omega
    rw [List.drop_length] at hx
    refine Cx.exit <| Xx.te <| Xx.te <| Xx.bh <| ?_
    refine Xx.tn (k2 _ _ _ _ ?_)
    refine Cq (fun K12 k12 => ?_)
    refine Cr <| Lx.y (asg rfl) rfl <| Lx.nil <| ?_
    refine Xx.tn (k12 _ _ _ _ ?_)
    refine Cx.ret ?_
    exact Xx.rB1 rfl rfl ⟨by rw [hx]; rfl, rfl⟩ (Fl _) rfl
set_option maxHeartbeats 1000000 in
theorem ContI_ct (l : List Int) (A : Option Addr) (c : Nat) (x : Int) (B : Frag) (hR : RoS B 1 A l.length (ints l)) (hn : l.length ≤ 1000000000) : CtP Tryz.prog 68 [.slice A l.length c, i64 x] B (.bool (decide (x ∈ l))) := by
 refine CtB.of_body Tryz.func68 rfl (nt := 9) rfl (by kernel_rfl) rfl ?_
 intro N0 w0 R
 refine Cq (fun K1 k1 => ?_)
 refine Cr <| Lx.y (asg rfl) rfl <| Lx.nil <| ?_
 refine Xx.tn (k1 _ _ _ _ ?_)
 refine Cq (fun K2 k2 => ?_)
 refine Cr <| Lx.y (mv rfl) rfl <| Lx.y (mv rfl) rfl <| ?_
 refine Lx.cp rfl rfl rfl (IndexI_ct l A c x _ hR hn) rfl ?_
 refine Lx.y (geq rfl rfl) rfl <| Lx.y (asg rfl) rfl <| Lx.nil <| ?_
 refine Xx.tn (k2 _ _ _ _ ?_)
 refine Cx.ret ?_
 exact Xx.rB1 rfl rfl ⟨congrArg Value.bool (decide_eq_decide.2 (ixI_ge x l 0)), rfl⟩ (Fl _) rfl
set_option maxHeartbeats 1000000 in
theorem BackI_ct (A : Option Addr) (n c : Nat) (B : Frag) : Ct Tryz.prog 108 [.slice A n c] B 1 (fun v B' H' => B' = B ∧ ∃ b1, v = .func (.func 141) #[] #[.pointer (some ⟨b1, 0, none⟩)] ∧ H' = row b1 26 [.slice A n c]) := by
 refine Ct.of_body Tryz.func108 rfl (nt := 4) rfl (by kernel_rfl) rfl ?_
 intro N0 w0 R
 rw [one_star]
 refine Cq (fun K1 k1 => ?_)
 refine Cr ?_
 refine Lx.new (boxO rfl rfl) rfl (fun b1 => ?_)
 refine Lx.y (asg rfl) rfl <| Lx.nil <| ?_
 refine Xx.tn (k1 _ _ _ _ ?_)
 refine Cq (fun K2 k2 => ?_)
 refine Cr <| Lx.y (mkf rfl rfl) rfl <| Lx.y (asg rfl) rfl <| Lx.nil <| ?_
 refine Xx.tn (k2 _ _ _ _ ?_)
 refine Cx.ret ?_
 exact Xx.ret1 rfl rfl ⟨rfl, b1, rfl, rfl⟩ (Fl _) rfl
set_option maxHeartbeats 1000000 in
theorem BackI_it (l : List Int) (A : Option Addr) (c b : Nat) (B : Frag) (hR : RoS B 1 A l.length (ints l)) (hn : l.length ≤ 1000000000) : It Tryz.prog 141 [.pointer (some ⟨b, 0, none⟩)] (fun x : Nat × Int => [i64 (x.1 : Int), i64 x.2]) (bkw 0 l l.length) B (row b 26 [.slice A l.length c]) := by
 refine ⟨Go.SL.enters_of Tryz.func141 rfl (by kernel_rfl), fun lp J Jx hy B1 H1 hB1 hJ0 => ?_⟩
 refine Ct.of_body Tryz.func141 rfl (nt := 19) rfl (by kernel_rfl) rfl ?_
 intro N0 w0 R
 rw [star_assoc]
 refine Cq (fun K1 k1 => ?_)
 refine Cr <| Lx.y (ld U26 rfl rfl rfl) rfl <| Lx.y (lenV (ty' := 0) U26 rfl) rfl <| Lx.y (sub rfl rfl (show IntKind.i64.wrap _ = ((l.length : Nat) : Int) - 1 from wrap64 (by omega) (by omega))) rfl <| Lx.y (asg rfl) rfl <| Lx.nil <| ?_
 refine Xx.tn (k1 _ _ _ _ ?_)
 refine Cx.block ?_
 refine Cx.loopK (Sc 0 rfl (Sc 1 rfl (Sc 4 rfl (Sc 5 rfl (Sc 6 rfl (Sub.nil _)))))) (fun m ρ' B' H' => ∃ (k : Nat) (pre : List (Nat × Int)) (B2 : Frag) (H2 : HP), (bkw 0 l l.length = pre ++ bkw 0 l k ∧ k ≤ l.length ∧ J pre B2 H2 ∧ B1.le B2) ∧ m = k * 1 ∧ ρ' = [(3, i64 ((k : Int) - 1))] ∧ B2 = B' ∧ row b 26 [.slice A l.length c] * (H2 * R) = H') ⟨l.length, [], B1, H1, ⟨rfl, Nat.le_refl _, hJ0, Fl _⟩, rfl, rfl, rfl, rfl⟩ (Sc 3 rfl (Sc 0 rfl (Sc 1 rfl (Sc 4 rfl (Sc 5 rfl (Sc 6 rfl (Sub.nil _))))))) ?_
 rintro m ρ' B' H' ⟨k, pre, B2, H2, ⟨hxs, hk, hJ, hB2⟩, rfl, rfl, rfl, rfl⟩
 refine Cq (fun K2 k2 => ?_)
 refine Cq (fun K3 k3 => ?_)
 refine Cr <| Lx.y (mv rfl) rfl <| Lx.y (geq rfl rfl) rfl <| Lx.nil <| ?_
 refine Xx.tn (k3 _ _ _ _ ?_)
 refine Cx.condD rfl (fun h4 => ?_) (fun h4 => ?_)
 ·
  have hge := h4
  obtain ⟨k, rfl⟩ : ∃ j, k = j + 1 := ⟨k - 1, by omega⟩
  obtain ⟨b9, o9, cs9, et9, fz9, hA9, hB9, hv9⟩ := hR.at1 (show k < l.length by omega)
  rw [ints_at (show k < l.length by omega)] at hv9
  have hgd : l[k]'(by omega) = l.getD k 0 := by rw [List.getD_eq_getElem?_getD, List.getElem?_eq_getElem (show k < l.length by omega)]; rfl
  rw [hgd] at hv9
  have hB9 := hB2 _ _ (hB1 _ _ hB9)
  have hxs2 : bkw 0 l l.length = (pre ++ [(k, l.getD k 0)]) ++ bkw 0 l k := by rw [hxs]; simp [bkw]
  refine Cx.skip ?_
  refine Xx.tn (k2 _ _ _ _ ?_)
  refine Cq (fun K5 k5 => ?_)
  refine Cx.block ?_
  refine Cq (fun K6 k6 => ?_)
  refine Cr <| Lx.y (mv rfl) rfl <| Lx.y (Yx.val (mv rfl) (show _ = i64 ((k : Nat) : Int) from by congr 1; omega)) rfl <| Lx.y (ld U26 rfl rfl rfl) rfl <| Lx.y (Yx.val (mv rfl) (show _ = i64 ((k : Nat) : Int) from by congr 1; omega)) rfl <| Lx.y (Yx.val (ia (b := b9) (o := o9) U26 sz3 (by rw [← hA9]; rfl) rfl (Int.toNat_natCast _) (by omega) (by omega)) rfl) rfl <| Lx.y (ldB U3 rfl rfl hB9 hv9) rfl <| ?_
  refine Lx.yield rfl rfl (hy pre (k, l.getD k 0) (bkw 0 l k) B2 H2 (by rw [hxs]; rfl) (Fz hB1 hB2) hJ) (star_left _ _ _) rfl ?_
  rintro t B3 H3 hΦ hB3
  refine Lx.y (not' rfl) rfl <| Lx.nil <| ?_
  refine Xx.tn (k6 _ _ _ _ ?_)
  refine Cx.condB rfl (fun h7 => ?_) (fun h7 => ?_)
  ·
   obtain ⟨_, hΦ⟩ : t = false ∧ Jx (pre ++ [(k, l.getD k 0)]) B3 H3 := by simpa [show t = false by simpa using h7] using hΦ
   refine Cx.ret ?_
   refine Xx.br ?_
   refine Xx.tr <| Xx.tr <| ?_
   refine Xx.br ?_
   exact Xx.ret0 rfl ⟨H3, rfl, .inr ⟨_, _, hxs2, hΦ⟩⟩ (Fz hB2 hB3) (by ac_rfl)
  ·
   obtain ⟨_, hΦ⟩ : t = true ∧ J (pre ++ [(k, l.getD k 0)]) B3 H3 := by simpa [show t = true by simpa using h7] using hΦ
   refine Cx.skip <| Xx.bn <| ?_
   refine Xx.tn (k5 _ _ _ _ ?_)
   refine Cr <| Lx.y (mv rfl) rfl <| Lx.y (sub rfl rfl (show IntKind.i64.wrap _ = ((k : Nat) : Int) - 1 from (wrap64 (by omega) (by omega)).trans (by omega))) rfl <| Lx.y (asg rfl) rfl <| Lx.nil <| ?_
   exact Xx.againK ⟨k, pre ++ [(k, l.getD k 0)], B3, H3, ⟨hxs2, by omega, hΦ, Fz hB2 hB3⟩, rfl, rfl, rfl, (by ac_rfl)⟩ (by omega) (Sc 3 rfl (Sc 0 rfl (Sc 1 rfl (Sc 4 rfl (Sc 5 rfl (Sc 6 rfl (Sub.nil _)))))))
 ·
  have hge := h4
  obtain rfl : k = 0 := by omega
  have hxs0 : bkw 0 l l.length = pre := by rw [hxs]; simp [bkw]
  refine Cx.exit <| Xx.te <| Xx.te <| Xx.bh <| ?_
  exact Xx.end0 rfl ⟨H2, rfl, .inl (hxs0 ▸ hJ)⟩ hB2 (by ac_rfl)
theorem bkwI_all {q : Int} (l : List Int) : ∀ n, (∀ y ∈ l, y ≤ q) → n ≤ l.length → ∀ x ∈ bkw 0 l n, x.2 ≤ q := by
  intro n
  induction n with
  | zero => intro _ _ x hx; cases hx
  | succ n ih =>
    intro h hn x hx
    rcases List.mem_cons.1 hx with rfl | hx
    · show l.getD n 0 ≤ q
      rw [List.getD_eq_getElem?_getD, List.getElem?_eq_getElem (show n < l.length by omega)]
      exact h _ (List.getElem_mem _)
    · exact ih h (by omega) x hx
def Whole (j : Jn) (fs : List DkB.Fm) : Prop := (j.l = [] ∧ fs = []) ∨ (∃ l0 r f, j.l = l0 ++ [r] ∧ r.file = j.last ∧ r.at_ + r.body.length = j.long ∧ findM (j.last : Int) fs = some f ∧ f.now.length = j.long ∧ ∀ g ∈ fs, g.n ≤ (j.last : Int))
set_option maxHeartbeats 2000000 in
theorem JKeep0_ct (jb : Nat) (j : Jn) (d : Dk) (B : Frag) (hF : d.abs.Fit) (hd : d.dead = false) (hw : Whole j d.abs.fs) (hjl : j.l.length ≤ 1000000000) (hlo : j.long ≤ 1000000000000) (hla : j.last ≤ 1000000000) : Ct Tryz.prog 65 [.pointer (some ⟨jb, 0, none⟩), i64 (j.l.length : Int)] B (jnH jb j * dkH j.db d) (fun v B' H' => v = i64 0 ∧ H' = jnH jb j * dkH j.db d) := by
 obtain ⟨zs, hzs⟩ : ∃ zs, zs = sortI (d.fs.map (·.m.n)) := ⟨_, rfl⟩
 have hfl : d.fs.length ≤ 1000000 := by have := hF.len; unfold Dk.abs at this; simpa using this
 have hzl : zs.length = d.fs.length := by rw [hzs, DkC.sortI_len, List.length_map]
 have hzm : ∀ y, y ∈ zs ↔ y ∈ d.fs.map (·.m.n) := fun y => by rw [hzs]; exact (List.mergeSort_perm _ _).mem_iff
 refine Ct.of_bodyM Tryz.func65 rfl (nt := 135) rfl (by kernel_rfl) rfl ?_
 intro N0 w0 R
 unfold jnH jcs
 simp only [star_assoc]
 refine Cq (fun K1 k1 => ?_)
 refine Cr ?_
 refine Lx.new (boxO rfl rfl) rfl (fun b2 => ?_)
 refine Lx.new (allocO ti28) rfl (fun b4 => ?_)
 refine Lx.nil ?_
 refine Xx.tn (k1 _ _ _ _ ?_)
 refine Cq (fun K2 k2 => ?_)
 refine Cq (fun K3 k3 => ?_)
 refine Cr <| Lx.y (ld U91 rfl rfl rfl) rfl <| Lx.y (Yx.ff (eqNilP U91 rfl rfl) rfl) rfl <| Lx.y (mv rfl) rfl <| Lx.gT rfl rfl rfl <| Lx.y (mv rfl) rfl <| Lx.gT rfl rfl rfl <| Lx.y (lss rfl rfl) rfl <| Lx.y (pickF rfl rfl) rfl <| Lx.y (mv rfl) rfl <| ?_
 refine Xx.ifD (t := 21) rfl (fun h4 => ?_) (fun h4 => ?_)
 ·
  exact absurd h4 (by omega)
 ·
  have h00 := h4
  refine Lx.gT rfl rfl rfl <| Lx.y (mv rfl) rfl <| Lx.gT rfl rfl rfl <| Lx.y (ld U91 rfl rfl rfl) rfl <| Lx.gT rfl rfl rfl <| Lx.y (nilc rfl) rfl <| Lx.gT rfl rfl rfl <| Lx.y (fa' fo143_4 rfl) rfl <| Lx.gT rfl rfl rfl <| Lx.y (ld U141 rfl rfl rfl) rfl <| Lx.gT rfl rfl rfl <| Lx.y (lenV (ty' := 0) U141 rfl) rfl <| ?_
  refine Lx.gT rfl rfl rfl <| Lx.y (gtr rfl rfl) rfl <| Lx.y (pickF rfl rfl) rfl <| Lx.nil <| ?_
  refine Xx.tn (k3 _ _ _ _ ?_)
  refine Cx.condD rfl (fun h5 => ?_) (fun h5 => ?_)
  ·
   exact absurd h5 (by omega)
  ·
   have h01 := h5
   refine Cx.skip ?_
   refine Xx.tn (k2 _ _ _ _ ?_)
   refine Cq (fun K6 k6 => ?_)
   refine Cr ?_
   refine Lx.new (allocO ti3) rfl (fun b5 => ?_)
   refine Lx.st (stO U3 sz3 rfl rfl rfl (by show 0 < 1; omega) rfl) ?_
   refine Lx.y (asg rfl) rfl <| Lx.nil <| ?_
   refine Xx.tn (k6 _ _ _ _ ?_)
   refine Cx.cutK (ds' := []) (Sc 1 rfl (Sc 2 rfl (Sc 4 rfl (Sc 5 rfl (Sub.nil _))))) (fun ρ' B' H' => ∃ file end_ : Nat, ρ' = [(6, i64 (end_ : Int))] ∧ B = B' ∧ row b5 3 [i64 (file : Int)] * (row b4 28 [i64 0] * (row b2 91 [.pointer (some ⟨jb, 0, none⟩)] * (row jb 143 [.pointer (some ⟨j.db, 0, none⟩), i64 j.most, i64 (j.last : Int), i64 (j.long : Int), .slice j.Al j.l.length j.cl] * (sbuf 149 4 j.Al j.l.length j.cl (j.l.flatMap rcc) * (dkH j.db d * R))))) = H' ∧ ((j.l = [] ∧ file = 1 ∧ end_ = 0 ∧ d.abs.fs = []) ∨ (file = j.last ∧ end_ = j.long ∧ ∃ f, findM (j.last : Int) d.abs.fs = some f ∧ f.now.length = j.long ∧ ∀ g ∈ d.abs.fs, g.n ≤ (j.last : Int)))) ?_ ?_
   ·
    refine Cq (fun K7 k7 => ?_)
    refine Cr <| Lx.y (mv rfl) rfl <| Lx.y (gtr rfl rfl) rfl <| Lx.nil <| ?_
    refine Xx.tn (k7 _ _ _ _ ?_)
    refine Cx.condD rfl (fun h8 => ?_) (fun h8 => ?_)
    ·
     have hpos := h8
     obtain ⟨l0, r, f, hl0, hrf, hrl, hff, hfn, hle⟩ := hw.resolve_left fun e => by rw [e.1] at hpos; exact absurd hpos (by decide)
     have hlen : j.l.length = l0.length + 1 := by rw [hl0]; simp
     have hlast : j.l[l0.length]'(by omega) = r := by simp [hl0]
     refine Xx.addrT j.Al (by omega) (fun bl hA hxl hxc => ?_)
     refine Cq (fun K9 k9 => ?_)
     rw [hA]
     refine Cr <| Lx.y (ld U91 rfl rfl rfl) rfl <| Lx.y (nilc rfl) rfl <| Lx.y (fa' fo143_4 rfl) rfl <| Lx.y (Yx.val (ld U141 rfl rfl rfl) (show _ = Value.slice (some ⟨bl, 0, none⟩) j.l.length j.cl from by rw [← hA])) rfl <| Lx.y (mv rfl) rfl <| Lx.y (sub rfl rfl (show IntKind.i64.wrap _ = ((l0.length : Nat) : Int) from (wrap64 (by omega) (by omega)).trans (by omega))) rfl <| Lx.y (ia (j := l0.length) U141 sz149 rfl rfl (Int.toNat_natCast _) (by omega) (by omega)) rfl <| Lx.y (ldA U149 rfl sz149 rfl (Cells.buf (b := bl) (m := 4) (show _ = rcc r from by rw [Nat.zero_add, flatG_at rcc_len l0.length j.l (by omega), hlast]) (by rw [flatG_len rcc_len]; omega)) rfl) rfl <| ?_
     refine Lx.new (allocO ti149) rfl (fun b7 => ?_)
     refine Lx.st (stA (d := .bool) sz149 rfl rfl rfl rfl (by show 0 + 4 ≤ 4; omega) rfl) ?_
     refine Lx.nil ?_
     refine Xx.tn (k9 _ _ _ _ ?_)
     refine Cx.drawn (by kernel_rfl) ?_
     refine Dx.p (i := 0) rfl (by kernel_rfl) (fa' fo149_0 rfl) rfl ?_
     refine Dx.r (i := 1) rfl (by kernel_rfl) (ld U3 rfl rfl rfl) rfl ?_
     refine Dx.p (i := 2) rfl (by kernel_rfl) (fa' fo149_1 rfl) rfl ?_
     refine Dx.r (i := 3) rfl (by kernel_rfl) (ld U3 rfl rfl rfl) rfl ?_
     refine Dx.p (i := 4) rfl (by kernel_rfl) (fa' fo149_2 rfl) rfl ?_
     refine Dx.r (i := 5) rfl (by kernel_rfl) (ld U9 rfl rfl rfl) rfl ?_
     refine Dx.p (i := 6) rfl (by kernel_rfl) (lenS U9 rfl) rfl ?_
     refine Dx.p (i := 7) rfl (by kernel_rfl) (add rfl rfl (show IntKind.i64.wrap ((r.at_ : Int) + (r.body.length : Int)) = ((j.long : Nat) : Int) from (wrap64 (by omega) (by omega)).trans (by omega))) rfl ?_
     refine Dx.one (i := 8) (by kernel_rfl) ?_
     refine Dstep.o0 (i := 8) rfl (stO U3 sz3 rfl rfl rfl (by show 0 < 1; omega) rfl) (fun v B' H' hΦ hB => ?_)
     obtain ⟨Y, rfl⟩ := hΦ; have E := Y.symm; subst E; clear hB v
     refine ⟨Jy (Jy (Je (Jt) (by kernel_rfl)) (ld U3 rfl rfl rfl)) (ld U9 rfl rfl rfl), ?_⟩
     refine Dx.p (i := 9) rfl (by kernel_rfl) (asg rfl) rfl ?_
     refine Dx.done (by kernel_rfl) ?_
     refine Xx.dropB b7 ?_
     exact Xx.mkK (⟨j.last, j.long, rfl, rfl, by rw [← hA, hrf], .inr ⟨rfl, rfl, f, hff, hfn, hle⟩⟩) (Sc 6 rfl (Sc 1 rfl (Sc 2 rfl (Sc 4 rfl (Sc 5 rfl (Sub.nil _))))))
    ·
     have hpos := h8
     obtain ⟨hj0, hfs0⟩ := hw.resolve_right fun ⟨l0, r, f, hl0, _⟩ => hpos (by rw [hl0]; simp)
     refine Cx.skip ?_
     exact Xx.mkK (⟨1, 0, rfl, rfl, by ac_rfl, .inl ⟨hj0, rfl, rfl, hfs0⟩⟩) (Sc 6 rfl (Sc 1 rfl (Sc 2 rfl (Sc 4 rfl (Sc 5 rfl (Sub.nil _))))))
   ·rintro ρ' B' H' ⟨file, end_, rfl, rfl, rfl, hcs⟩
    refine Cq (fun K10 k10 => ?_)
    refine Cr <| Lx.y (ld U91 rfl rfl rfl) rfl <| Lx.y (nilc rfl) rfl <| Lx.y (fa' fo143_0 rfl) rfl <| Lx.y (ld U27 rfl rfl rfl) rfl <| ?_
    refine Lx.c rfl rfl rfl (DkC.Files_ct d j.db _ hfl) (Pick.eq) rfl ?_
    rintro v7 B7 H7 ⟨A7, c7, rfl, rfl⟩ hB7
    simp only [star_assoc]
    rw [← hzs, ← hzl]
    refine Xx.freezeT A7 fun B8 hB8 hRz hnc _ => ?_
    refine Lx.y (asg rfl) rfl <| Lx.nil <| ?_
    refine Xx.tn (k10 _ _ _ _ ?_)
    refine Cq (fun K11 k11 => ?_)
    refine Cq (fun K12 k12 => ?_)
    refine Cr <| Lx.y (ld U91 rfl rfl rfl) rfl <| Lx.y (nilc rfl) rfl <| Lx.y (fa' fo143_0 rfl) rfl <| Lx.y (ld U27 rfl rfl rfl) rfl <| ?_
    refine Lx.co rfl rfl rfl (CtC.of (DkB.Dead_ct d j.db _) (show Value.bool d.dead = .bool false from by rw [hd]) rfl) (Pick.eq) rfl ?_
    refine Lx.y (not' rfl) rfl <| Lx.y (mv rfl) rfl <| Lx.gT rfl rfl rfl <| Lx.y (mv rfl) rfl <| Lx.gT rfl rfl rfl <| Lx.y (ld U3 rfl rfl rfl) rfl <| Lx.gT rfl rfl rfl <| ?_
    refine Lx.cp rfl rfl rfl (ContI_ct zs A7 c7 (file : Int) _ hRz (by omega)) rfl ?_
    refine Lx.gT rfl rfl rfl <| Lx.y (not' rfl) rfl <| Lx.y (pickT rfl rfl) rfl <| Lx.y (mv rfl) rfl <| ?_
    refine Xx.ifB (t := 65) rfl (fun h13 => ?_) (fun h13 => ?_)
    ·
     have g1 := h13
     obtain ⟨hj0, hf1, he0, hfs0⟩ := hcs.resolve_right fun e => by
      obtain ⟨q1, q2, f, q3, _⟩ := e
      obtain ⟨q4, q5⟩ := DkN.findM_mem q3
      have q6 : (file : Int) ∈ zs := (hzm _).2 (List.mem_map.2 (by
       obtain ⟨y, hy, hy2⟩ := List.mem_map.1 q4
       exact ⟨y, hy, by rw [hy2, q5, q1]⟩))
      simp [q6] at g1
     have hdf : d.fs = [] := List.map_eq_nil_iff.1 hfs0
     refine Lx.gT rfl rfl rfl <| Lx.y (mv rfl) rfl <| Lx.gT rfl rfl rfl <| Lx.y (lenV (ty' := 0) U26 rfl) rfl <| Lx.gT rfl rfl rfl <| Lx.y (eqI rfl rfl) rfl <| Lx.y (pickT rfl rfl) rfl <| Lx.nil <| ?_
     refine Xx.tn (k12 _ _ _ _ ?_)
     refine Cx.condD rfl (fun h14 => ?_) (fun h14 => ?_)
     ·
      have g2 := h14
      refine Cq (fun K15 k15 => ?_)
      refine Cr ?_
      refine Lx.st (stO U28 sz28 rfl rfl rfl (by show 0 < 1; omega) rfl) ?_
      refine Lx.nil ?_
      refine Xx.tn (k15 _ _ _ _ ?_)
      refine Cx.ret <| Xx.tr <| ?_
      refine Xx.dropB b5 (Xx.dropB b2 ?_)
      exact Xx.rMc (Ds := []) (G := row b4 28 [i64 0]) (resC1 rfl U28 rfl rfl) ⟨rfl, rfl⟩ (Fz hB7 hB8) (by rw [marks_nil, one_star]; ac_rfl)
     ·
      have g2 := h14
      exact absurd (by rw [hzl, hdf]; rfl) g2
    ·
     have g1 := h13
     have g1 : (file : Int) ∈ zs := by simpa using g1
     obtain ⟨hf1, he0, f, hff, hfn, hle⟩ := hcs.resolve_left fun e => by
      have q : d.fs = [] := List.map_eq_nil_iff.1 e.2.2.2
      have q2 := (hzm _).1 g1
      rw [q] at q2; cases q2
     refine Lx.gF rfl rfl rfl rfl <| Lx.gF rfl rfl rfl rfl <| Lx.gF rfl rfl rfl rfl <| Lx.y (pickF rfl rfl) rfl <| Lx.nil <| ?_
     refine Xx.tn (k12 _ _ _ _ ?_)
     refine Cx.condF rfl <| Cx.skip <| ?_
     refine Xx.tn (k11 _ _ _ _ ?_)
     refine Cq (fun K16 k16 => ?_)
     refine Cq (fun K17 k17 => ?_)
     refine Cr <| Lx.y (mv rfl) rfl <| ?_
     refine Lx.c rfl rfl rfl (BackI_ct A7 zs.length c7 _) ((one_star _).symm) rfl ?_
     rintro v4 B4 H4 ⟨hBB, b1, rfl, rfl⟩ hB4
     have hBB2 := hBB.symm
     subst hBB2
     clear hB4
     refine Lx.nil ?_
     refine Xx.tn (k17 _ _ _ _ ?_)
     refine Cx.block ?_
     refine Cx.rangeK (σ := _) (Sc 2 rfl (Sc 4 rfl (Sc 5 rfl (Sub.nil _)))) rfl rfl (BackI_it zs A7 c7 b1 B8 hRz (by omega)) (show _ = row b1 26 [.slice A7 zs.length c7] * (row b5 3 [i64 (file : Int)] * (row b4 28 [i64 0] * (row b2 91 [.pointer (some ⟨jb, 0, none⟩)] * (row jb 143 [.pointer (some ⟨j.db, 0, none⟩), i64 j.most, i64 (j.last : Int), i64 (j.long : Int), .slice j.Al j.l.length j.cl] * (sbuf 149 4 j.Al j.l.length j.cl (j.l.flatMap rcc) * (dkH j.db d * R)))))) by ac_rfl) rfl (fun _ => rfl) (fun pre B' H' => B' = B8 ∧ H' = row b5 3 [i64 (file : Int)]) (fun _ _ _ _ => False) (fun pre x B1 ρ' B' H' => ρ' = [(10, i64 x.2)] ∧ B1 = B8 ∧ B' = B8 ∧ x.2 ≤ (j.last : Int) ∧ H' = row b5 3 [i64 (file : Int)]) (⟨rfl, rfl⟩) ?_ ?_ ?_ ?_
     ·rintro lz Nz wz pre x post B1 H1 F K hxs hB1 hJ hK
      obtain ⟨hJ1, rfl⟩ := hJ
      have hxl : x.2 ≤ (j.last : Int) := bkwI_all zs _ (fun y hy => by
       have q := (hzm _).1 hy
       obtain ⟨z, hz, rfl⟩ := List.mem_map.1 q
       exact hle _ (List.mem_map.2 ⟨z, hz, rfl⟩)) (Nat.le_refl _) x (by rw [hxs]; simp)
      refine Cr <| Lx.y (asg rfl) rfl <| Lx.nil <| ?_
      refine Xx.tn ?_
      exact Xx.sub (hK _ _ _ ⟨rfl, hJ1, hJ1, hxl, rfl⟩ (Fl _)) (Sc 10 rfl (Sc 2 rfl (Sc 4 rfl (Sc 5 rfl (Sub.nil _)))))
     ·rintro lz Nz wz pre x post B1 F ρ' B' H' hxs hB1 hBx hAS
      obtain ⟨rfl, hb1, hBB, hxl, rfl⟩ := hAS
      subst hBB
      refine Cx.block ?_
      refine Cq (fun K18 k18 => ?_)
      refine Cr <| Lx.y (mv rfl) rfl <| Lx.y (ld U3 rfl rfl rfl) rfl <| Lx.y (gtr rfl rfl) rfl <| Lx.nil <| ?_
      refine Xx.tn (k18 _ _ _ _ ?_)
      refine Cx.condD rfl (fun h19 => ?_) (fun h19 => ?_)
      ·
       exact absurd h19 (by rw [hf1]; omega)
      ·
       have g9 := h19
       refine Cx.skip <| Xx.bn <| ?_
       exact Xx.rqn ⟨rfl, rfl⟩ (by rw [hb1]; exact Fl _) rfl
     ·rintro D B' H' hBx hJ
      obtain ⟨hBB, rfl⟩ := hJ
      subst hBB
      refine Xx.bn ?_
      refine Xx.tn (k16 _ _ _ _ ?_)
      refine Cq (fun K20 k20 => ?_)
      refine Cq (fun K21 k21 => ?_)
      have herr : errM d.abs (file : Int) = 0 := by unfold DkI.errM; rw [if_neg (by show ¬ d.dead = true; rw [hd]; decide), hf1, hff]
      have hnow : (fileM (file : Int) d.abs.fs).now = f.now := by unfold DkH.fileM; rw [hf1, hff]; rfl
      refine Cx.drawn (by kernel_rfl) ?_
      refine Dx.r (i := 0) rfl (by kernel_rfl) (ld U91 rfl rfl rfl) rfl ?_
      refine Dx.p (i := 1) rfl (by kernel_rfl) (nilc rfl) rfl ?_
      refine Dx.p (i := 2) rfl (by kernel_rfl) (fa' fo143_0 rfl) rfl ?_
      refine Dx.r (i := 3) rfl (by kernel_rfl) (ld U27 rfl rfl rfl) rfl ?_
      refine Dx.r (i := 4) rfl (by kernel_rfl) (ld U3 rfl rfl rfl) rfl ?_
      refine Dx.one (i := 5) (by kernel_rfl) ?_
      refine Dstep.o (i := 5) rfl (Ox.co rfl rfl rfl (CtC.of (DkI.Read_ct d j.db (file : Int) _ hF) (show _ = Value.tuple #[str f.now, i64 0] from by rw [herr, if_pos rfl, hnow]) rfl) (Pick.eq)) rfl (fun v B' H' hΦ hB => ?_)
      obtain ⟨rfl, Y, rfl⟩ := hΦ; have E := Y.symm; subst E; clear hB
      refine ⟨Je (Je (Jy (Jt) (ld U91 rfl rfl rfl)) (by kernel_rfl)) (by kernel_rfl), ?_⟩
      refine Dx.p (i := 6) rfl (by kernel_rfl) (mv rfl) rfl ?_
      refine Dx.p (i := 7) rfl (by kernel_rfl) (ext rfl rfl) rfl ?_
      refine Dx.p (i := 8) rfl (by kernel_rfl) (ext rfl rfl) rfl ?_
      refine Dx.p (i := 9) rfl (by kernel_rfl) (asg rfl) rfl ?_
      refine Dx.p (i := 10) rfl (by kernel_rfl) (asg rfl) rfl ?_
      refine Dx.done (by kernel_rfl) ?_
      refine Xx.tn (k21 _ _ _ _ ?_)
      refine Cq (fun K22 k22 => ?_)
      refine Cr <| Lx.y (mv rfl) rfl <| Lx.y (Yx.tt (eqI rfl rfl) rfl) rfl <| Lx.y (mv rfl) rfl <| Lx.gT rfl rfl rfl <| Lx.y (mv rfl) rfl <| Lx.gT rfl rfl rfl <| Lx.y (lenS U9 rfl) rfl <| Lx.gT rfl rfl rfl <| Lx.y (mv rfl) rfl <| Lx.gT rfl rfl rfl <| Lx.y (gtr rfl rfl) rfl <| ?_
      refine Lx.y (pickT rfl rfl) rfl <| Lx.nil <| ?_
      refine Xx.tn (k22 _ _ _ _ ?_)
      refine Cx.condD rfl (fun h23 => ?_) (fun h23 => ?_)
      ·
       exact absurd h23 (by omega)
      ·
       have g3 := h23
       refine Cx.skip ?_
       refine Xx.tn (k20 _ _ _ _ ?_)
       refine Cq (fun K24 k24 => ?_)
       refine Cq (fun K25 k25 => ?_)
       refine Cr <| Lx.y (ld U91 rfl rfl rfl) rfl <| Lx.y (nilc rfl) rfl <| Lx.y (fa' fo143_0 rfl) rfl <| Lx.y (ld U27 rfl rfl rfl) rfl <| ?_
       refine Lx.co rfl rfl rfl (CtC.of (DkB.Dead_ct d j.db _) (show Value.bool d.dead = .bool false from by rw [hd]) rfl) (Pick.eq) rfl ?_
       refine Lx.nil ?_
       refine Xx.tn (k25 _ _ _ _ ?_)
       refine Cx.condF rfl <| Cx.skip <| ?_
       refine Xx.tn (k24 _ _ _ _ ?_)
       refine Cq (fun K26 k26 => ?_)
       refine DkL.Xx.leT j.Al (fun hnc9 => ?_)
       refine Cx.drawn (by kernel_rfl) ?_
       refine Dx.r (i := 0) rfl (by kernel_rfl) (ld U91 rfl rfl rfl) rfl ?_
       refine Dx.r (i := 1) rfl (by kernel_rfl) (ld U91 rfl rfl rfl) rfl ?_
       refine Dx.r (i := 2) rfl (by kernel_rfl) (ld U91 rfl rfl rfl) rfl ?_
       refine Dx.r (i := 3) rfl (by kernel_rfl) (ld U91 rfl rfl rfl) rfl ?_
       refine Dx.p (i := 4) rfl (by kernel_rfl) (nilc rfl) rfl ?_
       refine Dx.p (i := 5) rfl (by kernel_rfl) (fa' fo143_4 rfl) rfl ?_
       refine Dx.r (i := 6) rfl (by kernel_rfl) (ld U141 rfl rfl rfl) rfl ?_
       refine Dx.p (i := 7) rfl (by kernel_rfl) (mv rfl) rfl ?_
       refine Dx.p (i := 8) rfl (by kernel_rfl) (sl2V U141 sz149 rfl rfl (Int.toNat_natCast _) (by omega) (by omega)) rfl ?_
       refine Dx.r (i := 9) rfl (by kernel_rfl) (ld U3 rfl rfl rfl) rfl ?_
       refine Dx.p (i := 10) rfl (by kernel_rfl) (mv rfl) rfl ?_
       refine Dx.p (i := 11) rfl (by kernel_rfl) (nilc rfl) rfl ?_
       refine Dx.p (i := 12) rfl (by kernel_rfl) (fa' fo143_4 rfl) rfl ?_
       refine Dx.one (i := 13) (by kernel_rfl) ?_
       refine Dstep.o0 (i := 13) rfl (stO U141 sz141 rfl rfl rfl (by show 4 < 5; omega) rfl) (fun v B' H' hΦ hB => ?_)
       obtain ⟨Y, rfl⟩ := hΦ; have E := Y.symm; subst E; clear hB v
       refine ⟨Jy (Je (Je (Jy (Jy (Je (Jt) (by kernel_rfl)) (ld U91 rfl rfl rfl)) (ld U91 rfl rfl rfl)) (by kernel_rfl)) (by kernel_rfl)) (ld U3 rfl rfl rfl), ?_⟩
       refine Dx.p (i := 14) rfl (by kernel_rfl) (nilc rfl) rfl ?_
       refine Dx.p (i := 15) rfl (by kernel_rfl) (fa' fo143_2 rfl) rfl ?_
       refine Dx.one (i := 16) (by kernel_rfl) ?_
       refine Dstep.o0 (i := 16) rfl (stO U3 sz3 rfl rfl rfl (by show 2 < 5; omega) rfl) (fun v B' H' hΦ hB => ?_)
       obtain ⟨Y, rfl⟩ := hΦ; have E := Y.symm; subst E; clear hB v
       refine ⟨Je (Je (Je (Jy (Je (Je (Jt) (by kernel_rfl)) (by kernel_rfl)) (ld U91 rfl rfl rfl)) (by kernel_rfl)) (by kernel_rfl)) (by kernel_rfl), ?_⟩
       refine Dx.p (i := 17) rfl (by kernel_rfl) (nilc rfl) rfl ?_
       refine Dx.p (i := 18) rfl (by kernel_rfl) (fa' fo143_3 rfl) rfl ?_
       refine Dx.one (i := 19) (by kernel_rfl) ?_
       refine Dstep.o0 (i := 19) rfl (stO U3 sz3 rfl rfl rfl (by show 3 < 5; omega) rfl) (fun v B' H' hΦ hB => ?_)
       obtain ⟨Y, rfl⟩ := hΦ; have E := Y.symm; subst E; clear hB v
       refine ⟨Je (Je (Je (Je (Je (Je (Jt) (by kernel_rfl)) (by kernel_rfl)) (by kernel_rfl)) (by kernel_rfl)) (by kernel_rfl)) (by kernel_rfl), ?_⟩
       refine Dx.done (by kernel_rfl) ?_
       refine Xx.tn (k26 _ _ _ _ ?_)
       refine Cq (fun K27 k27 => ?_)
       refine Cr ?_
       refine Lx.st (stO U28 sz28 rfl rfl rfl (by show 0 < 1; omega) rfl) ?_
       refine Lx.nil ?_
       refine Xx.tn (k27 _ _ _ _ ?_)
       refine Cx.ret ?_
       refine Xx.dropB b5 (Xx.dropB b1 (Xx.dropB b2 ?_))
       exact Xx.rMc (Ds := [D]) (G := row b4 28 [i64 0]) (resC1 rfl U28 rfl rfl) ⟨rfl, rfl⟩ (Fz hB7 hB8) (by rw [marks_cons, marks_nil, star_one, hf1, he0]; ac_rfl)
     ·rintro D c pre post B' H' hxs hBx hJx
      exact hJx.elim
end ViE
end Go.Proofs.YthlfffbcligocaaGreat
namespace Go.Proofs.YthlfffbcligocaaGreat
open Go.SL Go.RowKit
set_option maxRecDepth 100000
open VhA VhB VhC VhD VhE VhF VhG VhH VhI VhJ VhK VhL VhM VhN VhO VhP VhQ VhR VhS VhT VhU VhV VhW VhX VhY VhZ ViA ViB ViE
open Jn1 (Rc rcc Jn)
open Jn3 (addD allF recsAt fileOf)
open DkB (Dm Dk dkH findM)
open DkH (fileM)
open Jn4 (Ck Holds Fits recsOf lastLen Still)
namespace ViG
theorem blkR_all3 {b : Bk} (h : b.Ok) (k : Nat) (hk : ∀ r ∈ b.revs, r.body.length ≤ k) : (allF (blkR b)).length ≤ 100 + b.revs.length * (140 + k) := by
  have h1 := headB_len h.1
  have h4 := List.all_eq_true.1 h.2.2.2
  have h2 := flat_len metaF 120 b.revs fun r hr => metaF_len (h4 r hr)
  have hf : (frameB b).length ≤ 76 + b.revs.length * 120 := by unfold frameB; rw [List.length_append]; omega
  have h3 := bodd_len b.revs
  have h5 := Jn5.allF_len ((bodd b.revs).map fun i => 68 :: (b.revs.getD i zRv).body) (k + 1) fun s hs => by
    obtain ⟨i, hi, rfl⟩ := List.mem_map.1 hs
    obtain ⟨r, hr, _⟩ := mem_bodd.1 hi
    have e : b.revs.getD i zRv = r := by rw [List.getD_eq_getElem?_getD, hr]; rfl
    have := hk r (List.mem_of_getElem? hr)
    rw [e, List.length_cons]; omega
  rw [List.length_map] at h5
  have h6 : (bodd b.revs).length * (k + 1 + 12) ≤ b.revs.length * (k + 13) := Nat.mul_le_mul_right _ h3
  have h7 : (allF (blkR b)).length = 12 + (66 :: frameB b).length + (allF ((bodd b.revs).map fun i => 68 :: (b.revs.getD i zRv).body)).length := by
    show ((Fr1.headL (66 :: frameB b) ++ (66 :: frameB b)) ++ allF _).length = _
    rw [List.length_append, List.length_append, Jn3.headL_len']
  rw [h7, List.length_cons]
  have h8 : b.revs.length * (140 + k) = b.revs.length * 120 + b.revs.length * (k + 13) + b.revs.length * 7 := by rw [← Nat.mul_add, ← Nat.mul_add]; congr 1; omega
  omega
structure Sd (K L C : Nat) (D : Dm) (fb : List (List Ck)) (l : List Bk) : Prop where
  calm : DkN.Calm K L C D
  still : Still D
  holds : Holds D.fs fb
  puts : Puts (recsOf 0 fb) l
  chain : Chain l
  only : ∀ k f, findM k D.fs = some f → 1 ≤ k ∧ k ≤ (fb.length : Int)
  last : ∀ cs, fb.getLast? = some cs → cs ≠ []
theorem sd_new (n : Int) (hn : 0 ≤ n ∧ n ≤ 9223372036854775807) : Sd 0 0 0 ⟨[], n, false, [], 0⟩ [] [] :=
  ⟨Jn5.calm_new n hn, fun f hf => (by cases hf), ⟨fun cs h => (by cases h), fun k h => absurd h (Nat.not_lt_zero k), fun k _ => rfl⟩, Puts.nil, Chain.nil, fun k f h => (by cases h), fun cs h => (by cases h)⟩
theorem sd_whole {K L C : Nat} {D : Dm} {fb : List (List Ck)} {l : List Bk} {j : Jn} (hs : Sd K L C D fb l) (hf : Fits D j fb) : Whole j D.fs := by
  have hall : ∀ g ∈ D.fs, 1 ≤ g.n ∧ g.n ≤ (fb.length : Int) := fun g hg => hs.only _ _ (DkN.findM_of_mem hs.calm.nd hg)
  rcases snoc_cases fb with rfl | ⟨fc, cs, rfl⟩
  · refine .inl ⟨hf.l, ?_⟩
    cases h : D.fs with
    | nil => rfl
    | cons g gs =>
      have := hall g (by rw [h]; simp)
      simp at this
      omega
  · have hcs := hs.last cs (by simp)
    rcases snoc_cases cs with rfl | ⟨ds, c, rfl⟩
    · exact absurd rfl hcs
    · obtain ⟨f, hf1, hf2⟩ := hs.holds.at_ fc.length (by simp)
      have hf2 : f.now = FrA.cat (ds ++ [c]) := by rw [hf2]; simp
      have hc := (hs.holds.ok (ds ++ [c]) (by simp) c (by simp)).1
      have hla : j.last = fc.length + 1 := by rw [hf.last]; simp
      have hlo : j.long = (FrA.cat (ds ++ [c])).length := by rw [hf.long]; unfold Jn4.lastLen; simp
      refine .inr ⟨recsOf 0 fc ++ Jn2.recF (fc.length + 1) (FrA.fms ds 0), ⟨fc.length + 1, (FrA.cat ds).length + 12, c.bd, c.gd⟩, f, ?_, hla.symm, ?_, ?_, ?_, ?_⟩
      · rw [hf.l, Jn4.recsOf_snoc, Jn4.fms_app, Jn4.recF_app, Nat.zero_add, Nat.zero_add, List.append_assoc]
        rfl
      · rw [hlo, FrA.cat_app, List.length_append]
        show (FrA.cat ds).length + 12 + c.bd.length = (FrA.cat ds).length + (c.tx ++ FrA.cat []).length
        rw [FrA.cat_nil, List.append_nil, hc]; omega
      · rw [hla]; exact hf1
      · rw [hf2, hlo]
      · intro g hg
        have := (hall g hg).2
        rw [hla]
        simpa using this
theorem sd_put {K L C : Nat} {D : Dm} {fb : List (List Ck)} {l : List Bk} {j : Jn} {b : Bk} (hs : Sd K L C D fb l) (hf : Fits D j fb) (hfo : followsF b (BitVec.ofInt 64 (l.length : Nat)) (prevF l) = 0) (hfr : Fresh b)
    (ha : (addD D (fileOf j) (allF (blkR b))).2 = 0) (Al : Option Addr) (cl : Nat) :
    ∃ fb', Sd (K + 2) (L + (allF (blkR b)).length) (C + 2) (addD D (fileOf j) (allF (blkR b))).1 fb' (l ++ [b]) ∧
      Fits (addD D (fileOf j) (allF (blkR b))).1 { j with last := fileOf j, long := (fileM ((fileOf j : Nat) : Int) D.fs).now.length + (allF (blkR b)).length, l := j.l ++ recsAt (fileOf j) (fileM ((fileOf j : Nat) : Int) D.fs).now.length (blkR b), Al := Al, cl := cl } fb' := by
  have ho := (follows_ok hfo (prevF_len _)).1
  obtain ⟨hs1, hs2⟩ := blkR_small ho
  obtain ⟨hfind, hcalm, hstill⟩ := Jn4.addD_done hs.calm ha
  obtain ⟨fb', hfit⟩ := Jn4.add_fits hs.calm hf (fun s h => Nat.le_trans (hs1 s h) (by decide)) ha Al cl
  have hlen : fb'.length = fileOf j := hfit.last.symm
  have hfo1 : fb.length ≤ fileOf j ∧ 1 ≤ fileOf j := by
    rw [← hf.last]
    unfold fileOf
    split <;> omega
  refine ⟨fb', ⟨hcalm, hstill hs.still, hfit.holds, ?_, hs.chain.snoc hfo hfr, fun k f h => ?_, fun cs h e => ?_⟩, hfit⟩
  · rw [← hfit.l]
    have := hs.puts
    rw [← hf.l] at this
    exact Puts.snoc this b _ _
  · rw [hfind] at h
    rw [hlen]
    split at h
    · rename_i e; omega
    · have := hs.only k f h; omega
  · have h1 := hfit.long
    subst e
    have h2 : (fileM ((fileOf j : Nat) : Int) D.fs).now.length + (allF (blkR b)).length = 0 := by
      have h3 : lastLen fb' 0 = 0 := by unfold Jn4.lastLen; rw [h]; rfl
      rw [← h3]; exact h1
    have h3 : (allF (blkR b)).length = 12 + (66 :: frameB b).length + (allF ((bodd b.revs).map fun i => 68 :: (b.revs.getD i zRv).body)).length := by
      show ((Fr1.headL (66 :: frameB b) ++ (66 :: frameB b)) ++ allF _).length = _
      rw [List.length_append, List.length_append, Jn3.headL_len']
    omega
theorem sd_bodies {K L C : Nat} {D : Dm} {fb : List (List Ck)} {l : List Bk} (hs : Sd K L C D fb l) : ∀ r ∈ recsOf 0 fb, r.body.length ≤ 7800 := by
  intro r hr
  obtain ⟨i, hi, rfl⟩ := List.getElem_of_mem hr
  have hl := hs.puts.len
  obtain ⟨x, g1, g2, _⟩ := hs.puts.at (i := i) (by omega)
  rw [List.getElem?_eq_getElem hi] at g1
  injection g1 with g1
  obtain ⟨b, hb, hm⟩ := List.mem_flatMap.1 (List.getElem_mem (show i < (l.flatMap blkR).length by omega))
  obtain ⟨l1, l2, e⟩ := List.append_of_mem hb
  have ho := (follows_ok (hs.chain l1 b l2 e).1 (prevF_len _)).1
  rw [g1, g2]
  exact (blkR_small ho).1 _ hm
theorem sd_count {K L C : Nat} {D : Dm} {fb : List (List Ck)} {l : List Bk} (hs : Sd K L C D fb l) : (recsOf 0 fb).length ≤ l.length * 65 := by
  rw [hs.puts.len]
  have : ∀ m : List Bk, (∀ b ∈ m, b.Ok) → (m.flatMap blkR).length ≤ m.length * 65 := by
    intro m
    induction m with
    | nil => intro _; exact Nat.zero_le _
    | cons b m ih =>
      intro h
      have h1 := ih fun c hc => h c (by simp [hc])
      have h2 := (blkR_small (h b (by simp))).2
      rw [List.flatMap_cons, List.length_append, List.length_cons, Nat.succ_mul]; omega
  refine this l fun b hb => ?_
  obtain ⟨l1, l2, e⟩ := List.append_of_mem hb
  exact (follows_ok (hs.chain l1 b l2 e).1 (prevF_len _)).1
theorem sd_len {K L C : Nat} {D : Dm} {fb : List (List Ck)} {l : List Bk} (hs : Sd K L C D fb l) : fb.length ≤ K := Nat.le_trans hs.holds.le hs.calm.len
end ViG
end Go.Proofs.YthlfffbcligocaaGreat
namespace Go.Proofs.YthlfffbcligocaaGreat
open Go.SL Go.RowKit
set_option maxRecDepth 100000
open VhA VhB VhC VhD VhE VhF VhG VhH VhI VhJ VhK VhL VhM VhN VhO VhP VhQ VhR VhS VhT VhU VhV VhW VhX VhY VhZ ViA ViB
open Jn1 (Rc rcc Jn jnH atV)
open DkB (Dk dkH)
namespace ViC
theorem sz3 : (Tryz.prog.info? 3).map (·.size) = some 1 := by kernel_rfl
theorem sz4 : (Tryz.prog.info? 4).map (·.size) = some 1 := by kernel_rfl
theorem sz9 : (Tryz.prog.info? 9).map (·.size) = some 1 := by kernel_rfl
theorem sz22 : (Tryz.prog.info? 22).map (·.size) = some 1 := by kernel_rfl
theorem sz23 : (Tryz.prog.info? 23).map (·.size) = some 1 := by kernel_rfl
theorem sz25 : (Tryz.prog.info? 25).map (·.size) = some 4 := by kernel_rfl
theorem sz40 : (Tryz.prog.info? 40).map (·.size) = some 8 := by kernel_rfl
theorem sz51 : (Tryz.prog.info? 51).map (·.size) = some 1 := by kernel_rfl
theorem sz123 : (Tryz.prog.info? 123).map (·.size) = some 2 := by kernel_rfl
theorem sz149 : (Tryz.prog.info? 149).map (·.size) = some 4 := by kernel_rfl
theorem ti25 : TI Tryz.prog 25 [.int .u64 0, str [], .int .u64 0, .slice none 0 0] 4 56 := TI.of (by kernel_rfl) rfl rfl
theorem ti40 : TI Tryz.prog 40 [.int .i64 0, str [], str [], .int .u64 0, .int .u64 0, str [], str [], .bool false] 8 96 := TI.of (by kernel_rfl) rfl rfl
theorem ti94 : TI Tryz.prog 94 [.pointer none, .pointer none, .slice none 0 0, .pointer none, .map none, .int .i64 0, .int .i64 0] 7 72 := TI.of (by kernel_rfl) rfl rfl
theorem ti123 : TI Tryz.prog 123 [.int .u64 0, .int .i64 0] 2 16 := TI.of (by kernel_rfl) rfl rfl
theorem ti149 : TI Tryz.prog 149 [.int .i64 0, .int .i64 0, str [], .bool false] 4 40 := TI.of (by kernel_rfl) rfl rfl
theorem fo94_5 : FO Tryz.prog 94 5 5 1 false := FO.of U94 rfl rfl (by kernel_rfl) U3 rfl rfl
theorem pl94 : PL Tryz.prog 94 [(0, 1), (1, 1), (2, 1), (3, 1), (4, 1), (5, 1), (6, 1)] := PL.of U94 (by kernel_rfl)
theorem gget_set (k q : Plc) (v : Value) : ∀ l : List (Plc × Value), gget q (gset k v l) = if q = k then some v else gget q l := by
  intro l
  induction l with
  | nil => rfl
  | cons t l ih =>
    obtain ⟨p, u⟩ := t
    simp only [gset]
    by_cases h : k = p
    · subst h
      rw [if_pos rfl]
      simp only [gget]
      split <;> rfl
    · rw [if_neg h]
      simp only [gget]
      rw [ih]
      by_cases e : q = p
      · rw [if_pos e, if_neg (fun e2 => h (by rw [← e2, e])), if_pos e]
      · rw [if_neg e, if_neg e]
theorem GoneIs.add {gl : List (Plc × Value)} {gone : List Plc} (h : GoneIs gl gone) (p : Plc) : GoneIs (gset p (.bool true) gl) (gone ++ [p]) := by
  intro q
  rw [gget_set, h q]
  by_cases e : q = p
  · rw [if_pos e, if_pos (by simp [e])]
  · rw [if_neg e]
    by_cases e2 : q ∈ gone
    · rw [if_pos e2, if_pos (by simp [e2])]
    · rw [if_neg e2, if_neg (by simp [e, e2])]
theorem GoneIs.nil : GoneIs [] [] := fun p => by rw [if_neg (by simp)]; rfl
theorem next_k {l : List Bk} {rs : List Rc} {a n : Nat} {gone : List Plc} (ha : a < n) : a + (nextF l rs a n gone).1 ≤ n ∧ ((nextF l rs a n gone).1 = 0 → (nextF l rs a n gone).2 = none) := by
  by_cases h1 : (eraseF (rs.getD a zRc)).2 = true
  · rw [nx1 h1]; exact ⟨ha, fun _ => rfl⟩
  · by_cases h2 : saysF (rs.getD a zRc) = [66]
    · by_cases h3 : (readB ((rs.getD a zRc).body.drop 1)).2 = 0 ∧ a + (bodd (readB ((rs.getD a zRc).body.drop 1)).1.revs).length < n
      · cases hb : bodF rs a gone (bodd (readB ((rs.getD a zRc).body.drop 1)).1.revs) 0 (readB ((rs.getD a zRc).body.drop 1)).1 with
        | none => rw [nx4 h1 h2 h3 hb]; exact ⟨Nat.le_of_lt ha, fun _ => rfl⟩
        | some b =>
          by_cases hf : followsF b (BitVec.ofInt 64 (l.length : Nat)) (prevF l) = 0
          · rw [nx6 h1 h2 h3 hb hf]
            refine ⟨?_, fun e => ?_⟩
            · have := h3.2
              show a + (1 + _) ≤ n
              omega
            · have e : 1 + _ = 0 := e
              omega
          · rw [nx5 h1 h2 h3 hb hf]; exact ⟨Nat.le_of_lt ha, fun _ => rfl⟩
      · rw [nx3 h1 h2 h3]; exact ⟨Nat.le_of_lt ha, fun _ => rfl⟩
    · rw [nx2 h1 h2]; exact ⟨Nat.le_of_lt ha, fun _ => rfl⟩
theorem step_props {rs : List Rc} {n : Nat} {gone : List Plc} {V : Vs} (h : V.ends < n) : V.ends + (stepV rs n gone V).2 ≤ n ∧ (stepV rs n gone V).1.ends = V.ends ∧ (stepV rs n gone V).1.l.length ≤ V.l.length + (stepV rs n gone V).2 := by
  obtain ⟨h1, h2⟩ := next_k (l := V.l) (rs := rs) (gone := gone) h
  cases hn : nextF V.l rs V.ends n gone with
  | mk k ob =>
    rw [hn] at h1 h2
    cases ob with
    | none => rw [step_none hn]; exact ⟨h1, rfl, Nat.le_add_right _ _⟩
    | some b =>
      rw [step_some hn]
      refine ⟨h1, rfl, ?_⟩
      show (V.l ++ [b]).length ≤ V.l.length + k
      rw [List.length_append, List.length_singleton]
      have : k ≠ 0 := fun e => by have := h2 e; cases this
      omega
theorem scan_end {rs : List Rc} {n f : Nat} {gone : List Plc} {V : Vs} (h : ¬ V.ends < n) (hf : n < V.ends + f) : scanF rs n gone f V = V := by
  cases f with
  | zero => rfl
  | succ f => rw [scanF, if_neg h]
theorem scan_stop {rs : List Rc} {n f : Nat} {gone : List Plc} {V : Vs} (h : V.ends < n) (hf : n < V.ends + f) (h0 : (stepV rs n gone V).2 = 0) : scanF rs n gone f V = (stepV rs n gone V).1 := by
  obtain ⟨f, rfl⟩ : ∃ k, f = k + 1 := ⟨f - 1, by omega⟩
  rw [scanF, if_pos h, if_pos h0]
theorem scan_go {rs : List Rc} {n f : Nat} {gone : List Plc} {V : Vs} (h : V.ends < n) (hf : n < V.ends + f) (h0 : ¬ (stepV rs n gone V).2 = 0) : scanF rs n gone f V = scanF rs n gone (f - 1) { (stepV rs n gone V).1 with ends := (stepV rs n gone V).1.ends + (stepV rs n gone V).2 } := by
  obtain ⟨f, rfl⟩ : ∃ k, f = k + 1 := ⟨f - 1, by omega⟩
  rw [scanF, if_pos h, if_neg h0, Nat.add_sub_cancel]
set_option maxHeartbeats 1500000 in
theorem scan_ct (db jb n : Nat) (j : Jn) (B : Frag) (hn : n ≤ j.l.length) (hn2 : n ≤ 900000) (hj : ∀ r ∈ j.l, r.body.length ≤ 1000000) : Ct Tryz.prog 64 [.pointer (some ⟨db, 0, none⟩), .pointer (some ⟨jb, 0, none⟩), i64 (n : Int)] B (jnH jb j) (fun v B' H' => ∃ vb gb x gl, v = .tuple #[.pointer (some ⟨vb, 0, none⟩), .map (some gb)] ∧ x.vs = scanV j.l n ∧ x.db = db ∧ x.jb = jb ∧ VmOk B' x ∧ GoneIs gl (goneF (j.l.take n)) ∧ H' = vH vb x * (jnH jb j * gmap gb gl)) := by
 have hgd : ∀ i, (j.l.getD i zRc).body.length ≤ 1000000 := fun i => by
  rw [List.getD_eq_getElem?_getD]
  cases h : j.l[i]? with
  | none => exact Nat.zero_le _
  | some r => exact hj r (List.mem_of_getElem? h)
 refine Ct.of_body Tryz.func64 rfl (nt := 68) rfl (by kernel_rfl) rfl ?_
 intro N0 w0 R
 refine Cq (fun K1 k1 => ?_)
 refine Cr <| Lx.y (asg rfl) rfl <| Lx.y (asg rfl) rfl <| Lx.nil <| ?_
 refine Xx.tn (k1 _ _ _ _ ?_)
 refine Cq (fun K2 k2 => ?_)
 refine Cr <| Lx.y (mv rfl) rfl <| Lx.y (mv rfl) rfl <| ?_
 refine Lx.c rfl rfl rfl (MNew_ct _) ((one_star _).symm) rfl ?_
 rintro v1 B1 H1 ⟨hBB, tb, rfl, rfl⟩ hB1
 have hBB2 := hBB.symm
 subst hBB2
 clear hB1
 refine Lx.o (mkG Plc) rfl (fun v B' H' hΦ hB => ?_)
 obtain ⟨mb, rfl, hBB, rfl⟩ := hΦ
 have hBB2 := hBB.symm
 subst hBB2
 clear hB
 refine Lx.y (bld ti94 pl94 rfl rfl) rfl ?_
 refine Lx.new (boxA rfl) rfl (fun vb => ?_)
 refine Lx.o (mkG Plc) rfl (fun v B' H' hΦ hB => ?_)
 obtain ⟨gb, rfl, hBB, rfl⟩ := hΦ
 have hBB2 := hBB.symm
 subst hBB2
 clear hB
 refine Lx.y (asg rfl) rfl <| Lx.y (asg rfl) rfl <| Lx.nil <| ?_
 refine Xx.tn (k2 _ _ _ _ ?_)
 refine Cq (fun K3 k3 => ?_)
 refine Cq (fun K4 k4 => ?_)
 refine Cr <| Lx.y (mv rfl) rfl <| Lx.y (mv rfl) rfl <| Lx.nil <| ?_
 refine Xx.tn (k4 _ _ _ _ ?_)
 refine Cx.block ?_
 refine Cx.loopK (Sc 0 rfl (Sc 1 rfl (Sc 2 rfl (Sc 6 rfl (Sc 7 rfl (Sc 8 rfl (Sc 9 rfl (Sc 16 rfl (Sc 17 rfl (Sc 18 rfl (Sc 19 rfl (Sc 20 rfl (Sc 21 rfl (Sc 22 rfl (Sc 23 rfl (Sub.nil _)))))))))))))))) (fun m ρ' B' H' => ∃ (i : Nat) (gl : List (Plc × Value)), (i ≤ n ∧ GoneIs gl (goneF (j.l.take i))) ∧ m = n - i ∧ ρ' = [(24, i64 (i : Int))] ∧ B = B' ∧ gmap gb gl * (row vb 94 [.pointer (some ⟨db, 0, none⟩), .pointer (some ⟨jb, 0, none⟩), .slice none 0 0, .pointer (some ⟨tb, 0, none⟩), .map (some mb), i64 0, i64 0] * (mkH tb ⟨[], [], none, 0, none, 0⟩ * (gmap mb ([] : List (Plc × Value)) * (jnH jb j * R)))) = H') ⟨0, [], ⟨Nat.zero_le _, GoneIs.nil⟩, rfl, rfl, rfl, by ac_rfl⟩ (Sc 24 rfl (Sc 0 rfl (Sc 1 rfl (Sc 2 rfl (Sc 6 rfl (Sc 7 rfl (Sc 8 rfl (Sc 9 rfl (Sc 16 rfl (Sc 17 rfl (Sc 18 rfl (Sc 19 rfl (Sc 20 rfl (Sc 21 rfl (Sc 22 rfl (Sc 23 rfl (Sub.nil _))))))))))))))))) ?_
 rintro m ρ' B' H' ⟨i, gl, ⟨hi, hgo⟩, rfl, rfl, rfl, rfl⟩
 refine Cq (fun K5 k5 => ?_)
 refine Cr <| Lx.y (lss rfl rfl) rfl <| Lx.nil <| ?_
 refine Xx.tn (k5 _ _ _ _ ?_)
 refine Cq (fun K6 k6 => ?_)
 refine Cx.condD rfl (fun h7 => ?_) (fun h7 => ?_)
 ·
  have hlt := h7
  have hlt : i < n := by omega
  have hib := hgd i
  have htk : j.l.take (i + 1) = j.l.take i ++ [(j.l.getD i zRc)] := by
   rw [List.take_succ_eq_append_getElem (by omega), List.getD_eq_getElem?_getD, List.getElem?_eq_getElem (by omega)]; rfl
  refine Cx.skip ?_
  refine Xx.tn (k6 _ _ _ _ ?_)
  refine Cq (fun K8 k8 => ?_)
  refine Cx.block ?_
  refine Cq (fun K9 k9 => ?_)
  refine Cr <| Lx.y (mv rfl) rfl <| Lx.y (asg rfl) rfl <| Lx.nil <| ?_
  refine Xx.tn (k9 _ _ _ _ ?_)
  refine Cq (fun K10 k10 => ?_)
  refine Cr <| Lx.y (mv rfl) rfl <| Lx.y (mv rfl) rfl <| ?_
  refine Lx.co rfl rfl rfl (Jn1.JAt_ct jb j (i : Int) _) (Pick.eq) rfl ?_
  rw [atV_get]
  refine Lx.y (mv rfl) rfl <| Lx.y (ext rfl rfl) rfl <| Lx.y (ext rfl rfl) rfl <| ?_
  refine Lx.new (allocO ti149) rfl (fun b11 => ?_)
  refine Lx.st (stA (d := .bool) sz149 rfl rfl rfl rfl (by show 0 + 4 ≤ 4; omega) rfl) ?_
  refine Lx.y (asg rfl) rfl <| Lx.nil <| ?_
  refine Xx.tn (k10 _ _ _ _ ?_)
  refine Cq (fun K11 k11 => ?_)
  refine Cr <| Lx.y (ldA U149 rfl sz149 rfl (Co (n := 4) Pe rfl) rfl) rfl <| ?_
  refine Lx.cp rfl rfl rfl (erase_ct (j.l.getD i zRc) _ hib) rfl ?_
  refine Lx.y (mv rfl) rfl <| Lx.y (ext rfl rfl) rfl <| Lx.y (ext rfl rfl) rfl <| ?_
  refine Lx.new (allocO ti123) rfl (fun b13 => ?_)
  refine Lx.st (stA (d := .bool) sz123 rfl rfl rfl rfl (by show 0 + 2 ≤ 2; omega) rfl) ?_
  refine Lx.y (asg rfl) rfl <| Lx.nil <| ?_
  refine Xx.tn (k11 _ _ _ _ ?_)
  refine Cq (fun K12 k12 => ?_)
  refine Cr <| Lx.y (mv rfl) rfl <| Lx.nil <| ?_
  refine Xx.tn (k12 _ _ _ _ ?_)
  refine Cx.condB rfl (fun h13 => ?_) (fun h13 => ?_)
  ·
   have g1 : (eraseF (j.l.getD i zRc)).2 = true := h13
   refine Cr <| Lx.y (mv rfl) rfl <| Lx.y (ldA U123 rfl sz123 rfl (Co (n := 2) Pe rfl) rfl) rfl <| ?_
   refine Lx.o0 (stG (κ := Plc) (k := (eraseF (j.l.getD i zRc)).1) (v := .bool true) U117 plc_key rfl rfl rfl) (fun v B' H' hΦ hB => ?_)
   obtain ⟨hBB, rfl⟩ := hΦ
   have hBB2 := hBB.symm
   subst hBB2
   clear hB
   refine Lx.nil <| Xx.bn <| ?_
   refine Xx.tn (k8 _ _ _ _ ?_)
   refine Cr <| Lx.y (Yx.val (add rfl rfl (by first | exact wrap64 (by omega) (by omega) | rfl)) (show _ = i64 ((i + 1 : Nat) : Int) from rfl)) rfl <| Lx.y (mv rfl) rfl <| Lx.nil <| ?_
   refine Xx.dropB b13 (Xx.dropB b11 ?_)
   exact Xx.againK ⟨i + 1, gset (eraseF (j.l.getD i zRc)).1 (.bool true) gl, ⟨hlt, by rw [htk, goneF_snoc, if_pos g1]; exact GoneIs.add hgo _⟩, rfl, rfl, rfl, (by ac_rfl)⟩ (by omega) (Sc 24 rfl (Sc 0 rfl (Sc 1 rfl (Sc 2 rfl (Sc 6 rfl (Sc 7 rfl (Sc 8 rfl (Sc 9 rfl (Sc 16 rfl (Sc 17 rfl (Sc 18 rfl (Sc 19 rfl (Sc 20 rfl (Sc 21 rfl (Sc 22 rfl (Sc 23 rfl (Sub.nil _)))))))))))))))))
  ·
   have g1 := h13
   have g1 : ¬ (eraseF (j.l.getD i zRc)).2 = true := by rw [g1]; decide
   refine Cx.skip <| Xx.bn <| ?_
   refine Xx.tn (k8 _ _ _ _ ?_)
   refine Cr <| Lx.y (Yx.val (add rfl rfl (by first | exact wrap64 (by omega) (by omega) | rfl)) (show _ = i64 ((i + 1 : Nat) : Int) from rfl)) rfl <| Lx.y (mv rfl) rfl <| Lx.nil <| ?_
   refine Xx.dropB b13 (Xx.dropB b11 ?_)
   exact Xx.againK ⟨i + 1, gl, ⟨hlt, by rw [htk, goneF_snoc, if_neg g1]; exact hgo⟩, rfl, rfl, rfl, (by ac_rfl)⟩ (by omega) (Sc 24 rfl (Sc 0 rfl (Sc 1 rfl (Sc 2 rfl (Sc 6 rfl (Sc 7 rfl (Sc 8 rfl (Sc 9 rfl (Sc 16 rfl (Sc 17 rfl (Sc 18 rfl (Sc 19 rfl (Sc 20 rfl (Sc 21 rfl (Sc 22 rfl (Sc 23 rfl (Sub.nil _)))))))))))))))))
 ·
  have hge := h7
  obtain rfl : n = i := by omega
  refine Cx.exit <| Xx.te <| Xx.te <| Xx.bh <| ?_
  refine Xx.tn (k3 _ _ _ _ ?_)
  refine Cx.cutK (ds' := []) (Sc 0 rfl (Sc 1 rfl (Sc 2 rfl (Sc 6 rfl (Sc 7 rfl (Sc 8 rfl (Sc 9 rfl (Sc 16 rfl (Sc 17 rfl (Sc 18 rfl (Sc 19 rfl (Sc 20 rfl (Sc 21 rfl (Sc 22 rfl (Sc 23 rfl (Sc 24 rfl (Sc 25 rfl (Sub.nil _)))))))))))))))))) (fun ρ' B' H' => ∃ x : Vm, ρ' = [] ∧ vH vb x * (jnH jb j * (gmap gb gl * R)) = H' ∧ x.vs = scanV j.l n ∧ x.db = db ∧ x.jb = jb ∧ VmOk B' x ∧ B.le B') ?_ ?_
  ·
   refine Cx.block ?_
   refine Cx.loopK (Sc 0 rfl (Sc 1 rfl (Sc 2 rfl (Sc 6 rfl (Sc 7 rfl (Sc 8 rfl (Sc 9 rfl (Sc 16 rfl (Sc 17 rfl (Sc 18 rfl (Sc 19 rfl (Sc 20 rfl (Sc 21 rfl (Sc 22 rfl (Sc 23 rfl (Sc 24 rfl (Sc 25 rfl (Sub.nil _)))))))))))))))))) (fun m ρ' B' H' => ∃ (f : Nat) (x : Vm) (B9 : Frag), (scanV j.l n = scanF j.l n (goneF (j.l.take n)) f x.vs ∧ n < x.ends + f ∧ x.ends ≤ n ∧ x.ms.length ≤ x.ends ∧ x.db = db ∧ x.jb = jb ∧ VmOk B9 x ∧ B.le B9) ∧ m = f * 1 ∧ ρ' = [] ∧ B9 = B' ∧ vH vb x * (jnH jb j * (gmap gb gl * R)) = H') ⟨n + 1, ⟨[], 0, [], db, jb, tb, mb, none, 0, none, 0, none, 0⟩, _, ⟨rfl, Nat.lt_of_lt_of_le (Nat.lt_succ_self n) (Nat.le_add_left _ _), Nat.zero_le _, Nat.le_refl _, rfl, rfl, ⟨fun b hb => (by cases hb), Nat.zero_le _⟩, Fl _⟩, rfl, rfl, rfl, by unfold vH vcs mkO lvs; show row vb _ _ * (sbuf _ 4 none 0 0 [] * (mkH tb ⟨[], [], none, 0, none, 0⟩ * gmap mb [])) * _ = _; rw [sbuf_nil, one_star]; show row vb 94 [.pointer (some ⟨db, 0, none⟩), .pointer (some ⟨jb, 0, none⟩), .slice none 0 0, .pointer (some ⟨tb, 0, none⟩), .map (some mb), i64 0, i64 0] * (mkH tb ⟨[], [], none, 0, none, 0⟩ * gmap mb ([] : List (Plc × Value))) * _ = _; ac_rfl⟩ (Sc 0 rfl (Sc 1 rfl (Sc 2 rfl (Sc 6 rfl (Sc 7 rfl (Sc 8 rfl (Sc 9 rfl (Sc 16 rfl (Sc 17 rfl (Sc 18 rfl (Sc 19 rfl (Sc 20 rfl (Sc 21 rfl (Sc 22 rfl (Sc 23 rfl (Sc 24 rfl (Sc 25 rfl (Sub.nil _)))))))))))))))))) ?_
   rintro m ρ' B' H' ⟨f, x, B9, ⟨hsc, hf, hxn, hxl, hdb, hjb, hk, hB9⟩, rfl, rfl, rfl, rfl⟩
   refine Cq (fun K14 k14 => ?_)
   refine Cq (fun K15 k15 => ?_)
   refine Cr <| Lx.y (mv rfl) rfl <| Lx.y (nilc rfl) rfl <| Lx.y (fa' fo94_5 rfl) rfl <| Lx.y (ld U3 rfl rfl rfl) rfl <| Lx.y (mv rfl) rfl <| Lx.y (lss rfl rfl) rfl <| Lx.nil <| ?_
   refine Xx.tn (k15 _ _ _ _ ?_)
   refine Cx.condD rfl (fun h16 => ?_) (fun h16 => ?_)
   ·
    have hlt := h16
    have hlt : x.vs.ends < n := by show x.ends < n; omega
    obtain ⟨s1, s2, s3⟩ := step_props (rs := j.l) (gone := (goneF (j.l.take n))) hlt
    have s1 : x.ends + (stepV j.l n (goneF (j.l.take n)) x.vs).2 ≤ n := s1
    have s2 : (stepV j.l n (goneF (j.l.take n)) x.vs).1.ends = x.ends := s2
    refine Cx.skip ?_
    refine Xx.tn (k14 _ _ _ _ ?_)
    refine Cx.block ?_
    refine Cq (fun K17 k17 => ?_)
    refine Cr <| Lx.y (mv rfl) rfl <| Lx.y (mv rfl) rfl <| Lx.y (nilc rfl) rfl <| Lx.y (fa' fo94_5 rfl) rfl <| Lx.y (ld U3 rfl rfl rfl) rfl <| Lx.y (mv rfl) rfl <| Lx.y (mv rfl) rfl <| ?_
    refine Lx.c rfl rfl rfl (next_ct vb gb n x j gl (goneF (j.l.take n)) _ hk (by omega) hgo hj (by omega) hxn) (show _ = (vH vb x * (jnH x.jb j * gmap gb gl)) * R by rw [hjb]; ac_rfl) rfl ?_
    rintro v11 B11 H11 ⟨x', rfl, hv, hdb', hjb', hk', rfl⟩ hB11
    have hv1 : x'.ends = x.ends := (congrArg Vs.ends hv).trans s2
    have hv2 : x'.ms.length = (stepV j.l n (goneF (j.l.take n)) x.vs).1.l.length := by rw [← hv]; exact (List.length_map ..).symm
    have hv3 : x.vs.l.length = x.ms.length := List.length_map ..
    rw [hv3] at s3
    refine Lx.y (asg rfl) rfl <| Lx.nil <| ?_
    refine Xx.tn (k17 _ _ _ _ ?_)
    refine Cq (fun K18 k18 => ?_)
    refine Cq (fun K19 k19 => ?_)
    refine Cr <| Lx.y (mv rfl) rfl <| Lx.y (eqI rfl rfl) rfl <| Lx.nil <| ?_
    refine Xx.tn (k19 _ _ _ _ ?_)
    refine Cx.condD rfl (fun h20 => ?_) (fun h20 => ?_)
    ·
     have g2 := h20
     have g2 : (stepV j.l n (goneF (j.l.take n)) x.vs).2 = 0 := by omega
     have hfi := hsc.trans (scan_stop hlt (show n < x.vs.ends + f from hf) g2)
     refine Cx.exit <| Xx.te <| ?_
     refine Xx.bm rfl ?_
     refine Xx.te <| Xx.bh <| ?_
     exact Xx.mkK (⟨x', rfl, by rw [hjb]; ac_rfl, hv.trans hfi.symm, hdb'.trans hdb, hjb'.trans hjb, hk', Fz hB9 hB11⟩) (Sc 0 rfl (Sc 1 rfl (Sc 2 rfl (Sc 6 rfl (Sc 7 rfl (Sc 8 rfl (Sc 9 rfl (Sc 16 rfl (Sc 17 rfl (Sc 18 rfl (Sc 19 rfl (Sc 20 rfl (Sc 21 rfl (Sc 22 rfl (Sc 23 rfl (Sc 24 rfl (Sc 25 rfl (Sub.nil _))))))))))))))))))
    ·
     have g2 := h20
     have g2 : ¬ (stepV j.l n (goneF (j.l.take n)) x.vs).2 = 0 := by omega
     refine Cx.skip ?_
     refine Xx.tn (k18 _ _ _ _ ?_)
     unfold vH
     simp only [star_assoc]
     refine Cr <| Lx.y (mv rfl) rfl <| Lx.y (nilc rfl) rfl <| Lx.y (fa' fo94_5 rfl) rfl <| Lx.y (ld U3 rfl rfl rfl) rfl <| Lx.y (mv rfl) rfl <| Lx.y (Yx.val (add rfl rfl (by first | exact wrap64 (by omega) (by omega) | rfl)) (show _ = i64 ((x'.ends + (stepV j.l n (goneF (j.l.take n)) x.vs).2 : Nat) : Int) from rfl)) rfl <| Lx.y (nilc rfl) rfl <| Lx.y (fa' fo94_5 rfl) rfl <| ?_
     refine Lx.st (stO U3 sz3 rfl rfl rfl (by show 5 < 7; omega) rfl) ?_
     refine Lx.nil <| Xx.bn <| ?_
     exact Xx.againK ⟨f - 1, { x' with ends := x'.ends + (stepV j.l n (goneF (j.l.take n)) x.vs).2 }, _, ⟨by rw [hsc, scan_go hlt hf g2]; unfold Vm.vs at hv ⊢; rw [← hv], by show n < x'.ends + (stepV j.l n (goneF (j.l.take n)) x.vs).2 + (f - 1); omega, by show x'.ends + (stepV j.l n (goneF (j.l.take n)) x.vs).2 ≤ n; omega, by show x'.ms.length ≤ x'.ends + (stepV j.l n (goneF (j.l.take n)) x.vs).2; omega, hdb'.trans hdb, hjb'.trans hjb, hk', Fz hB9 hB11⟩, rfl, rfl, rfl, (by unfold vcs mkO lvs; simp only []; rw [hjb])⟩ (by omega) (Sc 0 rfl (Sc 1 rfl (Sc 2 rfl (Sc 6 rfl (Sc 7 rfl (Sc 8 rfl (Sc 9 rfl (Sc 16 rfl (Sc 17 rfl (Sc 18 rfl (Sc 19 rfl (Sc 20 rfl (Sc 21 rfl (Sc 22 rfl (Sc 23 rfl (Sc 24 rfl (Sc 25 rfl (Sub.nil _))))))))))))))))))
   ·
    have hlt := h16
    have hlt : ¬ x.vs.ends < n := by show ¬ x.ends < n; omega
    have hfi := hsc.trans (scan_end hlt (show n < x.vs.ends + f from hf))
    refine Cx.exit <| Xx.te <| Xx.te <| Xx.bh <| ?_
    exact Xx.mkK (⟨x, rfl, by ac_rfl, hfi.symm, hdb, hjb, hk, hB9⟩) (Sc 0 rfl (Sc 1 rfl (Sc 2 rfl (Sc 6 rfl (Sc 7 rfl (Sc 8 rfl (Sc 9 rfl (Sc 16 rfl (Sc 17 rfl (Sc 18 rfl (Sc 19 rfl (Sc 20 rfl (Sc 21 rfl (Sc 22 rfl (Sc 23 rfl (Sc 24 rfl (Sc 25 rfl (Sub.nil _))))))))))))))))))
  ·rintro ρ' B' H' ⟨x, rfl, rfl, hv, hdb, hjb, hk, hB9⟩
   rename Frag => B9
   refine Cq (fun K21 k21 => ?_)
   refine Cr <| Lx.y (mv rfl) rfl <| Lx.y (mv rfl) rfl <| Lx.y (asg rfl) rfl <| Lx.y (asg rfl) rfl <| Lx.nil <| ?_
   refine Xx.tn (k21 _ _ _ _ ?_)
   refine Cx.ret ?_
   exact Xx.ret2 rfl rfl rfl ⟨vb, gb, x, gl, rfl, hv, hdb, hjb, hk, hgo, rfl⟩ hB9 (by ac_rfl)
end ViC
end Go.Proofs.YthlfffbcligocaaGreat
namespace Go.Proofs.YthlfffbcligocaaGreat
open Go.SL Go.RowKit
set_option maxRecDepth 100000
open VhA VhB VhC VhD VhE VhF VhG VhH VhI VhJ VhK VhL VhM VhN VhO VhP VhQ VhR VhS VhT VhU VhV VhW VhX VhY VhZ ViA ViB
open Jn1 (Rc rcc Jn jnH atV)
open DkB (Dk dkH)
namespace ViF
theorem sz3 : (Tryz.prog.info? 3).map (·.size) = some 1 := by kernel_rfl
theorem sz4 : (Tryz.prog.info? 4).map (·.size) = some 1 := by kernel_rfl
theorem sz9 : (Tryz.prog.info? 9).map (·.size) = some 1 := by kernel_rfl
theorem sz22 : (Tryz.prog.info? 22).map (·.size) = some 1 := by kernel_rfl
theorem sz23 : (Tryz.prog.info? 23).map (·.size) = some 1 := by kernel_rfl
theorem sz25 : (Tryz.prog.info? 25).map (·.size) = some 4 := by kernel_rfl
theorem sz40 : (Tryz.prog.info? 40).map (·.size) = some 8 := by kernel_rfl
theorem sz51 : (Tryz.prog.info? 51).map (·.size) = some 1 := by kernel_rfl
theorem sz123 : (Tryz.prog.info? 123).map (·.size) = some 2 := by kernel_rfl
theorem sz149 : (Tryz.prog.info? 149).map (·.size) = some 4 := by kernel_rfl
theorem ti25 : TI Tryz.prog 25 [.int .u64 0, str [], .int .u64 0, .slice none 0 0] 4 56 := TI.of (by kernel_rfl) rfl rfl
theorem ti40 : TI Tryz.prog 40 [.int .i64 0, str [], str [], .int .u64 0, .int .u64 0, str [], str [], .bool false] 8 96 := TI.of (by kernel_rfl) rfl rfl
theorem ti123 : TI Tryz.prog 123 [.int .u64 0, .int .i64 0] 2 16 := TI.of (by kernel_rfl) rfl rfl
theorem fo25_0 : FO Tryz.prog 25 0 0 1 false := FO.of U25 rfl rfl (by kernel_rfl) U22 rfl rfl
theorem fo94_2 : FO Tryz.prog 94 2 2 1 false := FO.of U94 rfl rfl (by kernel_rfl) U51 rfl rfl
theorem pl123 : PL Tryz.prog 123 [(0, 1), (1, 1)] := PL.of U123 (by kernel_rfl)
def pcs (p : Plc) : List Value := [u64 p.1, i64 p.2]
theorem pcs_len (p : Plc) : (pcs p).length = 2 := rfl
def plB (b : Bk) : List Plc := (bodd b.revs).map fun i : Nat => (b.seq, (i : Int))
def placesF (l : List Bk) : List Plc := l.flatMap plB
theorem places_le (l : List Bk) (h : ∀ b ∈ l, b.revs.length ≤ 64) : (placesF l).length ≤ l.length * 64 := by
  unfold placesF
  induction l with
  | nil => exact Nat.zero_le _
  | cons b l ih =>
    have h1 := ih fun c hc => h c (by simp [hc])
    have h2 := h b (by simp)
    have h3 := bodd_len b.revs
    rw [List.flatMap_cons, List.length_append, List.length_cons, Nat.succ_mul]
    unfold plB at h1 ⊢
    rw [List.length_map]; omega
set_option maxHeartbeats 2000000 in
theorem places_ct (vb : Nat) (x : Vm) (B : Frag) (hk : VmOk B x) : Ct Tryz.prog 66 [.pointer (some ⟨vb, 0, none⟩)] B (vH vb x) (fun v B' H' => H' = vH vb x ∧ ∃ A c, v = .slice A (placesF x.vs.l).length c ∧ RoS B' 2 A (placesF x.vs.l).length ((placesF x.vs.l).flatMap pcs)) := by
 have hk2 := hk.2
 have hpl : ∀ i, (placesF ((x.ms.take i).map (·.b))).length ≤ 64000000 := fun i => by
  have h1 := places_le ((x.ms.take i).map (·.b)) fun b hb => by
   obtain ⟨z, hz, rfl⟩ := List.mem_map.1 hb
   exact (hk.1 z (List.mem_of_mem_take hz)).2.2.2.1
  rw [List.length_map, List.length_take] at h1
  have : min i x.ms.length * 64 ≤ 1000000 * 64 := Nat.mul_le_mul_right _ (by omega)
  omega
 refine Ct.of_body Tryz.func66 rfl (nt := 34) rfl (by kernel_rfl) rfl ?_
 intro N0 w0 R
 unfold vH
 simp only [star_assoc]
 refine Cq (fun K1 k1 => ?_)
 refine Cr <| Lx.y (asg rfl) rfl <| Lx.nil <| ?_
 refine Xx.tn (k1 _ _ _ _ ?_)
 refine Cq (fun K2 k2 => ?_)
 refine Cr <| Lx.y (asg rfl) rfl <| Lx.nil <| ?_
 refine Xx.tn (k2 _ _ _ _ ?_)
 refine Cq (fun K3 k3 => ?_)
 refine Cq (fun K4 k4 => ?_)
 refine Cr <| Lx.y (mv rfl) rfl <| Lx.y (nilc rfl) rfl <| Lx.y (fa' fo94_2 rfl) rfl <| Lx.y (ld U51 rfl rfl rfl) rfl <| Lx.y (lenV (ty' := 0) U51 rfl) rfl <| Lx.y (mv rfl) rfl <| Lx.nil <| ?_
 refine Xx.tn (k4 _ _ _ _ ?_)
 refine Cx.block ?_
 refine Cx.loopK (Sc 0 rfl (Sc 2 rfl (Sc 8 rfl (Sc 9 rfl (Sc 10 rfl (Sc 11 rfl (Sc 12 rfl (Sub.nil _)))))))) (fun m ρ' B' H' => ∃ (i : Nat) (A2 : Option Addr) (c2 : Nat) (B9 : Frag), (i ≤ x.ms.length ∧ B.le B9) ∧ m = x.ms.length - i ∧ ρ' = [(3, .slice A2 (placesF ((x.ms.take i).map (·.b))).length c2), (13, i64 (i : Int))] ∧ B9 = B' ∧ sbuf 123 2 A2 (placesF ((x.ms.take i).map (·.b))).length c2 ((placesF ((x.ms.take i).map (·.b))).flatMap pcs) * (row vb 94 (vcs x) * (sbuf 25 4 x.Al x.ms.length x.cl (x.ms.flatMap bmc) * (mkH x.tb (mkO x) * (gmap x.mb x.bod * R)))) = H') ⟨0, none, 0, _, ⟨Nat.zero_le _, Fl _⟩, rfl, rfl, rfl, by show sbuf _ 2 none 0 0 [] * _ = _; rw [sbuf_nil, one_star]⟩ (Sc 3 rfl (Sc 13 rfl (Sc 0 rfl (Sc 2 rfl (Sc 8 rfl (Sc 9 rfl (Sc 10 rfl (Sc 11 rfl (Sc 12 rfl (Sub.nil _)))))))))) ?_
 rintro m ρ' B' H' ⟨i, A2, c2, B9, ⟨hi, hB9⟩, rfl, rfl, rfl, rfl⟩
 refine Cq (fun K5 k5 => ?_)
 refine Cr <| Lx.y (lss rfl rfl) rfl <| Lx.nil <| ?_
 refine Xx.tn (k5 _ _ _ _ ?_)
 refine Cq (fun K6 k6 => ?_)
 refine Cx.condD rfl (fun h7 => ?_) (fun h7 => ?_)
 ·
  have hlt := h7
  have hlt : i < x.ms.length := by omega
  obtain ⟨hro, hbo⟩ := hk.1 _ (List.getElem_mem hlt)
  have hbo3 := hbo.2.2.1
  have hol := bodd_len (x.ms[i]'hlt).b.revs
  have hpi := hpl i
  refine Xx.addrT x.Al (by omega) (fun bl hA hxl hxc => ?_)
  refine Cx.skip ?_
  refine Xx.tn (k6 _ _ _ _ ?_)
  refine Cq (fun K8 k8 => ?_)
  refine Cx.block ?_
  refine Cq (fun K9 k9 => ?_)
  rw [hA]
  refine Cr <| Lx.y (ia (j := i) U51 sz25 rfl rfl (Int.toNat_natCast _) (by omega) (by omega)) rfl <| Lx.y (ldA U25 rfl sz25 rfl (Cells.buf (b := bl) (m := 4) (show _ = bmc (x.ms[i]'hlt) from by rw [Nat.zero_add, flatG_at bmc_len i x.ms hlt]) (by rw [flatG_len bmc_len]; omega)) rfl) rfl <| ?_
  refine Lx.new (allocO ti25) rfl (fun b5 => ?_)
  refine Lx.st (stA (d := .bool) sz25 rfl rfl rfl rfl (by show 0 + 4 ≤ 4; omega) rfl) ?_
  refine Lx.nil ?_
  refine Xx.tn (k9 _ _ _ _ ?_)
  refine Cq (fun K10 k10 => ?_)
  rw [← hA]
  refine Cr <| Lx.y (ldA U25 rfl sz25 rfl (Co (n := 4) Pe (show ((bmc (x.ms[i]'hlt)).drop 0).take 4 = bmc (x.ms[i]'hlt) from rfl)) rfl) rfl <| ?_
  refine Lx.cb rfl rfl rfl (bodied2_ct (x.ms[i]'hlt) _ (Bm.ro_mono hro hB9) (by omega)) rfl ?_
  rintro v5 B10 ⟨Ab, cb, rfl, hRb⟩ hB10
  refine Lx.y (lenV (ty' := 0) U26 rfl) rfl <| Lx.y (mv rfl) rfl <| Lx.nil <| ?_
  refine Xx.tn (k10 _ _ _ _ ?_)
  refine Cx.block ?_
  refine Cx.loopK (Sc 0 rfl (Sc 2 rfl (Sc 5 rfl (Sc 8 rfl (Sc 9 rfl (Sc 10 rfl (Sc 11 rfl (Sc 12 rfl (Sc 13 rfl (Sc 14 rfl (Sc 15 rfl (Sc 16 rfl (Sc 17 rfl (Sc 18 rfl (Sc 19 rfl (Sub.nil _)))))))))))))))) (fun m ρ' B' H' => ∃ (k : Nat) (A3 : Option Addr) (c3 : Nat), (k ≤ (bodd (x.ms[i]'hlt).b.revs).length) ∧ m = (bodd (x.ms[i]'hlt).b.revs).length - k ∧ ρ' = [(3, .slice A3 ((placesF ((x.ms.take i).map (·.b))) ++ ((bodd (x.ms[i]'hlt).b.revs).take k).map fun k : Nat => (((x.ms[i]'hlt).b.seq, (k : Int)) : Plc)).length c3), (20, i64 (k : Int))] ∧ B10 = B' ∧ sbuf 123 2 A3 ((placesF ((x.ms.take i).map (·.b))) ++ ((bodd (x.ms[i]'hlt).b.revs).take k).map fun k : Nat => (((x.ms[i]'hlt).b.seq, (k : Int)) : Plc)).length c3 (((placesF ((x.ms.take i).map (·.b))) ++ ((bodd (x.ms[i]'hlt).b.revs).take k).map fun k : Nat => (((x.ms[i]'hlt).b.seq, (k : Int)) : Plc)).flatMap pcs) * (row b5 25 (bmc (x.ms[i]'hlt)) * (row vb 94 (vcs x) * (sbuf 25 4 x.Al x.ms.length x.cl (x.ms.flatMap bmc) * (mkH x.tb (mkO x) * (gmap x.mb x.bod * R))))) = H') ⟨0, A2, c2, Nat.zero_le _, rfl, rfl, rfl, by rw [List.take_zero, List.map_nil, List.append_nil]; ac_rfl⟩ (Sub.consE (s := 3) rfl (by rw [List.take_zero, List.map_nil, List.append_nil]) (Sc 20 rfl (Sc 0 rfl (Sc 2 rfl (Sc 5 rfl (Sc 8 rfl (Sc 9 rfl (Sc 10 rfl (Sc 11 rfl (Sc 12 rfl (Sc 13 rfl (Sc 14 rfl (Sc 15 rfl (Sc 16 rfl (Sc 17 rfl (Sc 18 rfl (Sc 19 rfl (Sub.nil _)))))))))))))))))) ?_
  rintro m ρ' B' H' ⟨k, A3, c3, hk3, rfl, rfl, rfl, rfl⟩
  refine Cq (fun K12 k12 => ?_)
  refine Cr <| Lx.y (lss rfl rfl) rfl <| Lx.nil <| ?_
  refine Xx.tn (k12 _ _ _ _ ?_)
  refine Cq (fun K13 k13 => ?_)
  refine Cx.condD rfl (fun h14 => ?_) (fun h14 => ?_)
  ·
   have hlt3 := h14
   have hlt3 : k < (bodd (x.ms[i]'hlt).b.revs).length := by omega
   obtain ⟨b0, o0, cs0, et0, fz0, hA0, hB0, hv0⟩ := hRb.at1 hlt3
   rw [List.getElem?_map, List.getElem?_eq_getElem hlt3] at hv0
   have hps : ((placesF ((x.ms.take i).map (·.b))) ++ ((bodd (x.ms[i]'hlt).b.revs).take (k + 1)).map fun k : Nat => (((x.ms[i]'hlt).b.seq, (k : Int)) : Plc)) = ((placesF ((x.ms.take i).map (·.b))) ++ ((bodd (x.ms[i]'hlt).b.revs).take k).map fun k : Nat => (((x.ms[i]'hlt).b.seq, (k : Int)) : Plc)) ++ [((((x.ms[i]'hlt).b.seq, (((bodd (x.ms[i]'hlt).b.revs)[k]'hlt3 : Nat) : Int))) : Plc)] := by rw [List.take_succ_eq_append_getElem hlt3, List.map_append, ← List.append_assoc]; rfl
   have hlen : ((placesF ((x.ms.take i).map (·.b))) ++ ((bodd (x.ms[i]'hlt).b.revs).take (k + 1)).map fun k : Nat => (((x.ms[i]'hlt).b.seq, (k : Int)) : Plc)).length = ((placesF ((x.ms.take i).map (·.b))) ++ ((bodd (x.ms[i]'hlt).b.revs).take k).map fun k : Nat => (((x.ms[i]'hlt).b.seq, (k : Int)) : Plc)).length + 1 := by rw [hps, List.length_append]; rfl
   have hpkl : ((placesF ((x.ms.take i).map (·.b))) ++ ((bodd (x.ms[i]'hlt).b.revs).take k).map fun k : Nat => (((x.ms[i]'hlt).b.seq, (k : Int)) : Plc)).length ≤ 64000064 := by rw [List.length_append, List.length_map, List.length_take]; omega
   refine Cx.skip ?_
   refine Xx.tn (k13 _ _ _ _ ?_)
   refine Cq (fun K15 k15 => ?_)
   refine Cx.block ?_
   refine Cq (fun K16 k16 => ?_)
   refine Cr <| Lx.y (Yx.val (ia (b := b0) (o := o0) U26 sz3 (by rw [← hA0]; rfl) rfl (Int.toNat_natCast _) (by omega) (by omega)) rfl) rfl <| Lx.y (ldB U3 rfl rfl hB0 hv0) rfl <| Lx.y (asg rfl) rfl <| Lx.nil <| ?_
   refine Xx.tn (k16 _ _ _ _ ?_)
   refine Cr <| Lx.y (mv rfl) rfl <| Lx.y (fa' fo25_0 rfl) rfl <| Lx.y (ld U22 rfl rfl rfl) rfl <| Lx.y (mv rfl) rfl <| Lx.y (bld ti123 pl123 rfl rfl) rfl <| ?_
   refine Lx.bsl (bslA U120 ti123 rfl rfl (by decide)) rfl (fun bv => ?_)
   refine Lx.o (appN (et := 123) (A := A3) (((placesF ((x.ms.take i).map (·.b))) ++ ((bodd (x.ms[i]'hlt).b.revs).take k).map fun k : Nat => (((x.ms[i]'hlt).b.seq, (k : Int)) : Plc)).length + 1) (pcs ((x.ms[i]'hlt).b.seq, (((bodd (x.ms[i]'hlt).b.revs)[k]'hlt3 : Nat) : Int))) ((((placesF ((x.ms.take i).map (·.b))) ++ ((bodd (x.ms[i]'hlt).b.revs).take k).map fun k : Nat => (((x.ms[i]'hlt).b.seq, (k : Int)) : Plc)) ++ [((((x.ms[i]'hlt).b.seq, (((bodd (x.ms[i]'hlt).b.revs)[k]'hlt3 : Nat) : Int))) : Plc)]).flatMap pcs) U120 U120 ti123 rfl rfl rfl rfl rfl (by omega) (by omega) rfl (by simp only [List.flatMap_append, List.flatMap_cons, List.flatMap_nil, List.append_nil])) rfl (fun v B' H' hΦ hB => ?_)
   obtain ⟨A4, c4, rfl, hA4, hl4, hc4, hBB, rfl⟩ := hΦ
   have hBB2 := hBB.symm
   subst hBB2
   refine Xx.dropB bv ?_
   clear hB
   refine Lx.y (asg rfl) rfl <| Lx.nil <| Xx.bn <| ?_
   refine Xx.tn (k15 _ _ _ _ ?_)
   refine Cr <| Lx.y (Yx.val (add rfl rfl (by first | exact wrap64 (by omega) (by omega) | rfl)) (show _ = i64 ((k + 1 : Nat) : Int) from rfl)) rfl <| Lx.y (mv rfl) rfl <| Lx.nil <| ?_
   exact Xx.againK ⟨k + 1, A4, c4, hlt3, rfl, rfl, rfl, (by rw [hlen, hps])⟩ (by omega) (Sub.consE (s := 3) rfl (by rw [hlen]) (Sc 20 rfl (Sc 0 rfl (Sc 2 rfl (Sc 5 rfl (Sc 8 rfl (Sc 9 rfl (Sc 10 rfl (Sc 11 rfl (Sc 12 rfl (Sc 13 rfl (Sc 14 rfl (Sc 15 rfl (Sc 16 rfl (Sc 17 rfl (Sc 18 rfl (Sc 19 rfl (Sub.nil _))))))))))))))))))
  ·
   have hge := h14
   obtain rfl : k = (bodd (x.ms[i]'hlt).b.revs).length := by omega
   have hpk : ((placesF ((x.ms.take i).map (·.b))) ++ ((bodd (x.ms[i]'hlt).b.revs).take (bodd (x.ms[i]'hlt).b.revs).length).map fun k : Nat => (((x.ms[i]'hlt).b.seq, (k : Int)) : Plc)) = (placesF ((x.ms.take (i + 1)).map (·.b))) := by
    rw [List.take_length, List.take_succ_eq_append_getElem hlt, List.map_append]
    unfold placesF
    rw [List.flatMap_append]
    simp [plB]
   refine Cx.exit <| Xx.te <| Xx.te <| Xx.bh <| Xx.bn <| ?_
   refine Xx.tn (k8 _ _ _ _ ?_)
   refine Cr <| Lx.y (Yx.val (add rfl rfl (by first | exact wrap64 (by omega) (by omega) | rfl)) (show _ = i64 ((i + 1 : Nat) : Int) from rfl)) rfl <| Lx.y (mv rfl) rfl <| Lx.nil <| ?_
   refine Xx.dropB b5 ?_
   exact Xx.againK ⟨i + 1, A3, c3, _, ⟨hlt, Fz hB9 hB10⟩, rfl, rfl, rfl, (by rw [hpk])⟩ (by omega) (Sub.consE (s := 3) rfl (by rw [hpk]) (Sc 13 rfl (Sc 0 rfl (Sc 2 rfl (Sc 8 rfl (Sc 9 rfl (Sc 10 rfl (Sc 11 rfl (Sc 12 rfl (Sub.nil _))))))))))
 ·
  have hge := h7
  obtain rfl : i = x.ms.length := by omega
  rw [List.take_length]
  refine Cx.exit <| Xx.te <| Xx.te <| Xx.bh <| ?_
  refine Xx.tn (k3 _ _ _ _ ?_)
  refine Cq (fun K17 k17 => ?_)
  refine Cr <| Lx.y (mv rfl) rfl <| Lx.y (asg rfl) rfl <| Lx.nil <| ?_
  refine Xx.tn (k17 _ _ _ _ ?_)
  refine Cx.ret ?_
  refine Xx.freezeT A2 fun B3 hB3 hRo hnc _ => ?_
  exact Xx.ret1 rfl rfl ⟨rfl, A2, c2, rfl, hRo⟩ (Fz hB9 hB3) (by ac_rfl)
end ViF
end Go.Proofs.YthlfffbcligocaaGreat
namespace Go.Proofs.YthlfffbcligocaaGreat
open Go.SL Go.RowKit
set_option maxRecDepth 100000
open VhA VhB VhC VhD VhE VhF VhG VhH VhI VhJ VhK VhL VhM VhN VhO VhP VhQ VhR VhS VhT VhU VhV VhW VhX VhY VhZ ViA ViB ViC ViE ViF ViG
open Jn1 (Rc rcc Jn jnH atV)
open DkB (Dm Dk dkH findM)
open Jn4 (Ck Holds Fits recsOf lastLen Still)
namespace ViH
theorem sz3 : (Tryz.prog.info? 3).map (·.size) = some 1 := by kernel_rfl
theorem sz4 : (Tryz.prog.info? 4).map (·.size) = some 1 := by kernel_rfl
theorem sz9 : (Tryz.prog.info? 9).map (·.size) = some 1 := by kernel_rfl
theorem sz22 : (Tryz.prog.info? 22).map (·.size) = some 1 := by kernel_rfl
theorem sz23 : (Tryz.prog.info? 23).map (·.size) = some 1 := by kernel_rfl
theorem sz25 : (Tryz.prog.info? 25).map (·.size) = some 4 := by kernel_rfl
theorem sz40 : (Tryz.prog.info? 40).map (·.size) = some 8 := by kernel_rfl
theorem sz51 : (Tryz.prog.info? 51).map (·.size) = some 1 := by kernel_rfl
theorem sz123 : (Tryz.prog.info? 123).map (·.size) = some 2 := by kernel_rfl
theorem sz149 : (Tryz.prog.info? 149).map (·.size) = some 4 := by kernel_rfl
theorem ti25 : TI Tryz.prog 25 [.int .u64 0, str [], .int .u64 0, .slice none 0 0] 4 56 := TI.of (by kernel_rfl) rfl rfl
theorem ti40 : TI Tryz.prog 40 [.int .i64 0, str [], str [], .int .u64 0, .int .u64 0, str [], str [], .bool false] 8 96 := TI.of (by kernel_rfl) rfl rfl
theorem ti123 : TI Tryz.prog 123 [.int .u64 0, .int .i64 0] 2 16 := TI.of (by kernel_rfl) rfl rfl
theorem fo94_5 : FO Tryz.prog 94 5 5 1 false := FO.of U94 rfl rfl (by kernel_rfl) U3 rfl rfl
theorem jlong_le {K L C : Nat} {D : Dm} {fb : List (List Ck)} {l : List Bk} {j : Jn} (hs : Sd K L C D fb l) (hf : Fits D j fb) : j.long ≤ L := by
  rw [hf.long]
  unfold Jn4.lastLen
  rcases snoc_cases fb with rfl | ⟨fc, cs, rfl⟩
  · exact Nat.zero_le _
  · obtain ⟨f, hf1, hf2⟩ := hs.holds.at_ fc.length (by simp)
    have hf2 : f.now = FrA.cat cs := by rw [hf2]; simp
    have := hs.calm.now f (DkN.findM_mem hf1).1
    rw [List.getLast?_append]
    show (FrA.cat cs).length ≤ L
    rw [← hf2]; exact this
theorem places_all {B : Frag} {x : Vm} (hk : VmOk B x) : (placesF x.vs.l).length ≤ 64000000 := by
  have h1 := places_le x.vs.l fun b hb => by
    obtain ⟨z, hz, rfl⟩ := List.mem_map.1 hb
    exact (hk.1 z hz).2.2.2.1
  have h2 : x.vs.l.length = x.ms.length := List.length_map ..
  have h3 := hk.2
  rw [h2] at h1
  omega
set_option maxHeartbeats 2000000 in
theorem Open0_ct (db : Nat) (d : Dk) (fb : List (List Ck)) (l : List Bk) (K L C : Nat) (B : Frag) (hs : Sd K L C d.abs fb l) (hK : K ≤ 1000000) (hL : L ≤ 1048576) (hC : C ≤ 1000000000) (hl : l.length ≤ 10000) : Ct Tryz.prog 21 [.pointer (some ⟨db, 0, none⟩)] B (dkH db d) (fun v B' H' => ∃ vb x j, v = .tuple #[.pointer (some ⟨vb, 0, none⟩), i64 0] ∧ x.vs.l = l ∧ x.db = db ∧ VmOk B' x ∧ j.db = db ∧ j.most = 2048 ∧ Fits d.abs j fb ∧ H' = vH vb x * (jnH x.jb j * dkH db d)) := by
 have hdead : d.dead = false := hs.calm.dead
 have hct := sd_count hs
 have hbo := sd_bodies hs
 refine Ct.of_body Tryz.func21 rfl (nt := 71) rfl (by kernel_rfl) rfl ?_
 intro N0 w0 R
 refine Cq (fun K1 k1 => ?_)
 refine Cr <| Lx.y (asg rfl) rfl <| Lx.y (asg rfl) rfl <| Lx.nil <| ?_
 refine Xx.tn (k1 _ _ _ _ ?_)
 refine Cq (fun K2 k2 => ?_)
 refine Cr <| Lx.y (mv rfl) rfl <| ?_
 refine Lx.c rfl rfl rfl (Jn5.JOpenF_ct d db 2048 fb K L C _ hs.calm hK hL hC (by decide) hs.holds) (rfl) rfl ?_
 rintro v1 B1 H1 ⟨jb, j, rfl, hjd, hjm, hfit, rfl⟩ hB1
 simp only [star_assoc]
 have hjl : j.l.length ≤ 650000 := by rw [hfit.l]; omega
 have hjb : ∀ r ∈ j.l, r.body.length ≤ 1000000 := fun r hr => by rw [hfit.l] at hr; exact Nat.le_trans (hbo r hr) (by decide)
 have hw := sd_whole hs hfit
 have hput : Puts j.l l := by rw [hfit.l]; exact hs.puts
 obtain ⟨hsc1, hsc2⟩ := scan_puts hput hs.chain
 have hgo : goneF (j.l.take j.l.length) = [] := hput.gone _
 refine Lx.y (mv rfl) rfl <| Lx.y (ext rfl rfl) rfl <| Lx.y (ext rfl rfl) rfl <| Lx.y (asg rfl) rfl <| Lx.y (asg rfl) rfl <| Lx.nil <| ?_
 refine Xx.tn (k2 _ _ _ _ ?_)
 refine Cq (fun K3 k3 => ?_)
 refine Cq (fun K4 k4 => ?_)
 refine Cr <| Lx.y (mv rfl) rfl <| Lx.y (Yx.ff (neI rfl rfl) rfl) rfl <| Lx.nil <| ?_
 refine Xx.tn (k4 _ _ _ _ ?_)
 refine Cx.condF rfl <| Cx.skip <| ?_
 refine Xx.tn (k3 _ _ _ _ ?_)
 refine Cq (fun K5 k5 => ?_)
 refine Cr <| Lx.y (mv rfl) rfl <| ?_
 refine Lx.co rfl rfl rfl (Jn1.JLen_ct jb j _) (Pick.eq) rfl ?_
 refine Lx.y (asg rfl) rfl <| Lx.nil <| ?_
 refine Xx.tn (k5 _ _ _ _ ?_)
 refine Cq (fun K6 k6 => ?_)
 refine Cr <| Lx.y (mv rfl) rfl <| Lx.y (mv rfl) rfl <| Lx.y (mv rfl) rfl <| ?_
 refine Lx.c rfl rfl rfl (scan_ct db jb j.l.length j _ (Nat.le_refl _) (by omega) hjb) (Pick.eq) rfl ?_
 rintro v5 B5 H5 ⟨vb, gb, x, gl, rfl, hv, hxd, hxj, hk, hgl, rfl⟩ hB5
 simp only [star_assoc]
 have hends : x.ends = j.l.length := (congrArg Vs.ends hv).trans hsc2
 have hxl : x.vs.l = l := (congrArg Vs.l hv).trans hsc1
 rw [hgo] at hgl
 refine Lx.y (mv rfl) rfl <| Lx.y (ext rfl rfl) rfl <| Lx.y (ext rfl rfl) rfl <| Lx.y (asg rfl) rfl <| Lx.y (asg rfl) rfl <| Lx.nil <| ?_
 refine Xx.tn (k6 _ _ _ _ ?_)
 refine Cq (fun K7 k7 => ?_)
 refine Cx.block ?_
 refine Cx.loopK (Sc 0 rfl (Sc 2 rfl (Sc 3 rfl (Sc 4 rfl (Sc 5 rfl (Sc 13 rfl (Sc 14 rfl (Sc 15 rfl (Sc 16 rfl (Sc 17 rfl (Sc 18 rfl (Sc 19 rfl (Sc 21 rfl (Sc 22 rfl (Sc 23 rfl (Sc 24 rfl (Sc 25 rfl (Sc 26 rfl (Sc 27 rfl (Sc 28 rfl (Sc 29 rfl (Sub.nil _)))))))))))))))))))))) (fun m ρ' B' H' => (True) ∧ m = 0 ∧ ρ' = [(6, i64 (j.l.length : Int)), (7, .pointer (some ⟨vb, 0, none⟩)), (8, .map (some gb))] ∧ B5 = B' ∧ vH vb x * (jnH jb j * (gmap gb gl * (dkH db d * R))) = H') ⟨trivial, rfl, rfl, rfl, by ac_rfl⟩ (Sc 6 rfl (Sc 7 rfl (Sc 8 rfl (Sc 0 rfl (Sc 2 rfl (Sc 3 rfl (Sc 4 rfl (Sc 5 rfl (Sc 13 rfl (Sc 14 rfl (Sc 15 rfl (Sc 16 rfl (Sc 17 rfl (Sc 18 rfl (Sc 19 rfl (Sc 21 rfl (Sc 22 rfl (Sc 23 rfl (Sc 24 rfl (Sc 25 rfl (Sc 26 rfl (Sc 27 rfl (Sc 28 rfl (Sc 29 rfl (Sub.nil _))))))))))))))))))))))))) ?_
 rintro m ρ' B' H' ⟨_, rfl, rfl, rfl, rfl⟩
 refine Cq (fun K8 k8 => ?_)
 refine Cq (fun K9 k9 => ?_)
 refine Cr <| Lx.y (mv rfl) rfl <| Lx.y (nilc rfl) rfl <| Lx.y (fa' fo94_5 rfl) rfl <| Lx.y (ld U3 rfl rfl rfl) rfl <| Lx.y (mv rfl) rfl <| Lx.y (neI rfl rfl) rfl <| Lx.nil <| ?_
 refine Xx.tn (k9 _ _ _ _ ?_)
 refine Cx.condN rfl (fun h10 => ?_) (fun h10 => ?_)
 ·
  exact absurd (by rw [hends]) h10
 ·
  have h00 := h10
  refine Cx.exit <| Xx.te <| Xx.te <| Xx.bh <| ?_
  refine Xx.tn (k7 _ _ _ _ ?_)
  refine Cq (fun K11 k11 => ?_)
  refine Cq (fun K12 k12 => ?_)
  refine Cr <| Lx.y (mv rfl) rfl <| Lx.y (mv rfl) rfl <| ?_
  refine Lx.c rfl rfl rfl (JKeep0_ct jb j d _ (hs.calm.fit hK (by omega) (by omega)) hdead hw (by omega) (by have h1 := hfit.long; have h2 := jlong_le hs hfit; omega) (by have h1 := hfit.last; have h2 := sd_len hs; omega)) (show _ = (jnH jb j * dkH j.db d) * (vH vb x * (gmap gb gl * R)) by rw [hjd]; ac_rfl) rfl ?_
  rintro v9 B9 H9 ⟨rfl, rfl⟩ hB9
  rw [hjd]
  simp only [star_assoc]
  refine Lx.y (asg rfl) rfl <| Lx.nil <| ?_
  refine Xx.tn (k12 _ _ _ _ ?_)
  refine Cq (fun K13 k13 => ?_)
  refine Cr <| Lx.y (mv rfl) rfl <| Lx.y (Yx.ff (neI rfl rfl) rfl) rfl <| Lx.nil <| ?_
  refine Xx.tn (k13 _ _ _ _ ?_)
  refine Cx.condF rfl <| Cx.skip <| ?_
  refine Xx.tn (k11 _ _ _ _ ?_)
  refine Cq (fun K14 k14 => ?_)
  refine Cq (fun K15 k15 => ?_)
  refine Cr <| Lx.y (mv rfl) rfl <| ?_
  refine Lx.c rfl rfl rfl (places_ct vb x _ (hk.mono hB9)) (Pick.eq) rfl ?_
  rintro v12 B12 H12 ⟨rfl, A12, c12, rfl, hRp⟩ hB12
  have hpb := places_all hk
  refine Lx.y (lenV (ty' := 0) U120 rfl) rfl <| Lx.y (mv rfl) rfl <| Lx.nil <| ?_
  refine Xx.tn (k15 _ _ _ _ ?_)
  refine Cx.block ?_
  refine Cx.loopK (Sc 0 rfl (Sc 4 rfl (Sc 5 rfl (Sc 6 rfl (Sc 7 rfl (Sc 8 rfl (Sc 9 rfl (Sc 13 rfl (Sc 14 rfl (Sc 15 rfl (Sc 16 rfl (Sc 17 rfl (Sc 18 rfl (Sc 19 rfl (Sc 21 rfl (Sc 22 rfl (Sc 23 rfl (Sc 24 rfl (Sc 25 rfl (Sc 26 rfl (Sc 27 rfl (Sc 28 rfl (Sc 29 rfl (Sc 30 rfl (Sc 31 rfl (Sc 32 rfl (Sc 33 rfl (Sc 34 rfl (Sc 35 rfl (Sc 47 rfl (Sc 48 rfl (Sc 49 rfl (Sc 50 rfl (Sc 51 rfl (Sc 53 rfl (Sc 54 rfl (Sc 55 rfl (Sub.nil _)))))))))))))))))))))))))))))))))))))) (fun m ρ' B' H' => ∃ (i : Nat), (i ≤ (placesF x.vs.l).length) ∧ m = (placesF x.vs.l).length - i ∧ ρ' = [(56, i64 (i : Int))] ∧ B12 = B' ∧ vH vb x * (gmap gb gl * (jnH jb j * (dkH db d * R))) = H') ⟨0, Nat.zero_le _, rfl, rfl, rfl, by ac_rfl⟩ (Sc 56 rfl (Sc 0 rfl (Sc 4 rfl (Sc 5 rfl (Sc 6 rfl (Sc 7 rfl (Sc 8 rfl (Sc 9 rfl (Sc 13 rfl (Sc 14 rfl (Sc 15 rfl (Sc 16 rfl (Sc 17 rfl (Sc 18 rfl (Sc 19 rfl (Sc 21 rfl (Sc 22 rfl (Sc 23 rfl (Sc 24 rfl (Sc 25 rfl (Sc 26 rfl (Sc 27 rfl (Sc 28 rfl (Sc 29 rfl (Sc 30 rfl (Sc 31 rfl (Sc 32 rfl (Sc 33 rfl (Sc 34 rfl (Sc 35 rfl (Sc 47 rfl (Sc 48 rfl (Sc 49 rfl (Sc 50 rfl (Sc 51 rfl (Sc 53 rfl (Sc 54 rfl (Sc 55 rfl (Sub.nil _))))))))))))))))))))))))))))))))))))))) ?_
  rintro m ρ' B' H' ⟨i, hi, rfl, rfl, rfl, rfl⟩
  refine Cq (fun K16 k16 => ?_)
  refine Cr <| Lx.y (lss rfl rfl) rfl <| Lx.nil <| ?_
  refine Xx.tn (k16 _ _ _ _ ?_)
  refine Cq (fun K17 k17 => ?_)
  refine Cx.condD rfl (fun h18 => ?_) (fun h18 => ?_)
  ·
   have hlt := h18
   have hlt : i < (placesF x.vs.l).length := by omega
   obtain ⟨b9, o9, cs9, et9, fz9, hA9, hB9c, hc9⟩ := flat_at pcs_len hRp hlt
   refine Cx.skip ?_
   refine Xx.tn (k17 _ _ _ _ ?_)
   refine Cq (fun K19 k19 => ?_)
   refine Cx.block ?_
   refine Cq (fun K20 k20 => ?_)
   refine Cr <| Lx.y (Yx.val (ia (b := b9) (o := o9) U120 sz123 (by rw [← hA9]; rfl) rfl (Int.toNat_natCast _) (by omega) (by omega)) rfl) rfl <| Lx.y (ldA U123 rfl sz123 rfl (Cells.base hB9c hc9) rfl) rfl <| ?_
   refine Lx.new (allocO ti123) rfl (fun b11 => ?_)
   refine Lx.st (stA (d := .bool) sz123 rfl rfl rfl rfl (by show 0 + 2 ≤ 2; omega) rfl) ?_
   refine Lx.nil ?_
   refine Xx.tn (k20 _ _ _ _ ?_)
   refine Cq (fun K21 k21 => ?_)
   refine Cr <| Lx.y (mv rfl) rfl <| Lx.y (ldA U123 rfl sz123 rfl (Co (n := 2) (vs := pcs ((placesF x.vs.l)[i]'hlt)) Pe rfl) rfl) rfl <| Lx.y (lkG (κ := Plc) (k := ((placesF x.vs.l)[i]'hlt)) U117 plc_key Tryz.zeroValue4 rfl rfl (v := .bool false) (by rw [GoneIs.get hgl]; rfl)) rfl <| Lx.nil <| ?_
   refine Xx.tn (k21 _ _ _ _ ?_)
   refine Cx.condF rfl <| Cx.skip <| Xx.bn <| ?_
   refine Xx.tn (k19 _ _ _ _ ?_)
   refine Cr <| Lx.y (Yx.val (add rfl rfl (by first | exact wrap64 (by omega) (by omega) | rfl)) (show _ = i64 ((i + 1 : Nat) : Int) from rfl)) rfl <| Lx.y (mv rfl) rfl <| Lx.nil <| ?_
   refine Xx.dropB b11 ?_
   exact Xx.againK ⟨i + 1, hlt, rfl, rfl, rfl, rfl⟩ (by omega) (Sc 56 rfl (Sc 0 rfl (Sc 4 rfl (Sc 5 rfl (Sc 6 rfl (Sc 7 rfl (Sc 8 rfl (Sc 9 rfl (Sc 13 rfl (Sc 14 rfl (Sc 15 rfl (Sc 16 rfl (Sc 17 rfl (Sc 18 rfl (Sc 19 rfl (Sc 21 rfl (Sc 22 rfl (Sc 23 rfl (Sc 24 rfl (Sc 25 rfl (Sc 26 rfl (Sc 27 rfl (Sc 28 rfl (Sc 29 rfl (Sc 30 rfl (Sc 31 rfl (Sc 32 rfl (Sc 33 rfl (Sc 34 rfl (Sc 35 rfl (Sc 47 rfl (Sc 48 rfl (Sc 49 rfl (Sc 50 rfl (Sc 51 rfl (Sc 53 rfl (Sc 54 rfl (Sc 55 rfl (Sub.nil _)))))))))))))))))))))))))))))))))))))))
  ·
   have hge := h18
   refine Cx.exit <| Xx.te <| Xx.te <| Xx.bh <| ?_
   refine Xx.tn (k14 _ _ _ _ ?_)
   refine Cq (fun K22 k22 => ?_)
   refine Cr <| Lx.y (mv rfl) rfl <| Lx.y (asg rfl) rfl <| Lx.y (asg rfl) rfl <| Lx.nil <| ?_
   refine Xx.tn (k22 _ _ _ _ ?_)
   refine Cx.ret ?_
   refine Xx.perm (Xx.drop (p := gmap gb gl) (H := vH vb x * (jnH jb j * (dkH db d * R))) ?_) (by ac_rfl)
   exact Xx.ret2 rfl rfl rfl ⟨vb, x, j, rfl, hxl, hxd, hk.mono (Fz hB9 hB12), hjd, hjm, hfit, rfl⟩ (Fz hB1 (Fz hB5 (Fz hB9 hB12))) (by rw [hxj]; ac_rfl)
end ViH
end Go.Proofs.YthlfffbcligocaaGreat
namespace Go.Proofs.YthlfffbcligocaaGreat
open Go.SL Go.RowKit
set_option maxRecDepth 100000
open VhA VhB VhC VhD VhE VhF VhG VhH VhI VhJ VhK VhL VhM VhN VhO VhP VhQ VhR VhS VhT VhU VhV VhW VhX VhY VhZ ViA ViB ViC ViE ViF ViG ViH
namespace ViI
theorem sz3 : (Tryz.prog.info? 3).map (·.size) = some 1 := by kernel_rfl
theorem sz4 : (Tryz.prog.info? 4).map (·.size) = some 1 := by kernel_rfl
theorem sz5 : (Tryz.prog.info? 5).map (·.size) = some 1 := by kernel_rfl
theorem sz9 : (Tryz.prog.info? 9).map (·.size) = some 1 := by kernel_rfl
theorem sz22 : (Tryz.prog.info? 22).map (·.size) = some 1 := by kernel_rfl
theorem sz23 : (Tryz.prog.info? 23).map (·.size) = some 1 := by kernel_rfl
theorem sz25 : (Tryz.prog.info? 25).map (·.size) = some 4 := by kernel_rfl
theorem sz40 : (Tryz.prog.info? 40).map (·.size) = some 8 := by kernel_rfl
theorem sz51 : (Tryz.prog.info? 51).map (·.size) = some 1 := by kernel_rfl
theorem ti5 : TI Tryz.prog 5 [.int .u8 0] 1 1 := TI.of (by kernel_rfl) rfl rfl
theorem ti25 : TI Tryz.prog 25 [.int .u64 0, str [], .int .u64 0, .slice none 0 0] 4 56 := TI.of (by kernel_rfl) rfl rfl
theorem ti40 : TI Tryz.prog 40 [.int .i64 0, str [], str [], .int .u64 0, .int .u64 0, str [], str [], .bool false] 8 96 := TI.of (by kernel_rfl) rfl rfl
theorem fo25_3 : FO Tryz.prog 25 3 3 1 false := FO.of U25 rfl rfl (by kernel_rfl) U23 rfl rfl
theorem fo40_6 : FO Tryz.prog 40 6 6 1 false := FO.of U40 rfl rfl (by kernel_rfl) U9 rfl rfl
theorem pl25 : PL Tryz.prog 25 [(0, 1), (1, 1), (2, 1), (3, 1)] := PL.of U25 (by kernel_rfl)
theorem pl40 : PL Tryz.prog 40 [(0, 1), (1, 1), (2, 1), (3, 1), (4, 1), (5, 1), (6, 1), (7, 1)] := PL.of U40 (by kernel_rfl)
theorem tmod_b (s : Int) (k : Int) (hk : 0 < k) : -k < s.tmod k ∧ s.tmod k < k ∧ (0 ≤ s → 0 ≤ s.tmod k) := by
  rcases Int.le_total 0 s with h | h
  · rw [Int.tmod_eq_emod_of_nonneg h]
    have h1 := Int.emod_nonneg s (show k ≠ 0 by omega)
    have h2 := Int.emod_lt_of_pos s hk
    exact ⟨by omega, h2, fun _ => h1⟩
  · obtain ⟨t, rfl⟩ : ∃ t, s = -t := ⟨-s, by omega⟩
    rw [Int.neg_tmod, Int.tmod_eq_emod_of_nonneg (by omega : 0 ≤ t)]
    have h1 := Int.emod_nonneg t (show k ≠ 0 by omega)
    have h2 := Int.emod_lt_of_pos t hk
    refine ⟨by omega, by omega, fun h3 => ?_⟩
    obtain rfl : t = 0 := by omega
    simp
theorem long_eq (s : Int) : ((longOf s : Nat) : Int) = (s.tmod 1000 + 1000).tmod 1000 ∧ longOf s < 1000 := by
  obtain ⟨h1, h2, _⟩ := tmod_b s 1000 (by decide)
  obtain ⟨h3, h4, h5⟩ := tmod_b (s.tmod 1000 + 1000) 1000 (by decide)
  have h6 := h5 (by omega)
  unfold longOf
  exact ⟨by omega, by omega⟩
def rRv (n i : Nat) (s : Int) : Rv := if 0 < n ∧ s.tmod 2 = 1 then ⟨4, [116], [], BitVec.ofNat 64 (i + 1), BitVec.ofNat 64 n, [], textF (n * 5 + i) (longOf s), false⟩ else ⟨3, [116], [], BitVec.ofNat 64 (n * 5 + i + 1), 0#64, [], textF (n * 5 + i) (longOf s), false⟩
theorem rRv_le (n i : Nat) (s : Int) : (rRv n i s).body.length ≤ 331 := by
  have := textF_len (n * 5 + i) (longOf s)
  unfold rRv; split <;> exact this
theorem rRv_seal (n i : Nat) (s : Int) : sealF (rRv n i s) = mRv n i s := by unfold rRv mRv; split <;> rfl
theorem mRvs_at {n i : Nat} {sizes : List Int} (h : i < sizes.length) (h5 : i < 5) : (mRvs n sizes).take (i + 1) = (mRvs n sizes).take i ++ [mRv n i sizes[i]] := by
  rw [List.take_succ_eq_append_getElem (by rw [mRvs_len]; omega)]
  congr 2
  unfold mRvs
  rw [List.getElem_mapIdx, List.getElem_take]
set_option maxHeartbeats 2000000 in
theorem text_ct (n long : Nat) (B : Frag) (hn : n ≤ 1000000) (hl : long ≤ 1000000) : CtP Tryz.prog 51 [i64 (n : Int), i64 (long : Int)] B (str (textF n long)) := by
 refine CtB.of_body Tryz.func51 rfl (nt := 34) rfl (by kernel_rfl) rfl ?_
 intro N0 w0 R
 refine Cq (fun K1 k1 => ?_)
 refine Cr <| Lx.y (asg rfl) rfl <| Lx.nil <| ?_
 refine Xx.tn (k1 _ _ _ _ ?_)
 refine Cq (fun K2 k2 => ?_)
 refine Cr <| Lx.y (mv rfl) rfl <| Lx.y (quoN rfl rfl (by omega) (by omega) (show IntKind.i64.wrap _ = ((n / 26 : Nat) : Int) from (wrap64 (by omega) (by omega)).trans (by omega))) rfl <| Lx.y (Yx.val (remN rfl rfl (by omega) (by omega)) (show _ = i64 ((n / 26 % 26 : Nat) : Int) from congrArg (Value.int .i64) (by omega))) rfl <| Lx.y (add rfl rfl (show IntKind.i64.wrap _ = ((97 + n / 26 % 26 : Nat) : Int) from (wrap64 (by omega) (by omega)).trans (by omega))) rfl <| Lx.y (cvI rfl U3 U5 (wrap_u8 _)) rfl <| Lx.y (mv rfl) rfl <| Lx.y (Yx.val (remN rfl rfl (by omega) (by omega)) (show _ = i64 ((n % 26 : Nat) : Int) from congrArg (Value.int .i64) (by omega))) rfl <| Lx.y (add rfl rfl (show IntKind.i64.wrap _ = ((97 + n % 26 : Nat) : Int) from (wrap64 (by omega) (by omega)).trans (by omega))) rfl <| Lx.y (cvI rfl U3 U5 (wrap_u8 _)) rfl <| ?_
 refine Lx.bsl (bsl1 U107 ti5 rfl rfl rfl (by decide)) rfl (fun bs => ?_)
 refine Lx.y (b2sR U107 U5 U9 rfl (u8s_cons (u8s_cons u8s_nil)) rfl) rfl <| Lx.y (Yx.val (catS (l := [toB ((97 + n / 26 % 26 : Nat) : Int), toB ((97 + n % 26 : Nat) : Int)]) (l2 := litT) rfl rfl (by simp [litT])) (show _ = str ([toB ((97 + n / 26 % 26 : Nat) : Int), toB ((97 + n % 26 : Nat) : Int)] ++ litT) from rfl)) rfl <| Lx.y (asg rfl) rfl <| Lx.nil <| ?_
 refine Xx.tn (k2 _ _ _ _ ?_)
 refine Cq (fun K3 k3 => ?_)
 refine Cq (fun K4 k4 => ?_)
 refine Xx.dropB bs ?_
 refine Cr <| Lx.y (asg rfl) rfl <| Lx.nil <| ?_
 refine Xx.tn (k4 _ _ _ _ ?_)
 refine Cx.block ?_
 refine Cx.loopK (Sc 0 rfl (Sc 1 rfl (Sc 4 rfl (Sc 7 rfl (Sc 8 rfl (Sc 9 rfl (Sc 10 rfl (Sc 11 rfl (Sc 12 rfl (Sc 13 rfl (Sc 14 rfl (Sc 15 rfl (Sc 16 rfl (Sc 17 rfl (Sc 18 rfl (Sub.nil _)))))))))))))))) (fun m ρ' B' H' => ∃ (i : Nat), (i ≤ long % 300) ∧ m = long % 300 - i ∧ ρ' = [(5, str (([toB ((97 + n / 26 % 26 : Nat) : Int), toB ((97 + n % 26 : Nat) : Int)] ++ litT) ++ List.replicate i (toB ((65 + n % 26 : Nat) : Int)))), (6, i64 (i : Int))] ∧ B = B' ∧ R = H') ⟨0, Nat.zero_le _, rfl, rfl, rfl, rfl⟩ (Sub.consE (s := 5) rfl (by rw [List.replicate_zero, List.append_nil]) (Sc 6 rfl (Sc 0 rfl (Sc 1 rfl (Sc 4 rfl (Sc 7 rfl (Sc 8 rfl (Sc 9 rfl (Sc 10 rfl (Sc 11 rfl (Sc 12 rfl (Sc 13 rfl (Sc 14 rfl (Sc 15 rfl (Sc 16 rfl (Sc 17 rfl (Sc 18 rfl (Sub.nil _)))))))))))))))))) ?_
 rintro m ρ' B' H' ⟨i, hi, rfl, rfl, rfl, rfl⟩
 refine Cq (fun K5 k5 => ?_)
 refine Cq (fun K6 k6 => ?_)
 refine Cr <| Lx.y (mv rfl) rfl <| Lx.y (mv rfl) rfl <| Lx.y (Yx.val (remN rfl rfl (by omega) (by omega)) (show _ = i64 ((long % 300 : Nat) : Int) from congrArg (Value.int .i64) (by omega))) rfl <| Lx.y (lss rfl rfl) rfl <| Lx.nil <| ?_
 refine Xx.tn (k6 _ _ _ _ ?_)
 refine Cx.condD rfl (fun h7 => ?_) (fun h7 => ?_)
 ·
  have hlt := h7
  have hlt : i < long % 300 := by omega
  refine Cx.skip ?_
  refine Xx.tn (k5 _ _ _ _ ?_)
  refine Cq (fun K8 k8 => ?_)
  refine Cx.block <| Cr <| Lx.y (mv rfl) rfl <| Lx.y (mv rfl) rfl <| Lx.y (Yx.val (remN rfl rfl (by omega) (by omega)) (show _ = i64 ((n % 26 : Nat) : Int) from congrArg (Value.int .i64) (by omega))) rfl <| Lx.y (add rfl rfl (show IntKind.i64.wrap _ = ((65 + n % 26 : Nat) : Int) from (wrap64 (by omega) (by omega)).trans (by omega))) rfl <| Lx.y (cvI rfl U3 U5 (wrap_u8 _)) rfl <| ?_
  refine Lx.bsl (bsl1 U107 ti5 rfl rfl rfl (by decide)) rfl (fun bt => ?_)
  refine Lx.y (b2sR U107 U5 U9 rfl (u8s_cons u8s_nil) rfl) rfl <| Lx.y (catS (l := ([toB ((97 + n / 26 % 26 : Nat) : Int), toB ((97 + n % 26 : Nat) : Int)] ++ litT) ++ List.replicate i (toB ((65 + n % 26 : Nat) : Int))) (l2 := [(toB ((65 + n % 26 : Nat) : Int))]) rfl rfl (by simp only [List.length_append, List.length_replicate, List.length_cons, List.length_nil, litT]; omega)) rfl <| Lx.y (asg rfl) rfl <| Lx.nil <| Xx.bn <| ?_
  refine Xx.tn (k8 _ _ _ _ ?_)
  refine Xx.dropB bt ?_
  refine Cr <| Lx.y (mv rfl) rfl <| Lx.y (Yx.val (add rfl rfl (by first | exact wrap64 (by omega) (by omega) | rfl)) (show _ = i64 ((i + 1 : Nat) : Int) from rfl)) rfl <| Lx.y (asg rfl) rfl <| Lx.nil <| ?_
  exact Xx.againK ⟨i + 1, hlt, rfl, rfl, rfl, rfl⟩ (by omega) (Sub.consE (s := 5) rfl (by rw [List.replicate_succ', ← List.append_assoc]) (Sc 6 rfl (Sc 0 rfl (Sc 1 rfl (Sc 4 rfl (Sc 7 rfl (Sc 8 rfl (Sc 9 rfl (Sc 10 rfl (Sc 11 rfl (Sc 12 rfl (Sc 13 rfl (Sc 14 rfl (Sc 15 rfl (Sc 16 rfl (Sc 17 rfl (Sc 18 rfl (Sub.nil _))))))))))))))))))
 ·
  have hge := h7
  obtain rfl : i = long % 300 := by omega
  refine Cx.exit <| Xx.te <| Xx.te <| Xx.bh <| ?_
  refine Xx.tn (k3 _ _ _ _ ?_)
  refine Cq (fun K9 k9 => ?_)
  refine Cr <| Lx.y (mv rfl) rfl <| Lx.y (asg rfl) rfl <| Lx.nil <| ?_
  refine Xx.tn (k9 _ _ _ _ ?_)
  refine Cx.ret ?_
  exact Xx.rB1 rfl rfl ⟨rfl, rfl⟩ (Fl _) rfl
set_option maxHeartbeats 3000000 in
theorem made_ct (vb : Nat) (x : Vm) (n : Nat) (sizes : List Int) (A : Option Addr) (c : Nat) (B : Frag) (hk : VmOk B x) (hRs : 0 < sizes.length → RoS B 1 A sizes.length (ints sizes)) (hn : n ≤ 100000) (hsl : sizes.length ≤ 9223372036854775807) : Ct Tryz.prog 14 [.pointer (some ⟨vb, 0, none⟩), i64 (n : Int), .slice A sizes.length c] B (vH vb x) (fun v B' H' => H' = vH vb x ∧ ∃ A' c', v = .agg (bmc ⟨madeF x.vs.l n sizes, A', c'⟩).toArray ∧ Bm.ro B' ⟨madeF x.vs.l n sizes, A', c'⟩) := by
 have hml := mRvs_len n sizes
 have hvl : x.vs.l.length = x.ms.length := List.length_map ..
 refine Ct.of_body Tryz.func14 rfl (nt := 79) rfl (by kernel_rfl) rfl ?_
 intro N0 w0 R
 refine Cq (fun K1 k1 => ?_)
 refine Cr ?_
 refine Lx.new (allocO ti25) rfl (fun b6 => ?_)
 refine Lx.nil ?_
 refine Xx.tn (k1 _ _ _ _ ?_)
 refine Cq (fun K2 k2 => ?_)
 refine Cr <| Lx.y (mv rfl) rfl <| ?_
 refine Lx.co rfl rfl rfl (VLen_ct vb x _) (Pick.eq) rfl ?_
 refine Lx.y (mv rfl) rfl ?_
 refine Lx.co rfl rfl rfl (Prev_ct vb x _ hk) (Pick.eq) rfl ?_
 refine Lx.y (mv rfl) rfl <| Lx.y (Yx.val (cvW64 rfl U3 U22) (show _ = u64 (BitVec.ofNat 64 (n)) from rfl)) rfl <| Lx.y (bld ti25 pl25 rfl rfl) rfl <| ?_
 refine Lx.new (allocO ti25) rfl (fun b7 => ?_)
 refine Lx.st (stA (d := .bool) sz25 rfl rfl rfl rfl (by show 0 + 4 ≤ 4; omega) rfl) ?_
 refine Lx.nil ?_
 refine Xx.tn (k2 _ _ _ _ ?_)
 refine Cx.cutK (ds' := []) (Sc 0 rfl (Sc 1 rfl (Sc 2 rfl (Sc 6 rfl (Sc 7 rfl (Sc 10 rfl (Sc 11 rfl (Sc 12 rfl (Sc 13 rfl (Sc 14 rfl (Sc 15 rfl (Sc 16 rfl (Sub.nil _))))))))))))) (fun ρ' B' H' => ∃ (A2 : Option Addr) (c2 : Nat), ρ' = [] ∧ B = B' ∧ row b7 25 [u64 (BitVec.ofInt 64 (x.ms.length : Nat)), str (prevF x.vs.l), u64 (BitVec.ofNat 64 n), .slice A2 (mRvs n sizes).length c2] * (sbuf 40 8 A2 (mRvs n sizes).length c2 ((mRvs n sizes).flatMap rvc) * (row b6 25 [.int .u64 0, str [], .int .u64 0, .slice none 0 0] * (vH vb x * R))) = H') ?_ ?_
 ·
  refine Cq (fun K3 k3 => ?_)
  refine Cr <| Lx.y (asg rfl) rfl <| Lx.nil <| ?_
  refine Xx.tn (k3 _ _ _ _ ?_)
  refine Cx.block ?_
  refine Cx.loopK (Sc 0 rfl (Sc 1 rfl (Sc 2 rfl (Sc 6 rfl (Sc 7 rfl (Sc 10 rfl (Sc 11 rfl (Sc 12 rfl (Sc 13 rfl (Sc 14 rfl (Sc 15 rfl (Sc 16 rfl (Sub.nil _))))))))))))) (fun m ρ' B' H' => ∃ (i : Nat) (A2 : Option Addr) (c2 : Nat), (i ≤ sizes.length ∧ i ≤ 5) ∧ m = 5 - i ∧ ρ' = [(8, i64 (i : Int))] ∧ B = B' ∧ row b7 25 [u64 (BitVec.ofInt 64 (x.ms.length : Nat)), str (prevF x.vs.l), u64 (BitVec.ofNat 64 n), .slice A2 i c2] * (sbuf 40 8 A2 i c2 (((mRvs n sizes).take i).flatMap rvc) * (row b6 25 [.int .u64 0, str [], .int .u64 0, .slice none 0 0] * (vH vb x * R))) = H') ⟨0, none, 0, ⟨Nat.zero_le _, Nat.zero_le _⟩, rfl, rfl, rfl, by rw [List.take_zero, List.flatMap_nil, sbuf_nil, one_star]; ac_rfl⟩ (Sc 8 rfl (Sc 0 rfl (Sc 1 rfl (Sc 2 rfl (Sc 6 rfl (Sc 7 rfl (Sc 10 rfl (Sc 11 rfl (Sc 12 rfl (Sc 13 rfl (Sc 14 rfl (Sc 15 rfl (Sc 16 rfl (Sub.nil _)))))))))))))) ?_
  rintro m ρ' B' H' ⟨i, A2, c2, ⟨hi, hi5⟩, rfl, rfl, rfl, rfl⟩
  refine Cq (fun K4 k4 => ?_)
  refine Cq (fun K5 k5 => ?_)
  refine Cr <| Lx.y (mv rfl) rfl <| Lx.y (mv rfl) rfl <| Lx.y (lenV (ty' := 0) U26 rfl) rfl <| Lx.y (lss rfl rfl) rfl <| Lx.y (mv rfl) rfl <| ?_
  refine Xx.ifD (t := 21) rfl (fun h6 => ?_) (fun h6 => ?_)
  ·
   have hlt := h6
   have hlt : i < sizes.length := by omega
   refine Lx.gT rfl rfl rfl <| Lx.y (mv rfl) rfl <| Lx.gT rfl rfl rfl <| Lx.y (lss rfl rfl) rfl <| Lx.y (pickT rfl rfl) rfl <| Lx.nil <| ?_
   refine Xx.tn (k5 _ _ _ _ ?_)
   refine Cx.condD rfl (fun h7 => ?_) (fun h7 => ?_)
   ·
    have h5 := h7
    have h5 : i < 5 := by omega
    obtain ⟨b9, o9, cs9, et9, fz9, hA9, hB9, hv9⟩ := (hRs (by omega)).at1 hlt
    rw [ViE.ints_at hlt] at hv9
    obtain ⟨t1, t2, _⟩ := tmod_b (sizes[i]'hlt) 1000 (by decide)
    obtain ⟨t3, t4⟩ := long_eq (sizes[i]'hlt)
    have htx := textF_len (n * 5 + i) (longOf (sizes[i]'hlt))
    refine Cx.skip ?_
    refine Xx.tn (k4 _ _ _ _ ?_)
    refine Cq (fun K8 k8 => ?_)
    refine Cx.block ?_
    refine Cq (fun K9 k9 => ?_)
    refine Cr <| Lx.y (mv rfl) rfl <| Lx.y (mul rfl rfl (show IntKind.i64.wrap _ = ((n * 5 : Nat) : Int) from (wrap64 (by omega) (by omega)).trans (by omega))) rfl <| Lx.y (mv rfl) rfl <| Lx.y (add rfl rfl (show IntKind.i64.wrap _ = ((n * 5 + i : Nat) : Int) from (wrap64 (by omega) (by omega)).trans (by omega))) rfl <| Lx.y (add rfl rfl (show IntKind.i64.wrap _ = ((n * 5 + i + 1 : Nat) : Int) from (wrap64 (by omega) (by omega)).trans (by omega))) rfl <| Lx.y (Yx.val (cvW64 rfl U3 U22) (show _ = u64 (BitVec.ofNat 64 (n * 5 + i + 1)) from rfl)) rfl <| Lx.y (mv rfl) rfl <| Lx.y (mul rfl rfl (show IntKind.i64.wrap _ = ((n * 5 : Nat) : Int) from (wrap64 (by omega) (by omega)).trans (by omega))) rfl <| Lx.y (mv rfl) rfl <| Lx.y (add rfl rfl (show IntKind.i64.wrap _ = ((n * 5 + i : Nat) : Int) from (wrap64 (by omega) (by omega)).trans (by omega))) rfl <| Lx.y (mv rfl) rfl <| ?_
    refine Lx.y (mv rfl) rfl <| Lx.y (Yx.val (ia (b := b9) (o := o9) U26 sz3 (by rw [← hA9]; rfl) rfl (Int.toNat_natCast _) (by omega) (by omega)) rfl) rfl <| Lx.y (ldB U3 rfl rfl hB9 hv9) rfl <| Lx.y (rem rfl rfl (by decide) rfl) rfl <| Lx.y (add rfl rfl (show IntKind.i64.wrap _ = ((sizes[i]'hlt)).tmod 1000 + 1000 from wrap64 (by omega) (by omega))) rfl <| Lx.y (rem rfl rfl (by decide) (show _ = ((longOf (sizes[i]'hlt) : Nat) : Int) from t3.symm)) rfl <| ?_
    refine Lx.cp rfl rfl rfl (text_ct (n * 5 + i) (longOf (sizes[i]'hlt)) _ (by omega) (by omega)) rfl ?_
    refine Lx.y (bld ti40 pl40 rfl rfl) rfl ?_
    refine Lx.new (allocO ti40) rfl (fun b9x => ?_)
    refine Lx.st (stA (d := .bool) sz40 rfl rfl rfl rfl (by show 0 + 8 ≤ 8; omega) rfl) ?_
    refine Lx.nil ?_
    refine Xx.tn (k9 _ _ _ _ ?_)
    refine Cx.cutK (ds' := []) (Sc 0 rfl (Sc 1 rfl (Sc 2 rfl (Sc 6 rfl (Sc 7 rfl (Sc 8 rfl (Sc 9 rfl (Sc 10 rfl (Sc 11 rfl (Sc 12 rfl (Sc 13 rfl (Sc 14 rfl (Sc 15 rfl (Sc 16 rfl (Sc 17 rfl (Sc 18 rfl (Sc 19 rfl (Sc 20 rfl (Sc 21 rfl (Sc 22 rfl (Sc 23 rfl (Sc 24 rfl (Sc 27 rfl (Sc 28 rfl (Sc 29 rfl (Sc 30 rfl (Sc 31 rfl (Sc 32 rfl (Sc 33 rfl (Sc 34 rfl (Sc 35 rfl (Sc 36 rfl (Sc 37 rfl (Sc 38 rfl (Sc 39 rfl (Sc 40 rfl (Sc 41 rfl (Sc 42 rfl (Sc 43 rfl (Sc 44 rfl (Sc 45 rfl (Sub.nil _)))))))))))))))))))))))))))))))))))))))))) (fun ρ' B' H' => ρ' = [] ∧ B = B' ∧ row b9x 40 (rvc (rRv n i (sizes[i]'hlt))) * (row b7 25 [u64 (BitVec.ofInt 64 (x.ms.length : Nat)), str (prevF x.vs.l), u64 (BitVec.ofNat 64 n), .slice A2 i c2] * (sbuf 40 8 A2 i c2 (((mRvs n sizes).take i).flatMap rvc) * (row b6 25 [.int .u64 0, str [], .int .u64 0, .slice none 0 0] * (vH vb x * R)))) = H') ?_ ?_
    ·
     refine Cq (fun K10 k10 => ?_)
     refine Cr <| Lx.y (mv rfl) rfl <| Lx.y (gtr rfl rfl) rfl <| Lx.y (mv rfl) rfl <| ?_
     refine Xx.ifD (t := 48) rfl (fun h11 => ?_) (fun h11 => ?_)
     ·
      have hn0 := h11
      refine Lx.gT rfl rfl rfl <| Lx.y (mv rfl) rfl <| Lx.gT rfl rfl rfl <| Lx.y (mv rfl) rfl <| Lx.gT rfl rfl rfl <| Lx.y (Yx.val (ia (b := b9) (o := o9) U26 sz3 (by rw [← hA9]; rfl) rfl (Int.toNat_natCast _) (by omega) (by omega)) rfl) rfl <| Lx.gT rfl rfl rfl <| Lx.y (ldB U3 rfl rfl hB9 hv9) rfl <| Lx.gT rfl rfl rfl <| Lx.y (rem rfl rfl (by decide) rfl) rfl <| Lx.gT rfl rfl rfl <| Lx.y (eqI rfl rfl) rfl <| ?_
      refine Lx.y (pickT rfl rfl) rfl <| Lx.nil <| ?_
      refine Xx.tn (k10 _ _ _ _ ?_)
      refine Cx.condD rfl (fun h12 => ?_) (fun h12 => ?_)
      ·
       have ho := h12
       refine Cr <| Lx.y (mv rfl) rfl <| Lx.y (add rfl rfl (show IntKind.i64.wrap _ = ((i + 1 : Nat) : Int) from (wrap64 (by omega) (by omega)).trans (by omega))) rfl <| Lx.y (Yx.val (cvW64 rfl U3 U22) (show _ = u64 (BitVec.ofNat 64 (i + 1)) from rfl)) rfl <| Lx.y (mv rfl) rfl <| Lx.y (Yx.val (cvW64 rfl U3 U22) (show _ = u64 (BitVec.ofNat 64 (n)) from rfl)) rfl <| Lx.y (fa' fo40_6 rfl) rfl <| Lx.y (ld U9 rfl rfl rfl) rfl <| Lx.y (bld ti40 pl40 rfl rfl) rfl <| ?_
       refine Lx.st (stA (d := .bool) sz40 rfl rfl rfl rfl (by show 0 + 8 ≤ 8; omega) rfl) ?_
       refine Lx.nil ?_
       exact Xx.mkK (⟨rfl, rfl, by unfold rRv; rw [if_pos ⟨by omega, ho⟩]; show row b9x _ _ * _ = row b9x _ _ * _; rfl⟩) (Sc 0 rfl (Sc 1 rfl (Sc 2 rfl (Sc 6 rfl (Sc 7 rfl (Sc 8 rfl (Sc 9 rfl (Sc 10 rfl (Sc 11 rfl (Sc 12 rfl (Sc 13 rfl (Sc 14 rfl (Sc 15 rfl (Sc 16 rfl (Sc 17 rfl (Sc 18 rfl (Sc 19 rfl (Sc 20 rfl (Sc 21 rfl (Sc 22 rfl (Sc 23 rfl (Sc 24 rfl (Sc 27 rfl (Sc 28 rfl (Sc 29 rfl (Sc 30 rfl (Sc 31 rfl (Sc 32 rfl (Sc 33 rfl (Sc 34 rfl (Sc 35 rfl (Sc 36 rfl (Sc 37 rfl (Sc 38 rfl (Sc 39 rfl (Sc 40 rfl (Sc 41 rfl (Sc 42 rfl (Sc 43 rfl (Sc 44 rfl (Sc 45 rfl (Sub.nil _))))))))))))))))))))))))))))))))))))))))))
      ·
       have ho := h12
       refine Cx.skip ?_
       exact Xx.mkK (⟨rfl, rfl, by unfold rRv; rw [if_neg (fun e => ho e.2)]; rfl⟩) (Sc 0 rfl (Sc 1 rfl (Sc 2 rfl (Sc 6 rfl (Sc 7 rfl (Sc 8 rfl (Sc 9 rfl (Sc 10 rfl (Sc 11 rfl (Sc 12 rfl (Sc 13 rfl (Sc 14 rfl (Sc 15 rfl (Sc 16 rfl (Sc 17 rfl (Sc 18 rfl (Sc 19 rfl (Sc 20 rfl (Sc 21 rfl (Sc 22 rfl (Sc 23 rfl (Sc 24 rfl (Sc 27 rfl (Sc 28 rfl (Sc 29 rfl (Sc 30 rfl (Sc 31 rfl (Sc 32 rfl (Sc 33 rfl (Sc 34 rfl (Sc 35 rfl (Sc 36 rfl (Sc 37 rfl (Sc 38 rfl (Sc 39 rfl (Sc 40 rfl (Sc 41 rfl (Sc 42 rfl (Sc 43 rfl (Sc 44 rfl (Sc 45 rfl (Sub.nil _))))))))))))))))))))))))))))))))))))))))))
     ·
      have hn0 := h11
      refine Lx.gF rfl rfl rfl rfl <| Lx.gF rfl rfl rfl rfl <| Lx.gF rfl rfl rfl rfl <| Lx.gF rfl rfl rfl rfl <| Lx.gF rfl rfl rfl rfl <| Lx.gF rfl rfl rfl rfl <| Lx.y (pickF rfl rfl) rfl <| Lx.nil <| ?_
      refine Xx.tn (k10 _ _ _ _ ?_)
      refine Cx.condF rfl <| Cx.skip <| ?_
      exact Xx.mkK (⟨rfl, rfl, by unfold rRv; rw [if_neg (fun e => hn0 (by omega))]; rfl⟩) (Sc 0 rfl (Sc 1 rfl (Sc 2 rfl (Sc 6 rfl (Sc 7 rfl (Sc 8 rfl (Sc 9 rfl (Sc 10 rfl (Sc 11 rfl (Sc 12 rfl (Sc 13 rfl (Sc 14 rfl (Sc 15 rfl (Sc 16 rfl (Sc 17 rfl (Sc 18 rfl (Sc 19 rfl (Sc 20 rfl (Sc 21 rfl (Sc 22 rfl (Sc 23 rfl (Sc 24 rfl (Sc 27 rfl (Sc 28 rfl (Sc 29 rfl (Sc 30 rfl (Sc 31 rfl (Sc 32 rfl (Sc 33 rfl (Sc 34 rfl (Sc 35 rfl (Sc 36 rfl (Sc 37 rfl (Sc 38 rfl (Sc 39 rfl (Sc 40 rfl (Sc 41 rfl (Sc 42 rfl (Sc 43 rfl (Sc 44 rfl (Sc 45 rfl (Sub.nil _))))))))))))))))))))))))))))))))))))))))))
    ·rintro ρ' B' H' ⟨rfl, rfl, rfl⟩
     refine Cx.drawn (by kernel_rfl) ?_
     refine Dx.p (i := 0) rfl (by kernel_rfl) (fa' fo25_3 rfl) rfl ?_
     refine Dx.r (i := 1) rfl (by kernel_rfl) (ld U23 rfl rfl rfl) rfl ?_
     refine Dx.r (i := 2) rfl (by kernel_rfl) (ldA U40 rfl sz40 rfl (Co (n := 8) Pe (show ((rvc (rRv n i (sizes[i]'hlt))).drop 0).take 8 = rvc (rRv n i (sizes[i]'hlt)) from rfl)) rfl) rfl ?_
     refine Dx.one (i := 3) (by kernel_rfl) ?_
     refine Dstep.o (i := 3) rfl (Ox.cb rfl rfl rfl (Sealed_ct (rRv n i (sizes[i]'hlt)) _ (by have := rRv_le n i (sizes[i]'hlt); omega))) rfl (fun v B' H' hΦ hB => ?_)
     obtain ⟨rfl, rfl, Y⟩ := hΦ; have E := Y.symm; subst E; clear hB
     refine ⟨Je (Jy (Jt) (ld U23 rfl rfl rfl)) (by kernel_rfl), ?_⟩
     refine Dx.one (i := 4) (by kernel_rfl) ?_
     refine Dstep.o (i := 4) rfl (bslA U23 ti40 rfl rfl (by decide)) rfl (fun v B' H' hΦ hB => ?_)
     obtain ⟨bv, rfl, Y, rfl⟩ := hΦ; have E := Y.symm; subst E; clear hB
     refine ⟨Jy (Jy (Jt) (ld U23 rfl rfl rfl)) (ldA U40 rfl sz40 rfl (Co (n := 8) Pe (show ((rvc (rRv n i (sizes[i]'hlt))).drop 0).take 8 = rvc (rRv n i (sizes[i]'hlt)) from rfl)) rfl), ?_⟩
     refine Dx.one (i := 5) (by kernel_rfl) ?_
     refine Dstep.o (i := 5) rfl (appN (et := 40) (A := A2) (i + 1) (rvc (sealF (rRv n i (sizes[i]'hlt)))) ((((mRvs n sizes).take i) ++ [mRv n i (sizes[i]'hlt)]).flatMap rvc) U23 U23 ti40 rfl rfl rfl rfl rfl (by omega) (by omega) rfl (by rw [rRv_seal]; simp only [List.flatMap_append, List.flatMap_cons, List.flatMap_nil, List.append_nil])) rfl (fun v B' H' hΦ hB => ?_)
     obtain ⟨A3, c3, rfl, hA3, hl3, hc3, hBB, rfl⟩ := hΦ
     have hBB2 := hBB.symm
     subst hBB2
     refine ⟨Jy (Je (Jt) (by kernel_rfl)) (ldA U40 rfl sz40 rfl (Co (n := 8) Pe (show ((rvc (rRv n i (sizes[i]'hlt))).drop 0).take 8 = rvc (rRv n i (sizes[i]'hlt)) from rfl)) rfl), ?_⟩
     refine Dx.p (i := 6) rfl (by kernel_rfl) (fa' fo25_3 rfl) rfl ?_
     refine Dx.one (i := 7) (by kernel_rfl) ?_
     refine Dstep.o0 (i := 7) rfl (stO U23 sz23 rfl rfl rfl (by show 3 < 4; omega) rfl) (fun v B' H' hΦ hB => ?_)
     obtain ⟨Y, rfl⟩ := hΦ; have E := Y.symm; subst E; clear hB v
     refine ⟨Je (Je (Jt) (by kernel_rfl)) (by kernel_rfl), ?_⟩
     refine Dx.done (by kernel_rfl) ?_
     refine Xx.bn ?_
     refine Xx.tn (k8 _ _ _ _ ?_)
     refine Xx.dropB bv ?_
     refine Cr <| Lx.y (mv rfl) rfl <| Lx.y (Yx.val (add rfl rfl (by first | exact wrap64 (by omega) (by omega) | rfl)) (show _ = i64 ((i + 1 : Nat) : Int) from rfl)) rfl <| Lx.y (asg rfl) rfl <| Lx.nil <| ?_
     refine Xx.dropB b9x ?_
     exact Xx.againK ⟨i + 1, A3, c3, ⟨hlt, by omega⟩, rfl, rfl, rfl, (by rw [mRvs_at hlt h5])⟩ (by omega) (Sc 8 rfl (Sc 0 rfl (Sc 1 rfl (Sc 2 rfl (Sc 6 rfl (Sc 7 rfl (Sc 10 rfl (Sc 11 rfl (Sc 12 rfl (Sc 13 rfl (Sc 14 rfl (Sc 15 rfl (Sc 16 rfl (Sub.nil _))))))))))))))
   ·
    have h5 := h7
    have hall : ((mRvs n sizes).take i) = mRvs n sizes := List.take_of_length_le (by rw [hml]; omega)
    have hil : i = (mRvs n sizes).length := by rw [hml]; omega
    refine Cx.exit <| Xx.te <| Xx.te <| Xx.bh <| ?_
    exact Xx.mkK (⟨A2, c2, rfl, rfl, by rw [hall, ← hil]⟩) (Sc 0 rfl (Sc 1 rfl (Sc 2 rfl (Sc 6 rfl (Sc 7 rfl (Sc 10 rfl (Sc 11 rfl (Sc 12 rfl (Sc 13 rfl (Sc 14 rfl (Sc 15 rfl (Sc 16 rfl (Sub.nil _)))))))))))))
  ·
   have hge := h6
   have hall : ((mRvs n sizes).take i) = mRvs n sizes := List.take_of_length_le (by rw [hml]; omega)
   have hil : i = (mRvs n sizes).length := by rw [hml]; omega
   refine Lx.gF rfl rfl rfl rfl <| Lx.gF rfl rfl rfl rfl <| Lx.y (pickF rfl rfl) rfl <| Lx.nil <| ?_
   refine Xx.tn (k5 _ _ _ _ ?_)
   refine Cx.condF rfl <| Cx.exit <| Xx.te <| Xx.te <| Xx.bh <| ?_
   exact Xx.mkK (⟨A2, c2, rfl, rfl, by rw [hall, ← hil]⟩) (Sc 0 rfl (Sc 1 rfl (Sc 2 rfl (Sc 6 rfl (Sc 7 rfl (Sc 10 rfl (Sc 11 rfl (Sc 12 rfl (Sc 13 rfl (Sc 14 rfl (Sc 15 rfl (Sc 16 rfl (Sub.nil _)))))))))))))
 ·rintro ρ' B' H' ⟨A2, c2, rfl, rfl, rfl⟩
  refine Cx.cutK (ds' := []) (Sc 0 rfl (Sc 1 rfl (Sc 2 rfl (Sc 6 rfl (Sc 7 rfl (Sc 10 rfl (Sc 11 rfl (Sc 12 rfl (Sc 13 rfl (Sc 14 rfl (Sc 15 rfl (Sc 16 rfl (Sub.nil _))))))))))))) (fun ρ' B' H' => ∃ (A4 : Option Addr) (c4 : Nat), ρ' = [] ∧ row b7 25 [u64 (BitVec.ofInt 64 (x.ms.length : Nat)), str (prevF x.vs.l), u64 (BitVec.ofNat 64 n), .slice A4 (madeF x.vs.l n sizes).revs.length c4] * (row b6 25 [.int .u64 0, str [], .int .u64 0, .slice none 0 0] * (vH vb x * R)) = H' ∧ B.le B' ∧ Bm.ro B' ⟨madeF x.vs.l n sizes, A4, c4⟩) ?_ ?_
  ·
   refine Cq (fun K13 k13 => ?_)
   refine Cr <| Lx.y (fa' fo25_3 rfl) rfl <| Lx.y (ld U23 rfl rfl rfl) rfl <| Lx.y (lenV (ty' := 0) U23 rfl) rfl <| Lx.y (eqI rfl rfl) rfl <| Lx.nil <| ?_
   refine Xx.tn (k13 _ _ _ _ ?_)
   refine Cx.condD rfl (fun h14 => ?_) (fun h14 => ?_)
   ·
    have hz := h14
    have hz : mRvs n sizes = [] := List.length_eq_zero_iff.1 (by omega)
    refine Cr <| Lx.y (bld ti40 pl40 rfl rfl) rfl <| ?_
    refine Lx.bsl (bslA U23 ti40 rfl rfl (by decide)) rfl (fun bq => ?_)
    refine Lx.y (fa' fo25_3 rfl) rfl ?_
    refine Lx.st (stO U23 sz23 rfl rfl rfl (by show 3 < 4; omega) rfl) ?_
    refine Lx.nil ?_
    refine Xx.closeT bq (rvc tabRv) [] 8 1 1 rfl rfl (Nat.le_refl _) rfl ?_
    refine Xx.freezeT (some ⟨bq, 0, none⟩) fun B3 hB3 hRo hnc _ => ?_
    refine Xx.dropT A2 ?_
    have hrv : (madeF x.vs.l n sizes).revs = [tabRv] := by unfold madeF; simp only; rw [if_pos hz]
    exact Xx.mkK (⟨some ⟨bq, 0, none⟩, 1, rfl, by rw [hrv]; rfl, hB3, fun _ => by show RoS B3 8 _ (madeF x.vs.l n sizes).revs.length ((madeF x.vs.l n sizes).revs.flatMap rvc); rw [hrv]; exact hRo⟩) (Sc 0 rfl (Sc 1 rfl (Sc 2 rfl (Sc 6 rfl (Sc 7 rfl (Sc 10 rfl (Sc 11 rfl (Sc 12 rfl (Sc 13 rfl (Sc 14 rfl (Sc 15 rfl (Sc 16 rfl (Sub.nil _)))))))))))))
   ·
    have hz := h14
    have hz : ¬ mRvs n sizes = [] := fun e => hz (by rw [e]; rfl)
    refine Cx.skip ?_
    refine Xx.freezeT A2 fun B3 hB3 hRo hnc _ => ?_
    have hrv : (madeF x.vs.l n sizes).revs = mRvs n sizes := by unfold madeF; simp only; rw [if_neg hz]
    exact Xx.mkK (⟨A2, c2, rfl, by rw [hrv], hB3, fun _ => by show RoS B3 8 _ (madeF x.vs.l n sizes).revs.length ((madeF x.vs.l n sizes).revs.flatMap rvc); rw [hrv]; exact hRo⟩) (Sc 0 rfl (Sc 1 rfl (Sc 2 rfl (Sc 6 rfl (Sc 7 rfl (Sc 10 rfl (Sc 11 rfl (Sc 12 rfl (Sc 13 rfl (Sc 14 rfl (Sc 15 rfl (Sc 16 rfl (Sub.nil _)))))))))))))
  ·rintro ρ' B' H' ⟨A4, c4, rfl, rfl, hB4, hro4⟩
   rename Frag => B4
   refine Cq (fun K15 k15 => ?_)
   refine Cr <| Lx.y (ldA U25 rfl sz25 rfl (Co (n := 4) (vs := bmc ⟨madeF x.vs.l n sizes, A4, c4⟩) Pe (by unfold bmc madeF; rw [hvl]; rfl)) rfl) rfl <| ?_
   refine Lx.st (stA (d := .bool) sz25 rfl rfl rfl rfl (by show 0 + 4 ≤ 4; omega) rfl) ?_
   refine Lx.nil ?_
   refine Xx.tn (k15 _ _ _ _ ?_)
   refine Cx.ret ?_
   refine Xx.dropB b7 ?_
   exact Xx.retA rfl U25 rfl sz25 rfl rfl ⟨rfl, A4, c4, rfl, hro4⟩ hB4 (by ac_rfl)
end ViI
end Go.Proofs.YthlfffbcligocaaGreat
namespace Go.Proofs.YthlfffbcligocaaGreat
open Go.SL Go.RowKit
set_option maxRecDepth 100000
open VhA VhB VhC VhD VhE VhF VhG VhH VhI VhJ VhK VhL VhM VhN VhO VhP VhQ VhR VhS VhT VhU VhV VhW VhX VhY VhZ ViA ViB
open Jn1 (Rc rcc Jn jnH atV)
open Jn3 (addD allF recsAt fileOf)
open DkB (Dk dkH)
open DkH (fileM)
namespace ViD
theorem sz3 : (Tryz.prog.info? 3).map (·.size) = some 1 := by kernel_rfl
theorem sz4 : (Tryz.prog.info? 4).map (·.size) = some 1 := by kernel_rfl
theorem sz9 : (Tryz.prog.info? 9).map (·.size) = some 1 := by kernel_rfl
theorem sz22 : (Tryz.prog.info? 22).map (·.size) = some 1 := by kernel_rfl
theorem sz23 : (Tryz.prog.info? 23).map (·.size) = some 1 := by kernel_rfl
theorem sz25 : (Tryz.prog.info? 25).map (·.size) = some 4 := by kernel_rfl
theorem sz40 : (Tryz.prog.info? 40).map (·.size) = some 8 := by kernel_rfl
theorem sz43 : (Tryz.prog.info? 43).map (·.size) = some 1 := by kernel_rfl
theorem sz51 : (Tryz.prog.info? 51).map (·.size) = some 1 := by kernel_rfl
theorem sz123 : (Tryz.prog.info? 123).map (·.size) = some 2 := by kernel_rfl
theorem sz149 : (Tryz.prog.info? 149).map (·.size) = some 4 := by kernel_rfl
theorem ti9 : TI Tryz.prog 9 [str []] 1 16 := TI.of (by kernel_rfl) rfl rfl
theorem ti25 : TI Tryz.prog 25 [.int .u64 0, str [], .int .u64 0, .slice none 0 0] 4 56 := TI.of (by kernel_rfl) rfl rfl
theorem ti40 : TI Tryz.prog 40 [.int .i64 0, str [], str [], .int .u64 0, .int .u64 0, str [], str [], .bool false] 8 96 := TI.of (by kernel_rfl) rfl rfl
theorem fo25_3 : FO Tryz.prog 25 3 3 1 false := FO.of U25 rfl rfl (by kernel_rfl) U23 rfl rfl
theorem fo40_6 : FO Tryz.prog 40 6 6 1 false := FO.of U40 rfl rfl (by kernel_rfl) U9 rfl rfl
theorem fo40_7 : FO Tryz.prog 40 7 7 1 false := FO.of U40 rfl rfl (by kernel_rfl) U4 rfl rfl
theorem fo94_1 : FO Tryz.prog 94 1 1 1 false := FO.of U94 rfl rfl (by kernel_rfl) U91 rfl rfl
theorem fo94_2 : FO Tryz.prog 94 2 2 1 false := FO.of U94 rfl rfl (by kernel_rfl) U51 rfl rfl
set_option maxHeartbeats 1000000 in
theorem CR_ro (A : Option Addr) (n c : Nat) (xs : List Value) (B : Frag) (hR : RoS B 8 A n xs) (h1 : xs.all (·.oneCell') = true) (hb : n * 96 ≤ 140737488355328) (hn : n ≤ 4611686018427387904) : Ct Tryz.prog 49 [.slice A n c] B 1 (fun v B' H' => B' = B ∧ ∃ A' c', v = .slice A' n c' ∧ H' = sbuf 40 8 A' n c' xs) := by
 refine Ct.of_body Tryz.func49 rfl (nt := 8) rfl (by kernel_rfl) rfl ?_
 intro N0 w0 R
 rw [one_star]
 refine Cq (fun K1 k1 => ?_)
 refine Cr <| Lx.y (asg rfl) rfl <| Lx.nil <| ?_
 refine Xx.tn (k1 _ _ _ _ ?_)
 refine Cq (fun K2 k2 => ?_)
 refine Cq (fun K3 k3 => ?_)
 refine Cr <| Lx.y (mv rfl) rfl <| Lx.y (eqNilV U23 rfl rfl) rfl <| Lx.nil <| ?_
 refine Xx.tn (k3 _ _ _ _ ?_)
 refine Cx.condB rfl (fun h4 => ?_) (fun h4 => ?_)
 ·
  have hA0 : A = none := by cases A with | none => rfl | some a => exact absurd h4 (by simp)
  have hm0 : n = 0 ∧ xs = [] := by
   obtain ⟨hl, h | ⟨b, o, cs, et, fz, h, _⟩⟩ := hR
   ·exact ⟨h.2, List.length_eq_zero_iff.1 (by rw [hl, h.2, Nat.zero_mul])⟩
   ·rw [hA0] at h; cases h
  obtain ⟨rfl, rfl⟩ := hm0
  refine Cq (fun K5 k5 => ?_)
  refine Cr <| Lx.y (asg rfl) rfl <| Lx.nil <| ?_
  refine Xx.tn (k5 _ _ _ _ ?_)
  refine Cx.ret <| Xx.tr <| ?_
  exact Xx.ret1 rfl rfl ⟨rfl, none, 0, rfl, rfl⟩ (Fl _) (by rw [sbuf_nil, one_star])
 ·
  refine Cx.skip ?_
  refine Xx.tn (k2 _ _ _ _ ?_)
  refine Cq (fun K6 k6 => ?_)
  refine Cr ?_
  refine Lx.o (bslZ U23 ti40) rfl (fun v B' H' hΦ hB => ?_)
  obtain ⟨b0, rfl, hBB, rfl⟩ := hΦ
  have hBB2 := hBB.symm
  subst hBB2
  clear hB
  refine Lx.y (mv rfl) rfl ?_
  refine Lx.o (appB (A := some ⟨b0, 0, none⟩) n xs U23 U23 ti40 rfl rfl hR h1 (by omega) (by omega) (by omega) (List.nil_append _)) rfl (fun v B' H' hΦ hB => ?_)
  obtain ⟨A1, c1, rfl, hA1, hc1, hBB, rfl⟩ := hΦ
  have hBB2 := hBB.symm
  subst hBB2
  clear hB
  refine Lx.y (asg rfl) rfl <| Lx.nil <| ?_
  refine Xx.tn (k6 _ _ _ _ ?_)
  refine Cx.ret ?_
  exact Xx.ret1 rfl rfl ⟨rfl, A1, c1, rfl, rfl⟩ (Fl _) rfl
theorem JAddU_ct (jb : Nat) (j : Jn) (d : Dk) (bodies : List (List UInt8)) (Ab : Option Addr) (cb K L C : Nat) (B : Frag) (hRb : RoS B 1 Ab bodies.length (bodies.map str)) (hc : DkN.Calm K L C d.abs) (hK : K ≤ 900000) (hL : L ≤ 10000000000) (hC : C ≤ 1000000000) (hbs : ∀ s ∈ bodies, s.length ≤ 65536) (hall : (allF bodies).length ≤ 10000000000) (hbl : bodies.length ≤ 1000000) (hjl : j.l.length ≤ 1000000000) (hjf : j.last ≤ 1000000000) :
    Ct Tryz.prog 48 [.pointer (some ⟨jb, 0, none⟩), .slice Ab bodies.length cb] B (jnH jb j * dkH j.db d) (fun v B' H' => ∃ (n e : Int) (j' : Jn) (d' : Dk), v = .tuple #[i64 n, i64 e] ∧ H' = jnH jb j' * dkH j.db d' ∧
      ((e = 50 ∧ (addD d.abs (fileOf j) (allF bodies)).2 ≠ 0 ∧ j' = j ∧ d'.abs = d.abs) ∨ (e = 0 ∧ (addD d.abs (fileOf j) (allF bodies)).2 = 0 ∧ n = (j.l.length : Int) ∧ d'.abs = (addD d.abs (fileOf j) (allF bodies)).1 ∧ ∃ Al5 cl5, j' = { j with last := fileOf j, long := (fileM ((fileOf j : Nat) : Int) d.abs.fs).now.length + (allF bodies).length, l := j.l ++ recsAt (fileOf j) (fileM ((fileOf j : Nat) : Int) d.abs.fs).now.length bodies, Al := Al5, cl := cl5 }))) := by
  refine Ct.mono (Jn3.JAdd_ct jb j d bodies Ab cb K L C B hRb hc hK hL hC hbs hall hbl hjl hjf) ?_
  rintro v B' H' ⟨d', hd', ⟨h1, rfl, rfl⟩ | ⟨h1, rfl, Al, cl, rfl⟩⟩
  · have h2 := Jn4.addD_fail hc h1
    rw [h2] at hd' h1 ⊢
    exact ⟨0, 50, j, d', rfl, rfl, .inl ⟨rfl, h1, rfl, hd'⟩⟩
  · exact ⟨(j.l.length : Int), 0, _, d', rfl, rfl, .inr ⟨rfl, h1, rfl, hd', Al, cl, rfl⟩⟩
theorem blkR_take (b : Bk) {i : Nat} (h : i < (bodd b.revs).length) : (blkR b).take (i + 1 + 1) = (blkR b).take (i + 1) ++ [68 :: (b.revs.getD (bodd b.revs)[i] zRv).body] := by
  unfold blkR
  rw [List.take_succ_cons, List.take_succ_cons, List.take_succ_eq_append_getElem (by rw [List.length_map]; exact h), List.getElem_map]; rfl
set_option maxHeartbeats 2000000 in
theorem Put_ct (vb : Nat) (x : Vm) (j : Jn) (d : Dk) (bm : Bm) (K L C : Nat) (B : Frag) (hk : VmOk B x) (hR : bm.ro B) (hin : BkIn bm.b) (hx : x.ms.length ≤ 800000) (hdb : j.db = x.db) (hc : DkN.Calm K L C d.abs) (hK : K ≤ 900000) (hL : L ≤ 10000000000) (hC : C ≤ 1000000000) (hjl : j.l.length ≤ 1000000000) (hjf : j.last ≤ 1000000000) : Ct Tryz.prog 13 [.pointer (some ⟨vb, 0, none⟩), .agg (bmc bm).toArray] B (vH vb x * (jnH x.jb j * dkH x.db d)) (fun v B' H' => ∃ x' j' d', H' = vH vb x' * (jnH x.jb j' * dkH x.db d') ∧ VmOk B' x' ∧ x'.db = x.db ∧ x'.jb = x.jb ∧ ((followsF bm.b (BitVec.ofInt 64 (x.ms.length : Nat)) (prevF x.vs.l) ≠ 0 ∧ v = i64 (followsF bm.b (BitVec.ofInt 64 (x.ms.length : Nat)) (prevF x.vs.l)) ∧ x' = x ∧ j' = j ∧ d' = d) ∨ (followsF bm.b (BitVec.ofInt 64 (x.ms.length : Nat)) (prevF x.vs.l) = 0 ∧ (∃ i ∈ bodd bm.b.revs, (bm.b.revs.getD i zRv).gone = true) ∧ v = i64 230 ∧ x' = x ∧ j' = j ∧ d' = d) ∨ (followsF bm.b (BitVec.ofInt 64 (x.ms.length : Nat)) (prevF x.vs.l) = 0 ∧ (∀ i ∈ bodd bm.b.revs, (bm.b.revs.getD i zRv).gone = false) ∧ (((addD d.abs (fileOf j) (allF (blkR bm.b))).2 ≠ 0 ∧ v = i64 50 ∧ x' = x ∧ j' = j ∧ d'.abs = d.abs) ∨ ((addD d.abs (fileOf j) (allF (blkR bm.b))).2 = 0 ∧ v = i64 0 ∧ x'.vs = takeV x.vs bm.b j.l.length ∧ d'.abs = (addD d.abs (fileOf j) (allF (blkR bm.b))).1 ∧ ∃ Al5 cl5, j' = { j with last := fileOf j, long := (fileM ((fileOf j : Nat) : Int) d.abs.fs).now.length + (allF (blkR bm.b)).length, l := j.l ++ recsAt (fileOf j) (fileM ((fileOf j : Nat) : Int) d.abs.fs).now.length (blkR bm.b), Al := Al5, cl := cl5 }))))) := by
 have hdead : d.dead = false := hc.dead
 refine Ct.of_body Tryz.func13 rfl (nt := 81) rfl (by kernel_rfl) rfl ?_
 intro N0 w0 R
 simp only [star_assoc]
 refine Cq (fun K1 k1 => ?_)
 refine Cr ?_
 refine Lx.new (boxA rfl) rfl (fun b1 => ?_)
 refine Lx.y (asg rfl) rfl <| Lx.nil <| ?_
 refine Xx.tn (k1 _ _ _ _ ?_)
 refine Cq (fun K2 k2 => ?_)
 refine Cq (fun K3 k3 => ?_)
 refine Cr <| Lx.y (mv rfl) rfl <| ?_
 refine Lx.co rfl rfl rfl (CtC.of (VDead_ct vb x d _) (show Value.bool d.dead = .bool false from by rw [hdead]) rfl) (pickTwo) rfl ?_
 simp only [star_assoc]
 refine Lx.nil ?_
 refine Xx.tn (k3 _ _ _ _ ?_)
 refine Cx.condF rfl <| Cx.skip <| ?_
 refine Xx.tn (k2 _ _ _ _ ?_)
 refine Cq (fun K4 k4 => ?_)
 refine Cq (fun K5 k5 => ?_)
 refine Cx.drawn (by kernel_rfl) ?_
 refine Dx.r (i := 0) rfl (by kernel_rfl) (ldA U25 rfl sz25 rfl (Co (n := 4) Pe (show ((bmc bm).drop 0).take 4 = bmc bm from rfl)) rfl) rfl ?_
 refine Dx.p (i := 1) rfl (by kernel_rfl) (mv rfl) rfl ?_
 refine Dx.p (i := 2) rfl (by kernel_rfl) (nilc rfl) rfl ?_
 refine Dx.p (i := 3) rfl (by kernel_rfl) (fa' fo94_2 rfl) rfl ?_
 refine Dx.r (i := 4) rfl (by kernel_rfl) (ld U51 rfl rfl rfl) rfl ?_
 refine Dx.p (i := 5) rfl (by kernel_rfl) (lenV (ty' := 0) U51 rfl) rfl ?_
 refine Dx.p (i := 6) rfl (by kernel_rfl) (cvW64 rfl U3 U22) rfl ?_
 refine Dx.p (i := 7) rfl (by kernel_rfl) (mv rfl) rfl ?_
 refine Dx.one (i := 8) (by kernel_rfl) ?_
 refine Dstep.o (i := 8) rfl (Ox.co rfl rfl rfl (prev_ct vb x _ hk) (Pick.eq)) rfl (fun v B' H' hΦ hB => ?_)
 obtain ⟨rfl, Y, rfl⟩ := hΦ; have E := Y.symm; subst E; clear hB
 refine ⟨Jy (Jy (Jt) (ldA U25 rfl sz25 rfl (Co (n := 4) Pe (show ((bmc bm).drop 0).take 4 = bmc bm from rfl)) rfl)) (ld U51 rfl rfl rfl), ?_⟩
 refine Dx.one (i := 9) (by kernel_rfl) ?_
 refine Dstep.o (i := 9) rfl (Ox.cb rfl rfl rfl (Follows_ct bm (BitVec.ofInt 64 (x.ms.length : Nat)) (prevF x.vs.l) _ hR hin)) rfl (fun v B' H' hΦ hB => ?_)
 obtain ⟨rfl, rfl, Y⟩ := hΦ; have E := Y.symm; subst E; clear hB
 refine ⟨Jy (Je (Jt) (by kernel_rfl)) (ld U51 rfl rfl rfl), ?_⟩
 refine Dx.p (i := 10) rfl (by kernel_rfl) (asg rfl) rfl ?_
 refine Dx.done (by kernel_rfl) ?_
 refine Xx.tn (k5 _ _ _ _ ?_)
 refine Cq (fun K6 k6 => ?_)
 refine Cr <| Lx.y (mv rfl) rfl <| Lx.y (neI rfl rfl) rfl <| Lx.nil <| ?_
 refine Xx.tn (k6 _ _ _ _ ?_)
 refine Cx.condN rfl (fun h7 => ?_) (fun h7 => ?_)
 ·
  have g1 := h7
  refine Cq (fun K8 k8 => ?_)
  refine Cr <| Lx.y (mv rfl) rfl <| Lx.y (asg rfl) rfl <| Lx.nil <| ?_
  refine Xx.tn (k8 _ _ _ _ ?_)
  refine Cx.ret <| Xx.tr <| ?_
  refine Xx.dropB b1 ?_
  exact Xx.ret1 rfl rfl ⟨x, j, d, rfl, hk.mono (Fl _), rfl, rfl, .inl ⟨g1, rfl, rfl, rfl, rfl⟩⟩ (Fl _) (by ac_rfl)
 ·
  have g1 := h7
  have ho := (follows_ok g1 (prevF_len _)).1
  obtain ⟨hs1, hs2⟩ := blkR_small ho
  have hs3 := blkR_all ho
  have hol := bodd_len bm.b.revs
  have ho3 := ho.2.2.1
  have hfl := frameB_len ho
  have hrl := blkR_len bm.b
  refine Cx.skip ?_
  refine Xx.tn (k4 _ _ _ _ ?_)
  refine Cq (fun K9 k9 => ?_)
  refine Cr <| Lx.y (ldA U25 rfl sz25 rfl (Co (n := 4) Pe (show ((bmc bm).drop 0).take 4 = bmc bm from rfl)) rfl) rfl <| ?_
  refine Lx.cp rfl rfl rfl (Frame_ct bm _ hR (ok_sm ho)) rfl ?_
  refine Lx.y (Yx.val (catS (l := [66]) (l2 := frameB bm.b) rfl rfl (by simp; omega)) (show _ = str (66 :: frameB bm.b) from rfl)) rfl ?_
  refine Lx.bsl (bsl1 U43 ti9 rfl rfl rfl (by decide)) rfl (fun bq => ?_)
  refine Lx.y (asg rfl) rfl <| Lx.nil <| ?_
  refine Xx.tn (k9 _ _ _ _ ?_)
  refine Cq (fun K10 k10 => ?_)
  refine Cq (fun K11 k11 => ?_)
  refine Xx.closeT bq [str (66 :: frameB bm.b)] [] 1 1 1 rfl rfl (Nat.le_refl _) rfl ?_
  refine Cr <| Lx.y (ldA U25 rfl sz25 rfl (Co (n := 4) Pe (show ((bmc bm).drop 0).take 4 = bmc bm from rfl)) rfl) rfl <| ?_
  refine Lx.cb rfl rfl rfl (bodied2_ct bm _ hR (by omega)) rfl ?_
  rintro v7 B7 ⟨Ab, cb, rfl, hRb⟩ hB7
  refine Lx.y (lenV (ty' := 0) U26 rfl) rfl <| Lx.y (mv rfl) rfl <| Lx.nil <| ?_
  refine Xx.tn (k11 _ _ _ _ ?_)
  refine Cx.block ?_
  refine Cx.loopK (Sc 0 rfl (Sc 1 rfl (Sc 3 rfl (Sc 5 rfl (Sc 11 rfl (Sc 12 rfl (Sc 13 rfl (Sc 14 rfl (Sc 15 rfl (Sc 16 rfl (Sc 17 rfl (Sc 18 rfl (Sc 19 rfl (Sc 20 rfl (Sc 21 rfl (Sc 22 rfl (Sc 23 rfl (Sc 24 rfl (Sc 26 rfl (Sc 27 rfl (Sc 28 rfl (Sc 29 rfl (Sc 30 rfl (Sc 31 rfl (Sc 32 rfl (Sub.nil _)))))))))))))))))))))))))) (fun m ρ' B' H' => ∃ (i : Nat) (A2 : Option Addr) (c2 : Nat), (i ≤ (bodd bm.b.revs).length ∧ ∀ t (ht : t < (bodd bm.b.revs).length), t < i → (bm.b.revs.getD (bodd bm.b.revs)[t] zRv).gone = false) ∧ m = (bodd bm.b.revs).length - i ∧ ρ' = [(6, .slice A2 (i + 1) c2), (33, i64 (i : Int))] ∧ B7 = B' ∧ sbuf 9 1 A2 (i + 1) c2 (((blkR bm.b).take (i + 1)).map str) * (row b1 25 (bmc bm) * (vH vb x * (jnH x.jb j * (dkH x.db d * R)))) = H') ⟨0, some ⟨bq, 0, none⟩, 1, ⟨Nat.zero_le _, fun t _ h => absurd h (Nat.not_lt_zero t)⟩, rfl, rfl, rfl, by ac_rfl⟩ (Sc 6 rfl (Sc 33 rfl (Sc 0 rfl (Sc 1 rfl (Sc 3 rfl (Sc 5 rfl (Sc 11 rfl (Sc 12 rfl (Sc 13 rfl (Sc 14 rfl (Sc 15 rfl (Sc 16 rfl (Sc 17 rfl (Sc 18 rfl (Sc 19 rfl (Sc 20 rfl (Sc 21 rfl (Sc 22 rfl (Sc 23 rfl (Sc 24 rfl (Sc 26 rfl (Sc 27 rfl (Sc 28 rfl (Sc 29 rfl (Sc 30 rfl (Sc 31 rfl (Sc 32 rfl (Sub.nil _)))))))))))))))))))))))))))) ?_
  rintro m ρ' B' H' ⟨i, A2, c2, ⟨hi, hng⟩, rfl, rfl, rfl, rfl⟩
  refine Cq (fun K13 k13 => ?_)
  refine Cr <| Lx.y (lss rfl rfl) rfl <| Lx.nil <| ?_
  refine Xx.tn (k13 _ _ _ _ ?_)
  refine Cq (fun K14 k14 => ?_)
  refine Cx.condD rfl (fun h15 => ?_) (fun h15 => ?_)
  ·
   have hlt := h15
   have hlt : i < (bodd bm.b.revs).length := by omega
   obtain ⟨b0, o0, cs0, et0, fz0, hA0, hB0, hv0⟩ := hRb.at1 hlt
   rw [List.getElem?_map, List.getElem?_eq_getElem hlt] at hv0
   have hoi : ((bodd bm.b.revs)[i]'hlt) < bm.b.revs.length := by
    obtain ⟨q, hq, _⟩ := mem_bodd.1 (List.getElem_mem hlt)
    exact (List.getElem?_eq_some_iff.1 hq).1
   obtain ⟨b9, o9, cs9, et9, fz9, hA9, hB9, hc9⟩ := flat_at rvc_len (hR (by omega)) hoi
   have hB9 := hB7 _ _ hB9
   have hgd : bm.b.revs.getD ((bodd bm.b.revs)[i]'hlt) zRv = (bm.b.revs[((bodd bm.b.revs)[i]'hlt)]'hoi) := by rw [List.getD_eq_getElem?_getD, List.getElem?_eq_getElem hoi]; rfl
   have hbl := (hin.revs _ (List.getElem_mem hoi)).1
   refine Cx.skip ?_
   refine Xx.tn (k14 _ _ _ _ ?_)
   refine Cq (fun K16 k16 => ?_)
   refine Cx.block ?_
   refine Cq (fun K17 k17 => ?_)
   refine Cr <| Lx.y (Yx.val (ia (b := b0) (o := o0) U26 sz3 (by rw [← hA0]; rfl) rfl (Int.toNat_natCast _) (by omega) (by omega)) rfl) rfl <| Lx.y (ldB U3 rfl rfl hB0 hv0) rfl <| Lx.y (asg rfl) rfl <| Lx.nil <| ?_
   refine Xx.tn (k17 _ _ _ _ ?_)
   refine Cq (fun K18 k18 => ?_)
   refine Cq (fun K19 k19 => ?_)
   refine Cr <| Lx.y (fa' fo25_3 rfl) rfl <| Lx.y (ld U23 rfl rfl rfl) rfl <| Lx.y (mv rfl) rfl <| Lx.y (Yx.val (ia (b := b9) (o := o9) U23 sz40 (by rw [← hA9]; rfl) rfl (Int.toNat_natCast _) (by omega) (by omega)) rfl) rfl <| Lx.y (fa' fo40_7 rfl) rfl <| Lx.y (ldB U4 rfl rfl hB9 (cell_of hc9 7 (by omega) rfl)) rfl <| Lx.nil <| ?_
   refine Xx.tn (k19 _ _ _ _ ?_)
   refine Cx.condB rfl (fun h20 => ?_) (fun h20 => ?_)
   ·
    have g3 := h20
    refine Cq (fun K21 k21 => ?_)
    refine Cr <| Lx.y (asg rfl) rfl <| Lx.nil <| ?_
    refine Xx.tn (k21 _ _ _ _ ?_)
    refine Cx.ret <| Xx.tr <| ?_
    refine Xx.br ?_
    refine Xx.tr <| Xx.tr <| ?_
    refine Xx.br ?_
    refine Xx.tr ?_
    refine Xx.dropT A2 (Xx.dropB b1 ?_)
    exact Xx.ret1 rfl rfl ⟨x, j, d, rfl, hk.mono (hB7), rfl, rfl, .inr (.inl ⟨g1, ⟨((bodd bm.b.revs)[i]'hlt), List.getElem_mem hlt, by rw [hgd]; exact g3⟩, rfl, rfl, rfl, rfl⟩)⟩ (hB7) (by ac_rfl)
   ·
    have g3 := h20
    refine Cx.skip ?_
    refine Xx.tn (k18 _ _ _ _ ?_)
    refine Cr <| Lx.y (mv rfl) rfl <| Lx.y (fa' fo25_3 rfl) rfl <| Lx.y (ld U23 rfl rfl rfl) rfl <| Lx.y (mv rfl) rfl <| Lx.y (Yx.val (ia (b := b9) (o := o9) U23 sz40 (by rw [← hA9]; rfl) rfl (Int.toNat_natCast _) (by omega) (by omega)) rfl) rfl <| Lx.y (fa' fo40_6 rfl) rfl <| Lx.y (ldB U9 rfl rfl hB9 (cell_of hc9 6 (by omega) rfl)) rfl <| Lx.y (Yx.val (catS (l := [68]) (l2 := (bm.b.revs[((bodd bm.b.revs)[i]'hlt)]'hoi).body) rfl rfl (by simp; omega)) (show _ = str (68 :: (bm.b.revs[((bodd bm.b.revs)[i]'hlt)]'hoi).body) from rfl)) rfl <| ?_
    refine Lx.bsl (bsl1 U43 ti9 rfl rfl rfl (by decide)) rfl (fun bv => ?_)
    refine Lx.o (appN (et := 9) (A := A2) (i + 1 + 1) [str (68 :: (bm.b.revs[((bodd bm.b.revs)[i]'hlt)]'hoi).body)] ((((blkR bm.b).take (i + 1)) ++ [68 :: (bm.b.revs.getD ((bodd bm.b.revs)[i]'hlt) zRv).body]).map str) U43 U43 ti9 rfl rfl rfl rfl rfl (by omega) (by omega) rfl (by rw [List.map_append, hgd]; rfl)) rfl (fun v B' H' hΦ hB => ?_)
    obtain ⟨A3, c3, rfl, hA3, hl3, hc3, hBB, rfl⟩ := hΦ
    have hBB2 := hBB.symm
    subst hBB2
    refine Xx.dropB bv ?_
    clear hB
    refine Lx.y (asg rfl) rfl <| Lx.nil <| Xx.bn <| ?_
    refine Xx.tn (k16 _ _ _ _ ?_)
    refine Cr <| Lx.y (Yx.val (add rfl rfl (by first | exact wrap64 (by omega) (by omega) | rfl)) (show _ = i64 ((i + 1 : Nat) : Int) from rfl)) rfl <| Lx.y (mv rfl) rfl <| Lx.nil <| ?_
    exact Xx.againK ⟨i + 1, A3, c3, ⟨hlt, fun t ht h => (Nat.lt_succ_iff_lt_or_eq.1 h).elim (hng t ht) fun e => by subst e; rw [hgd]; exact g3⟩, rfl, rfl, rfl, (by rw [blkR_take bm.b hlt])⟩ (by omega) (Sc 6 rfl (Sc 33 rfl (Sc 0 rfl (Sc 1 rfl (Sc 3 rfl (Sc 5 rfl (Sc 11 rfl (Sc 12 rfl (Sc 13 rfl (Sc 14 rfl (Sc 15 rfl (Sc 16 rfl (Sc 17 rfl (Sc 18 rfl (Sc 19 rfl (Sc 20 rfl (Sc 21 rfl (Sc 22 rfl (Sc 23 rfl (Sc 24 rfl (Sc 26 rfl (Sc 27 rfl (Sc 28 rfl (Sc 29 rfl (Sc 30 rfl (Sc 31 rfl (Sc 32 rfl (Sub.nil _))))))))))))))))))))))))))))
  ·
   have hge := h15
   obtain rfl : i = (bodd bm.b.revs).length := by omega
   rw [List.take_of_length_le (by rw [hrl]; omega), show (bodd bm.b.revs).length + 1 = (blkR bm.b).length by rw [hrl]; omega]
   have hng2 : ∀ t ∈ bodd bm.b.revs, (bm.b.revs.getD t zRv).gone = false := fun t ht => by
    obtain ⟨q, hq, rfl⟩ := List.getElem_of_mem ht
    exact hng q hq hq
   refine Cx.exit <| Xx.te <| Xx.te <| Xx.bh <| ?_
   refine Xx.tn (k10 _ _ _ _ ?_)
   refine Cq (fun K22 k22 => ?_)
   refine Xx.freezeT A2 fun B4 hB4 hRo hnc _ => ?_
   refine Cr <| Lx.y (mv rfl) rfl <| Lx.y (nilc rfl) rfl <| Lx.y (fa' fo94_1 rfl) rfl <| Lx.y (ld U91 rfl rfl rfl) rfl <| Lx.y (mv rfl) rfl <| ?_
   refine Lx.c rfl rfl rfl (JAddU_ct x.jb j d (blkR bm.b) A2 c2 K L C _ hRo hc hK hL hC (fun s hs => Nat.le_trans (hs1 s hs) (by decide)) (by omega) (by omega) hjl hjf) (show _ = (jnH x.jb j * dkH j.db d) * (row b1 25 (bmc bm) * (vH vb x * R)) by rw [hdb]; ac_rfl) rfl ?_
   rintro v5 B5 H5 ⟨n5, e5, j5, d1, rfl, rfl, h5⟩ hB5
   rw [hdb]
   refine Lx.y (mv rfl) rfl <| Lx.y (ext rfl rfl) rfl <| Lx.y (ext rfl rfl) rfl <| Lx.y (asg rfl) rfl <| Lx.y (asg rfl) rfl <| Lx.nil <| ?_
   refine Xx.tn (k22 _ _ _ _ ?_)
   refine Cq (fun K23 k23 => ?_)
   refine Cq (fun K24 k24 => ?_)
   refine Cr <| Lx.y (mv rfl) rfl <| Lx.y (eqI rfl rfl) rfl <| Lx.nil <| ?_
   refine Xx.tn (k24 _ _ _ _ ?_)
   refine Cx.condD rfl (fun h25 => ?_) (fun h25 => ?_)
   ·
    have g4 := h25
    obtain ⟨ha2, hj5, hd1⟩ : (addD d.abs (fileOf j) (allF (blkR bm.b))).2 ≠ 0 ∧ j5 = j ∧ d1.abs = d.abs := by
     rcases h5 with ⟨_, q1, q2, q3⟩ | ⟨q0, _⟩
     ·exact ⟨q1, q2, q3⟩
     ·omega
    subst hj5
    refine Cq (fun K26 k26 => ?_)
    refine Cr <| Lx.y (mv rfl) rfl <| Lx.y (asg rfl) rfl <| Lx.nil <| ?_
    refine Xx.tn (k26 _ _ _ _ ?_)
    refine Cx.ret <| Xx.tr <| ?_
    refine Xx.dropB b1 ?_
    exact Xx.ret1 rfl rfl ⟨x, _, d1, rfl, hk.mono (Fz hB7 (Fz hB4 hB5)), rfl, rfl, .inr (.inr ⟨g1, hng2, .inl ⟨ha2, congrArg (fun z : Int => i64 z) g4, rfl, rfl, hd1⟩⟩)⟩ (Fz hB7 (Fz hB4 hB5)) (by ac_rfl)
   ·
    have g4 := h25
    obtain ⟨he5, ha2, hn5, hd1, Al5, cl5, hj5⟩ := h5.resolve_left fun e => g4 e.1
    subst hn5
    refine Cx.skip ?_
    refine Xx.tn (k23 _ _ _ _ ?_)
    refine Cq (fun K27 k27 => ?_)
    refine Cq (fun K28 k28 => ?_)
    refine Cr <| Lx.y (mv rfl) rfl <| Lx.y (neI rfl rfl) rfl <| Lx.nil <| ?_
    refine Xx.tn (k28 _ _ _ _ ?_)
    refine Cx.condN rfl (fun h29 => ?_) (fun h29 => ?_)
    ·
     have g5 := h29
     exact absurd he5 g5
    ·
     have g5 := h29
     refine Cx.skip ?_
     refine Xx.tn (k27 _ _ _ _ ?_)
     refine Cq (fun K30 k30 => ?_)
     refine Cr <| Lx.y (fa' fo25_3 rfl) rfl <| Lx.y (ld U23 rfl rfl rfl) rfl <| ?_
     refine Lx.c rfl rfl rfl (CR_ro bm.A bm.b.revs.length bm.c (bm.b.revs.flatMap rvc) _ ((hR ho.2.1).mono (Fz hB7 (Fz hB4 hB5))) (rvc_all _) (by omega) (by omega)) ((one_star _).symm) rfl ?_
     rintro v6 B6 H6 ⟨hBB, A6, c6, rfl, rfl⟩ hB6
     have hBB2 := hBB.symm
     subst hBB2
     clear hB6
     refine Lx.y (fa' fo25_3 rfl) rfl ?_
     refine Lx.st (stO U23 sz23 rfl rfl rfl (by show 3 < 4; omega) rfl) ?_
     refine Lx.nil ?_
     refine Xx.tn (k30 _ _ _ _ ?_)
     refine Cq (fun K31 k31 => ?_)
     refine Xx.freezeT A6 fun B8 hB8 hRo6 hnc6 _ => ?_
     refine Cr <| Lx.y (mv rfl) rfl <| Lx.y (ldA U25 rfl sz25 rfl (Co (n := 4) (vs := bmc ⟨bm.b, A6, c6⟩) Pe rfl) rfl) rfl <| Lx.y (mv rfl) rfl <| ?_
     refine Lx.c rfl rfl rfl (take_ct vb x ⟨bm.b, A6, c6⟩ j.l.length _ (hk.mono (Fz hB7 (Fz hB4 (Fz hB5 hB8)))) (fun _ => hRo6) ho (by omega) (by omega)) (Pick.eq) rfl ?_
     rintro v11 B11 H11 ⟨rfl, x', rfl, hx1, hx2, hx3, hx4, hx5⟩ hB11
     refine Lx.nil ?_
     refine Xx.tn (k31 _ _ _ _ ?_)
     refine Cq (fun K32 k32 => ?_)
     refine Cr <| Lx.y (asg rfl) rfl <| Lx.nil <| ?_
     refine Xx.tn (k32 _ _ _ _ ?_)
     refine Cx.ret ?_
     refine Xx.dropB b1 ?_
     have hBt := Fz hB7 (Fz hB4 (Fz hB5 (Fz hB8 hB11)))
     exact Xx.ret1 rfl rfl ⟨x', j5, d1, rfl, ⟨fun b hb => by rw [hx1] at hb; rcases List.mem_append.1 hb with hb | hb; exact (hk.mono hBt).1 b hb; rw [List.mem_singleton.1 hb]; exact ⟨Bm.ro_mono (fun _ => hRo6) hB11, ho⟩, by rw [hx1, List.length_append, List.length_singleton]; omega⟩, hx4, hx5, .inr (.inr ⟨g1, hng2, .inr ⟨ha2, rfl, by unfold Vm.vs takeV; simp only [hx1, hx2, hx3, List.map_append, List.map_cons, List.map_nil], hd1, Al5, cl5, hj5⟩⟩)⟩ hBt (by ac_rfl)
end ViD
end Go.Proofs.YthlfffbcligocaaGreat
