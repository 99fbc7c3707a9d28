/-
  Both disks: at their beginning, something done to both; a text of one kind; that the disk is no sleeper.
-/
import Derived.Test.YtgcebieihmlaoaaProg
import Derived.Test.YtgcebieihmlaoaaSlj
import Derived.Test.YtgcebieihmlaoaaDkP
namespace Go.Proofs.Ytgcebieihmlaoaa
open Go.SL Go.RowKit
set_option linter.unusedVariables false
set_option linter.unusedSimpArgs false
set_option maxRecDepth 100000
open DkA DkB DkC DkD DkE DkF DkG DkH DkI DkJ DkK DkL DkM DkN DkO DkP
namespace DkQ
theorem sz3 : (Try.prog.info? 3).map (·.size) = some 1 := by kernel_rfl
theorem sz4 : (Try.prog.info? 4).map (·.size) = some 1 := by kernel_rfl
theorem sz9 : (Try.prog.info? 9).map (·.size) = some 1 := by kernel_rfl
theorem sz30 : (Try.prog.info? 30).map (·.size) = some 5 := by kernel_rfl
theorem sz32 : (Try.prog.info? 32).map (·.size) = some 6 := by kernel_rfl
theorem sz37 : (Try.prog.info? 37).map (·.size) = some 7 := by kernel_rfl
theorem ti3 : TI Try.prog 3 [.int .i64 0] 1 8 := TI.of (by kernel_rfl) rfl rfl
theorem ti4 : TI Try.prog 4 [.bool false] 1 1 := TI.of (by kernel_rfl) rfl rfl
theorem ti5 : TI Try.prog 5 [.int .u8 0] 1 1 := TI.of (by kernel_rfl) rfl rfl
theorem ti30 : TI Try.prog 30 [.slice none 0 0, .int .i64 0, .slice none 0 0, .int .i64 0, .bool false] 5 72 := TI.of (by kernel_rfl) rfl rfl
theorem ti32 : TI Try.prog 32 [.pointer none, .slice none 0 0, .int .i64 0, .slice none 0 0, .int .i64 0, .bool false] 6 80 := TI.of (by kernel_rfl) rfl rfl
theorem ti37 : TI Try.prog 37 [.int .i64 0, .int .i64 0, .int .i64 0, .int .i64 0, .int .i64 0, .int .u64 0, .int .i64 0] 7 56 := TI.of (by kernel_rfl) rfl rfl
theorem fo32_0 : FO Try.prog 32 0 0 1 false := FO.of Try.underlying32 rfl rfl (by kernel_rfl) Try.underlying26 rfl rfl
theorem fo32_1 : FO Try.prog 32 1 1 5 true := FO.of Try.underlying32 rfl rfl (by kernel_rfl) Try.underlying30 rfl rfl
theorem fo37_0 : FO Try.prog 37 0 0 1 false := FO.of Try.underlying37 rfl rfl (by kernel_rfl) Try.underlying3 rfl rfl
theorem fo37_1 : FO Try.prog 37 1 1 1 false := FO.of Try.underlying37 rfl rfl (by kernel_rfl) Try.underlying3 rfl rfl
theorem fo37_2 : FO Try.prog 37 2 2 1 false := FO.of Try.underlying37 rfl rfl (by kernel_rfl) Try.underlying3 rfl rfl
theorem fo37_3 : FO Try.prog 37 3 3 1 false := FO.of Try.underlying37 rfl rfl (by kernel_rfl) Try.underlying3 rfl rfl
theorem pl30 : PL Try.prog 30 [(0, 1), (1, 1), (2, 1), (3, 1), (4, 1)] := PL.of Try.underlying30 (by kernel_rfl)
theorem pl32 : PL Try.prog 32 [(0, 1), (1, 5)] := PL.of Try.underlying32 (by kernel_rfl)

theorem Xx.retC {P : Program} {B : Frag} {H R : HP} {ρ : Sl} {fn : Func} {N0 nt size : Nat} {w0 : World} {r : Option Nat} {B0 : Frag} {H' R1 : HP} {Φ : Value → Frag → HP → Prop} {t u : Tmp} {x : Value} {ty : TypeId} {d : TypeDesc} {vs : List Value} {b : Nat} {et : TypeId} {fz : Nat × Nat}
    (hr : fn.results = #[.cell t ty, .tmp u]) (ht : P.underlying ty = some d) (hd : aggB d = true) (hi : (P.info? ty).map (·.size) = some size) (hv : lk ρ t = some (.pointer (some ⟨b, 0, none⟩))) [hp : PickB H b (.cells vs.toArray et fz) R1] (hl : vs.length = size) (hx : lk ρ u = some x)
    (hΦ : Φ (.tuple #[.agg vs.toArray, x]) B H') (hB : B0.le B) (hH : R1 = H' * R) : Xx ⟨P, r, N0, w0, nt⟩ [] (bodyPost P fn (Fin N0 w0 R B0 Φ) .ret) ρ B H := fun a w f bl s => by
  have s' : St N0 B (blk b (.cells vs.toArray et fz) * R1) w := hp.eq ▸ s
  have hl := run_loadVar_row (P := P) w b et ty vs.toArray fz d s'.blk.1 ht (by cases d <;> simp_all [aggB]) (by rw [hi]; simp [hl])
  have h1 := f.get t _ hv
  have h2 := f.get u _ hx
  refine ⟨f.defers, .tuple #[.agg vs.toArray, x], ?_, _, B, H', rfl, hΦ, hB, bl, hH ▸ s'.drop⟩
  simp [results, hr, h1, h2, Sem.run_bind, asAddr, hl]
/-- Something that is done. -/
structure Ac where
  kind : Int
  file : Int
  at_ : Int
  n : Int
  sk : Sk
def acs (x : Ac) : List Value := [i64 x.kind, i64 x.file, i64 x.at_, i64 x.n] ++ scs x.sk
def bcs (db : Nat) (r : Rd) : List Value := .pointer (some ⟨db, 0, none⟩) :: rdc r
theorem tmod_lt (n : Int) : -400 < Int.tmod n 400 ∧ Int.tmod n 400 < 400 := by
  have h1 := Int.tmod_lt_of_pos n (b := 400) (by decide)
  refine ⟨?_, h1⟩
  have h2 := Int.tmod_lt_of_pos (-n) (b := 400) (by decide)
  rw [Int.neg_tmod] at h2
  omega

set_option maxHeartbeats 2000000 in
theorem text_ct (c : UInt8) (n : Nat) (B : Frag) (hn : n ≤ 1000000) : CtP Try.prog 16 [.int .u8 ((c.toNat : Nat) : Int), i64 (n : Int)] B (str (List.replicate n c)) := by
  refine CtB.of_body Try.func16 rfl (nt := 19) rfl (by kernel_rfl) rfl ?_
  intro N0 w0 R
  refine Cx.seq (fun K1 k1 => ?_)
  refine Cx.region ?_
  refine Lx.y (asg rfl) rfl ?_
  refine Lx.nil ?_
  refine Xx.tn (k1 _ _ _ _ ?_)
  refine Cx.seq (fun K2 k2 => ?_)
  refine Cx.region ?_
  refine Lx.o (bslZ Try.underlying80 ti5) rfl (fun v B' H' hΦ hB => ?_)
  obtain ⟨b0, rfl, hBB, rfl⟩ := hΦ
  have hBB2 := hBB.symm
  subst hBB2
  clear hB
  refine Lx.y (asg rfl) rfl ?_
  refine Lx.nil ?_
  refine Xx.tn (k2 _ _ _ _ ?_)
  refine Cx.seq (fun K3 k3 => ?_)
  refine Cx.seq (fun K4 k4 => ?_)
  refine Cx.region ?_
  refine Lx.y (asg rfl) rfl ?_
  refine Lx.nil ?_
  refine Xx.tn (k4 _ _ _ _ ?_)
  refine Cx.block ?_
  refine Cx.loopK (Sub.cons (s := 0) rfl (Sub.cons (s := 1) rfl (Sub.cons (s := 4) rfl (Sub.cons (s := 7) rfl (Sub.nil _))))) (fun m ρ' B' H' => ∃ (i : Nat) (A : Option Addr) (cp : Nat), (i ≤ n) ∧ m = n - i ∧ ρ' = [(5, .slice A i cp), (6, i64 (i : Int))] ∧ B = B' ∧ sbuf 5 1 A i cp (u8s (List.replicate i c)) * R = H') ⟨0, some ⟨b0, 0, none⟩, 0, Nat.zero_le _, rfl, rfl, rfl, rfl⟩ (Sub.cons (s := 5) rfl (Sub.cons (s := 6) rfl (Sub.cons (s := 0) rfl (Sub.cons (s := 1) rfl (Sub.cons (s := 4) rfl (Sub.cons (s := 7) rfl (Sub.nil _))))))) ?_
  rintro m ρ' B' H' ⟨i, A, cp, hi, rfl, rfl, rfl, rfl⟩
  refine Cx.seq (fun K5 k5 => ?_)
  refine Cx.seq (fun K6 k6 => ?_)
  refine Cx.region ?_
  refine Lx.y (mv rfl) rfl ?_
  refine Lx.y (mv rfl) rfl ?_
  refine Lx.y (lss rfl rfl) rfl ?_
  refine Lx.nil ?_
  refine Xx.tn (k6 _ _ _ _ ?_)
  refine Cx.condD rfl (fun h7 => ?_) (fun h7 => ?_)
  · skip
    have hlt := h7
    have hlt : i < n := by omega
    refine Cx.skip ?_
    refine Xx.tn (k5 _ _ _ _ ?_)
    refine Cx.seq (fun K8 k8 => ?_)
    refine Cx.block ?_
    refine Cx.region ?_
    refine Lx.y (mv rfl) rfl ?_
    refine Lx.y (mv rfl) rfl ?_
    refine Lx.bsl (bsl1 Try.underlying80 ti5 rfl rfl rfl (by decide)) rfl (fun bv => ?_)
    refine Lx.o (appN (A := A) (i + 1) [.int .u8 ((c.toNat : Nat) : Int)] (u8s (List.replicate (i + 1) c)) Try.underlying80 Try.underlying80 ti5 rfl rfl rfl rfl rfl (by omega) (by omega) rfl (by rw [List.replicate_succ', u8s_app]; rfl)) rfl (fun v B' H' hΦ hB => ?_)
    obtain ⟨A2, c2, rfl, hA2, hl2, hc2, hBB, rfl⟩ := hΦ
    have hBB2 := hBB.symm
    subst hBB2
    refine Xx.dropB bv ?_
    clear hB
    refine Lx.y (asg rfl) rfl ?_
    refine Lx.nil ?_
    refine Xx.bn ?_
    refine Xx.tn (k8 _ _ _ _ ?_)
    refine Cx.region ?_
    refine Lx.y (mv rfl) rfl ?_
    refine Lx.y (Yx.val (add rfl rfl (by first | exact wrap64 (by omega) (by omega) | rfl)) (show _ = i64 ((i + 1 : Nat) : Int) from rfl)) rfl ?_
    refine Lx.y (asg rfl) rfl ?_
    refine Lx.nil ?_
    exact Xx.againK ⟨i + 1, A2, c2, hlt, rfl, rfl, rfl, rfl⟩ (by omega) (Sub.cons (s := 5) rfl (Sub.cons (s := 6) rfl (Sub.cons (s := 0) rfl (Sub.cons (s := 1) rfl (Sub.cons (s := 4) rfl (Sub.cons (s := 7) rfl (Sub.nil _)))))))
  · skip
    have hge := h7
    obtain rfl : i = n := by omega
    refine Cx.exit ?_
    refine Xx.te ?_
    refine Xx.te ?_
    refine Xx.bh ?_
    refine Xx.tn (k3 _ _ _ _ ?_)
    refine Cx.seq (fun K9 k9 => ?_)
    refine Cx.region ?_
    refine Lx.y (mv rfl) rfl ?_
    refine Lx.y (b2S (A := A) Try.underlying80 Try.underlying5 Try.underlying9 rfl) rfl ?_
    refine Lx.y (asg rfl) rfl ?_
    refine Lx.nil ?_
    refine Xx.tn (k9 _ _ _ _ ?_)
    refine Cx.ret ?_
    refine Xx.drop (H := R) ?_
    exact Xx.rB1 rfl rfl ⟨rfl, rfl⟩ (Frag.le_refl _) rfl

set_option maxHeartbeats 1000000 in
theorem begun_ct (n : Int) (B : Frag) (hn : 0 ≤ n) : Ct Try.prog 9 [i64 n] B 1 (fun v B' H' => B' = B ∧ ∃ db mb, v = .tuple #[.agg (bcs db ⟨[], none, 0, n, 0, false⟩).toArray, .bool true] ∧ H' = dkH db ⟨[], n, false, [], 0, mb, none, 0⟩) := by
  refine Ct.of_body Try.func9 rfl (nt := 21) rfl (by kernel_rfl) rfl ?_
  intro N0 w0 R
  rw [one_star]
  refine Cx.seq (fun K1 k1 => ?_)
  refine Cx.region ?_
  refine Lx.new (allocO ti32) rfl (fun b2 => ?_)
  refine Lx.y (asg rfl) rfl ?_
  refine Lx.nil ?_
  refine Xx.tn (k1 _ _ _ _ ?_)
  refine Cx.seq (fun K2 k2 => ?_)
  refine Cx.region ?_
  refine Lx.y (mv rfl) rfl ?_
  refine Lx.c rfl rfl rfl (New_ct n _) ((one_star _).symm) rfl ?_
  rintro v1 B1 H1 ⟨hBB, hor⟩ hB1
  obtain ⟨_, db, mb, rfl, rfl⟩ := hor.resolve_left (fun h => by have := h.1; omega)
  have hBB2 := hBB.symm
  subst hBB2
  clear hB1
  refine Lx.y (mv rfl) rfl ?_
  refine Lx.y (ext rfl rfl) rfl ?_
  refine Lx.y (ext rfl rfl) rfl ?_
  refine Lx.y (asg rfl) rfl ?_
  refine Lx.y (asg rfl) rfl ?_
  refine Lx.nil ?_
  refine Xx.tn (k2 _ _ _ _ ?_)
  refine Cx.seq (fun K3 k3 => ?_)
  refine Cx.region ?_
  refine Lx.y (mv rfl) rfl ?_
  refine Lx.y (mv rfl) rfl ?_
  refine Lx.y (bld ti30 pl30 rfl rfl) rfl ?_
  refine Lx.y (bld ti32 pl32 rfl rfl) rfl ?_
  refine Lx.y (mv rfl) rfl ?_
  refine Lx.y (Yx.tt (eqI rfl rfl) rfl) rfl ?_
  refine Lx.y (mv rfl) rfl ?_
  refine Lx.gT rfl rfl rfl ?_
  refine Lx.y (mv rfl) rfl ?_
  refine Lx.gT rfl rfl rfl ?_
  refine Lx.y (Yx.tt (neNilP Try.underlying26 rfl rfl) rfl) rfl ?_
  refine Lx.y (pickT rfl rfl) rfl ?_
  refine Lx.st (stA (d := .bool) sz32 rfl rfl rfl rfl (by show 0 + 6 ≤ 6; omega) rfl) ?_
  refine Lx.y (asg rfl) rfl ?_
  refine Lx.nil ?_
  refine Xx.tn (k3 _ _ _ _ ?_)
  refine Cx.ret ?_
  refine Xx.perm (H' := row b2 32 (bcs db ⟨[], none, 0, n, 0, false⟩) * (dkH db ⟨[], n, false, [], 0, mb, none, 0⟩ * R)) ?_ rfl
  exact Xx.retC rfl Try.underlying32 rfl sz32 rfl rfl rfl ⟨rfl, db, mb, rfl, rfl⟩ (Frag.le_refl _) rfl

set_option maxHeartbeats 8000000 in
theorem do_ct (d : Dk) (db : Nat) (r : Rd) (x : Ac) (i k : Nat) (B : Frag) (hc : DkN.Calm k (400 * k) k d.abs) (hr : RdOk B k k r) (hk : k ≤ 100) (hi : i ≤ 1000) (hx : x.kind < 7) : Ct Try.prog 11 [.agg (bcs db r).toArray, .agg (acs x).toArray, i64 (i : Int)] B (dkH db d) (fun v B' H' => ∃ (d' : Dk) (r' : Rd) (ok : Bool), v = .tuple #[.agg (bcs db r').toArray, .bool ok] ∧ DkN.Calm (k + 1) (400 * (k + 1)) (k + 1) d'.abs ∧ RdOk B' (k + 1) (k + 1) r' ∧ H' = dkH db d') := by
  have hF := hc.fit (by omega) (by omega) (by omega)
  obtain ⟨ht1, ht2⟩ := tmod_lt x.n
  obtain ⟨m, hm, hm4⟩ : ∃ m : Nat, (Int.tmod x.n 400 + 400) % 400 = (m : Int) ∧ m < 400 := ⟨((Int.tmod x.n 400 + 400) % 400).toNat, by omega, by omega⟩
  obtain ⟨c, hcc⟩ : ∃ c : UInt8, c = toB (97 + (i : Int) % 26) := ⟨_, rfl⟩
  have hsl : (List.replicate m c).length ≤ 68719476736 := by rw [List.length_replicate]; omega
  have hsl4 : (List.replicate m c).length ≤ 400 := by rw [List.length_replicate]; omega
  refine Ct.of_body Try.func11 rfl (nt := 220) rfl (by kernel_rfl) rfl ?_
  intro N0 w0 R
  refine Cx.seq (fun K1 k1 => ?_)
  refine Cx.region ?_
  refine Lx.new (boxA rfl) rfl (fun b3 => ?_)
  refine Lx.new (boxA rfl) rfl (fun b4 => ?_)
  refine Lx.new (allocO ti32) rfl (fun b6 => ?_)
  refine Lx.y (asg rfl) rfl ?_
  refine Lx.nil ?_
  refine Xx.tn (k1 _ _ _ _ ?_)
  refine Cx.seq (fun K2 k2 => ?_)
  refine Cx.region ?_
  refine Lx.y (mv rfl) rfl ?_
  refine Lx.y (remN rfl rfl (by omega) (by omega)) rfl ?_
  refine Lx.y (add rfl rfl (by first | exact wrap64 (by omega) (by omega) | rfl)) rfl ?_
  refine Lx.y (Yx.val (cvI rfl Try.underlying3 Try.underlying5 (wrap_u8 _)) (show _ = .int .u8 ((c.toNat : Nat) : Int) by rw [hcc])) rfl ?_
  refine Lx.y (fa' fo37_3 rfl) rfl ?_
  refine Lx.y (ld Try.underlying3 rfl rfl rfl) rfl ?_
  refine Lx.y (rem rfl rfl (by decide) rfl) rfl ?_
  refine Lx.y (add rfl rfl (by exact wrap64 (by omega) (by omega))) rfl ?_
  refine Lx.y (Yx.val (remN rfl rfl (by omega) (by omega)) (show _ = i64 (m : Int) by rw [hm])) rfl ?_
  refine Lx.cp rfl rfl rfl (text_ct c m _ (by omega)) rfl ?_
  refine Lx.y (asg rfl) rfl ?_
  refine Lx.nil ?_
  refine Xx.tn (k2 _ _ _ _ ?_)
  refine Cx.seq (fun K3 k3 => ?_)
  refine Cx.region ?_
  refine Lx.y (asg rfl) rfl ?_
  refine Lx.y (asg rfl) rfl ?_
  refine Lx.nil ?_
  refine Xx.tn (k3 _ _ _ _ ?_)
  refine Cx.seq (fun K4 k4 => ?_)
  refine Cx.seq (fun K5 k5 => ?_)
  refine Cx.region ?_
  refine Lx.y (fa' fo37_0 rfl) rfl ?_
  refine Lx.y (ld Try.underlying3 rfl rfl rfl) rfl ?_
  refine Lx.nil ?_
  refine Xx.tn (k5 _ _ _ _ ?_)
  refine Cx.block ?_
  refine Cx.seq (fun K6 k6 => ?_)
  refine Cx.region ?_
  refine Lx.y (eqI rfl rfl) rfl ?_
  refine Lx.y (asg rfl) rfl ?_
  refine Lx.nil ?_
  refine Xx.tn (k6 _ _ _ _ ?_)
  refine Cx.condD rfl (fun h7 => ?_) (fun h7 => ?_)
  · skip
    have hkk : x.kind = 3 := h7
    refine Cx.seq (fun K8 k8 => ?_)
    refine Cx.region ?_
    refine Lx.y (fa' fo32_0 rfl) rfl ?_
    refine Lx.y (ld Try.underlying26 rfl rfl rfl) rfl ?_
    refine Lx.y (fa' fo37_1 rfl) rfl ?_
    refine Lx.y (ld Try.underlying3 rfl rfl rfl) rfl ?_
    refine Lx.y (fa' fo37_2 rfl) rfl ?_
    refine Lx.y (ld Try.underlying3 rfl rfl rfl) rfl ?_
    refine Lx.y (mv rfl) rfl ?_
    refine Lx.c rfl rfl rfl (Write_ct d db x.file x.at_ (List.replicate m c) _ hF hsl) (show _ = dkH db d * (row b6 32 [.pointer none, .slice none 0 0, i64 0, .slice none 0 0, i64 0, .bool false] * (row b4 37 (acs x) * (row b3 32 (bcs db r) * R))) by ac_rfl) rfl ?_
    rintro v1 B1 H1 ⟨rfl, d2, hd2, rfl⟩ hB1
    have hc2 := hc.write x.file x.at_ (List.replicate m c)
    rw [← hd2] at hc2
    refine Lx.y (asg rfl) rfl ?_
    refine Lx.nil ?_
    refine Xx.tn (k8 _ _ _ _ ?_)
    refine Cx.region ?_
    refine Lx.y (fa' fo32_1 rfl) rfl ?_
    refine Lx.y (ldA Try.underlying30 rfl sz30 rfl (Cells.own (n := 5) PickB.eq rfl) rfl) rfl ?_
    refine Lx.y (fa' fo37_1 rfl) rfl ?_
    refine Lx.y (ld Try.underlying3 rfl rfl rfl) rfl ?_
    refine Lx.y (fa' fo37_2 rfl) rfl ?_
    refine Lx.y (ld Try.underlying3 rfl rfl rfl) rfl ?_
    refine Lx.y (mv rfl) rfl ?_
    refine Lx.cb rfl rfl rfl (RChange_ct r 0 x.file x.at_ (List.replicate m c) k k _ (hr.mono hB1 (Nat.le_refl _) (Nat.le_refl _)) (by omega) (by omega) hsl4) rfl ?_
    rintro v2 B2 ⟨r2, e2, rfl, hr2⟩ hB2
    refine Lx.y (mv rfl) rfl ?_
    refine Lx.y (ext rfl rfl) rfl ?_
    refine Lx.y (ext rfl rfl) rfl ?_
    refine Lx.y (fa' fo32_1 rfl) rfl ?_
    refine Lx.st (stA (d := .bool) sz30 rfl rfl rfl rfl (by show 1 + 5 ≤ 6; omega) rfl) ?_
    refine Lx.y (asg rfl) rfl ?_
    refine Lx.nil ?_
    refine Xx.bn ?_
    refine Xx.tn (k4 _ _ _ _ ?_)
    refine Cx.seq (fun K10 k10 => ?_)
    refine Cx.region ?_
    refine Lx.y (ldA Try.underlying32 rfl sz32 rfl (Cells.own (n := 6) PickB.eq rfl) rfl) rfl ?_
    refine Lx.y (mv rfl) rfl ?_
    refine Lx.y (mv rfl) rfl ?_
    refine Lx.y (eqI rfl rfl) rfl ?_
    refine Lx.st (stA (d := .bool) sz32 rfl rfl rfl rfl (by show 0 + 6 ≤ 6; omega) rfl) ?_
    refine Lx.y (asg rfl) rfl ?_
    refine Lx.nil ?_
    refine Xx.tn (k10 _ _ _ _ ?_)
    refine Cx.ret ?_
    refine Xx.dropB b3 (Xx.dropB b4 ?_)
    exact Xx.retC rfl Try.underlying32 rfl sz32 rfl rfl rfl ⟨d2, r2, _, rfl, (hc2.mono (Nat.le_refl (k + 1)) (show 400 * k ≤ 400 * (k + 1) by omega) (Nat.le_refl (k + 1))), hr2, rfl⟩ (Frag.le_trans hB1 hB2) rfl
  · skip
    refine Cx.seq (fun K11 k11 => ?_)
    refine Cx.region ?_
    refine Lx.y (eqI rfl rfl) rfl ?_
    refine Lx.y (asg rfl) rfl ?_
    refine Lx.nil ?_
    refine Xx.tn (k11 _ _ _ _ ?_)
    refine Cx.condD rfl (fun h12 => ?_) (fun h12 => ?_)
    · skip
      refine Cx.seq (fun K13 k13 => ?_)
      refine Cx.region ?_
      refine Lx.y (fa' fo32_0 rfl) rfl ?_
      refine Lx.y (ld Try.underlying26 rfl rfl rfl) rfl ?_
      refine Lx.y (fa' fo37_1 rfl) rfl ?_
      refine Lx.y (ld Try.underlying3 rfl rfl rfl) rfl ?_
      refine Lx.c rfl rfl rfl (Sync_ct d db x.file _ hF) (show _ = dkH db d * (row b6 32 [.pointer none, .slice none 0 0, i64 0, .slice none 0 0, i64 0, .bool false] * (row b4 37 (acs x) * (row b3 32 (bcs db r) * R))) by ac_rfl) rfl ?_
      rintro v1 B1 H1 ⟨rfl, d2, hd2, rfl⟩ hB1
      have hc2 := hc.sync x.file
      rw [← hd2] at hc2
      refine Lx.y (asg rfl) rfl ?_
      refine Lx.nil ?_
      refine Xx.tn (k13 _ _ _ _ ?_)
      refine Cx.region ?_
      refine Lx.y (fa' fo32_1 rfl) rfl ?_
      refine Lx.y (ldA Try.underlying30 rfl sz30 rfl (Cells.own (n := 5) PickB.eq rfl) rfl) rfl ?_
      refine Lx.y (fa' fo37_1 rfl) rfl ?_
      refine Lx.y (ld Try.underlying3 rfl rfl rfl) rfl ?_
      refine Lx.cb rfl rfl rfl (RChange_ct r 1 x.file 0 [] k k _ (hr.mono hB1 (Nat.le_refl _) (Nat.le_refl _)) (by omega) (by omega) (Nat.zero_le _)) rfl ?_
      rintro v2 B2 ⟨r2, e2, rfl, hr2⟩ hB2
      refine Lx.y (mv rfl) rfl ?_
      refine Lx.y (ext rfl rfl) rfl ?_
      refine Lx.y (ext rfl rfl) rfl ?_
      refine Lx.y (fa' fo32_1 rfl) rfl ?_
      refine Lx.st (stA (d := .bool) sz30 rfl rfl rfl rfl (by show 1 + 5 ≤ 6; omega) rfl) ?_
      refine Lx.y (asg rfl) rfl ?_
      refine Lx.nil ?_
      refine Xx.bn ?_
      refine Xx.tn (k4 _ _ _ _ ?_)
      refine Cx.seq (fun K15 k15 => ?_)
      refine Cx.region ?_
      refine Lx.y (ldA Try.underlying32 rfl sz32 rfl (Cells.own (n := 6) PickB.eq rfl) rfl) rfl ?_
      refine Lx.y (mv rfl) rfl ?_
      refine Lx.y (mv rfl) rfl ?_
      refine Lx.y (eqI rfl rfl) rfl ?_
      refine Lx.st (stA (d := .bool) sz32 rfl rfl rfl rfl (by show 0 + 6 ≤ 6; omega) rfl) ?_
      refine Lx.y (asg rfl) rfl ?_
      refine Lx.nil ?_
      refine Xx.tn (k15 _ _ _ _ ?_)
      refine Cx.ret ?_
      refine Xx.dropB b3 (Xx.dropB b4 ?_)
      exact Xx.retC rfl Try.underlying32 rfl sz32 rfl rfl rfl ⟨d2, r2, _, rfl, (hc2.mono (Nat.le_refl (k + 1)) (show 400 * k ≤ 400 * (k + 1) by omega) (Nat.le_refl (k + 1))), hr2, rfl⟩ (Frag.le_trans hB1 hB2) rfl
    · skip
      refine Cx.seq (fun K16 k16 => ?_)
      refine Cx.region ?_
      refine Lx.y (eqI rfl rfl) rfl ?_
      refine Lx.y (asg rfl) rfl ?_
      refine Lx.nil ?_
      refine Xx.tn (k16 _ _ _ _ ?_)
      refine Cx.condD rfl (fun h17 => ?_) (fun h17 => ?_)
      · skip
        refine Cx.seq (fun K18 k18 => ?_)
        refine Cx.region ?_
        refine Lx.y (fa' fo32_0 rfl) rfl ?_
        refine Lx.y (ld Try.underlying26 rfl rfl rfl) rfl ?_
        refine Lx.y (fa' fo37_1 rfl) rfl ?_
        refine Lx.y (ld Try.underlying3 rfl rfl rfl) rfl ?_
        refine Lx.y (fa' fo37_2 rfl) rfl ?_
        refine Lx.y (ld Try.underlying3 rfl rfl rfl) rfl ?_
        refine Lx.c rfl rfl rfl (Cut_ct d db x.file x.at_ _ hF) (show _ = dkH db d * (row b6 32 [.pointer none, .slice none 0 0, i64 0, .slice none 0 0, i64 0, .bool false] * (row b4 37 (acs x) * (row b3 32 (bcs db r) * R))) by ac_rfl) rfl ?_
        rintro v1 B1 H1 ⟨rfl, d2, hd2, rfl⟩ hB1
        have hc2 := hc.cut x.file x.at_
        rw [← hd2] at hc2
        refine Lx.y (asg rfl) rfl ?_
        refine Lx.nil ?_
        refine Xx.tn (k18 _ _ _ _ ?_)
        refine Cx.region ?_
        refine Lx.y (fa' fo32_1 rfl) rfl ?_
        refine Lx.y (ldA Try.underlying30 rfl sz30 rfl (Cells.own (n := 5) PickB.eq rfl) rfl) rfl ?_
        refine Lx.y (fa' fo37_1 rfl) rfl ?_
        refine Lx.y (ld Try.underlying3 rfl rfl rfl) rfl ?_
        refine Lx.y (fa' fo37_2 rfl) rfl ?_
        refine Lx.y (ld Try.underlying3 rfl rfl rfl) rfl ?_
        refine Lx.cb rfl rfl rfl (RChange_ct r 2 x.file x.at_ [] k k _ (hr.mono hB1 (Nat.le_refl _) (Nat.le_refl _)) (by omega) (by omega) (Nat.zero_le _)) rfl ?_
        rintro v2 B2 ⟨r2, e2, rfl, hr2⟩ hB2
        refine Lx.y (mv rfl) rfl ?_
        refine Lx.y (ext rfl rfl) rfl ?_
        refine Lx.y (ext rfl rfl) rfl ?_
        refine Lx.y (fa' fo32_1 rfl) rfl ?_
        refine Lx.st (stA (d := .bool) sz30 rfl rfl rfl rfl (by show 1 + 5 ≤ 6; omega) rfl) ?_
        refine Lx.y (asg rfl) rfl ?_
        refine Lx.nil ?_
        refine Xx.bn ?_
        refine Xx.tn (k4 _ _ _ _ ?_)
        refine Cx.seq (fun K20 k20 => ?_)
        refine Cx.region ?_
        refine Lx.y (ldA Try.underlying32 rfl sz32 rfl (Cells.own (n := 6) PickB.eq rfl) rfl) rfl ?_
        refine Lx.y (mv rfl) rfl ?_
        refine Lx.y (mv rfl) rfl ?_
        refine Lx.y (eqI rfl rfl) rfl ?_
        refine Lx.st (stA (d := .bool) sz32 rfl rfl rfl rfl (by show 0 + 6 ≤ 6; omega) rfl) ?_
        refine Lx.y (asg rfl) rfl ?_
        refine Lx.nil ?_
        refine Xx.tn (k20 _ _ _ _ ?_)
        refine Cx.ret ?_
        refine Xx.dropB b3 (Xx.dropB b4 ?_)
        exact Xx.retC rfl Try.underlying32 rfl sz32 rfl rfl rfl ⟨d2, r2, _, rfl, (hc2.mono (Nat.le_refl (k + 1)) (show 400 * k ≤ 400 * (k + 1) by omega) (Nat.le_refl (k + 1))), hr2, rfl⟩ (Frag.le_trans hB1 hB2) rfl
      · skip
        refine Cx.seq (fun K21 k21 => ?_)
        refine Cx.region ?_
        refine Lx.y (eqI rfl rfl) rfl ?_
        refine Lx.y (asg rfl) rfl ?_
        refine Lx.nil ?_
        refine Xx.tn (k21 _ _ _ _ ?_)
        refine Cx.condD rfl (fun h22 => ?_) (fun h22 => ?_)
        · skip
          refine Cx.seq (fun K23 k23 => ?_)
          refine Cx.region ?_
          refine Lx.y (fa' fo32_0 rfl) rfl ?_
          refine Lx.y (ld Try.underlying26 rfl rfl rfl) rfl ?_
          refine Lx.y (fa' fo37_1 rfl) rfl ?_
          refine Lx.y (ld Try.underlying3 rfl rfl rfl) rfl ?_
          refine Lx.c rfl rfl rfl (Remove_ct d db x.file _ hF) (show _ = dkH db d * (row b6 32 [.pointer none, .slice none 0 0, i64 0, .slice none 0 0, i64 0, .bool false] * (row b4 37 (acs x) * (row b3 32 (bcs db r) * R))) by ac_rfl) rfl ?_
          rintro v1 B1 H1 ⟨rfl, d2, hd2, rfl⟩ hB1
          have hc2 := hc.remove x.file
          rw [← hd2] at hc2
          refine Lx.y (asg rfl) rfl ?_
          refine Lx.nil ?_
          refine Xx.tn (k23 _ _ _ _ ?_)
          refine Cx.region ?_
          refine Lx.y (fa' fo32_1 rfl) rfl ?_
          refine Lx.y (ldA Try.underlying30 rfl sz30 rfl (Cells.own (n := 5) PickB.eq rfl) rfl) rfl ?_
          refine Lx.y (fa' fo37_1 rfl) rfl ?_
          refine Lx.y (ld Try.underlying3 rfl rfl rfl) rfl ?_
          refine Lx.cb rfl rfl rfl (RChange_ct r 3 x.file 0 [] k k _ (hr.mono hB1 (Nat.le_refl _) (Nat.le_refl _)) (by omega) (by omega) (Nat.zero_le _)) rfl ?_
          rintro v2 B2 ⟨r2, e2, rfl, hr2⟩ hB2
          refine Lx.y (mv rfl) rfl ?_
          refine Lx.y (ext rfl rfl) rfl ?_
          refine Lx.y (ext rfl rfl) rfl ?_
          refine Lx.y (fa' fo32_1 rfl) rfl ?_
          refine Lx.st (stA (d := .bool) sz30 rfl rfl rfl rfl (by show 1 + 5 ≤ 6; omega) rfl) ?_
          refine Lx.y (asg rfl) rfl ?_
          refine Lx.nil ?_
          refine Xx.bn ?_
          refine Xx.tn (k4 _ _ _ _ ?_)
          refine Cx.seq (fun K25 k25 => ?_)
          refine Cx.region ?_
          refine Lx.y (ldA Try.underlying32 rfl sz32 rfl (Cells.own (n := 6) PickB.eq rfl) rfl) rfl ?_
          refine Lx.y (mv rfl) rfl ?_
          refine Lx.y (mv rfl) rfl ?_
          refine Lx.y (eqI rfl rfl) rfl ?_
          refine Lx.st (stA (d := .bool) sz32 rfl rfl rfl rfl (by show 0 + 6 ≤ 6; omega) rfl) ?_
          refine Lx.y (asg rfl) rfl ?_
          refine Lx.nil ?_
          refine Xx.tn (k25 _ _ _ _ ?_)
          refine Cx.ret ?_
          refine Xx.dropB b3 (Xx.dropB b4 ?_)
          exact Xx.retC rfl Try.underlying32 rfl sz32 rfl rfl rfl ⟨d2, r2, _, rfl, (hc2.mono (Nat.le_refl (k + 1)) (show 400 * k ≤ 400 * (k + 1) by omega) (Nat.le_refl (k + 1))), hr2, rfl⟩ (Frag.le_trans hB1 hB2) rfl
        · skip
          refine Cx.seq (fun K26 k26 => ?_)
          refine Cx.region ?_
          refine Lx.y (eqI rfl rfl) rfl ?_
          refine Lx.y (asg rfl) rfl ?_
          refine Lx.nil ?_
          refine Xx.tn (k26 _ _ _ _ ?_)
          refine Cx.condD rfl (fun h27 => ?_) (fun h27 => ?_)
          · skip
            have hkk : x.kind = 7 := h27
            exact absurd hkk (by omega)
          · skip
            refine Cx.seq (fun K28 k28 => ?_)
            refine Cx.region ?_
            refine Lx.y (eqI rfl rfl) rfl ?_
            refine Lx.y (asg rfl) rfl ?_
            refine Lx.nil ?_
            refine Xx.tn (k28 _ _ _ _ ?_)
            refine Cx.condD rfl (fun h29 => ?_) (fun h29 => ?_)
            · skip
              have hkk : x.kind = 8 := h29
              exact absurd hkk (by omega)
            · skip
              refine Cx.seq (fun K30 k30 => ?_)
              refine Cx.region ?_
              refine Lx.y (eqI rfl rfl) rfl ?_
              refine Lx.y (asg rfl) rfl ?_
              refine Lx.nil ?_
              refine Xx.tn (k30 _ _ _ _ ?_)
              refine Cx.condD rfl (fun h31 => ?_) (fun h31 => ?_)
              · skip
                have hkk : x.kind = 9 := h31
                exact absurd hkk (by omega)
              · skip
                refine Cx.seq (fun K32 k32 => ?_)
                refine Cx.region ?_
                refine Lx.y (eqI rfl rfl) rfl ?_
                refine Lx.y (asg rfl) rfl ?_
                refine Lx.nil ?_
                refine Xx.tn (k32 _ _ _ _ ?_)
                refine Cx.condD rfl (fun h33 => ?_) (fun h33 => ?_)
                · skip
                  have hkk : x.kind = 10 := h33
                  exact absurd hkk (by omega)
                · skip
                  refine Cx.seq (fun K34 k34 => ?_)
                  refine Cx.region ?_
                  refine Lx.y (fa' fo32_0 rfl) rfl ?_
                  refine Lx.y (ld Try.underlying26 rfl rfl rfl) rfl ?_
                  refine Lx.y (fa' fo37_1 rfl) rfl ?_
                  refine Lx.y (ld Try.underlying3 rfl rfl rfl) rfl ?_
                  refine Lx.y (mv rfl) rfl ?_
                  refine Lx.c rfl rfl rfl (Append_ct d db x.file (List.replicate m c) _ hF hsl) (show _ = dkH db d * (row b6 32 [.pointer none, .slice none 0 0, i64 0, .slice none 0 0, i64 0, .bool false] * (row b4 37 (acs x) * (row b3 32 (bcs db r) * R))) by ac_rfl) rfl ?_
                  rintro v1 B1 H1 ⟨rfl, d2, hd2, rfl⟩ hB1
                  have hc2 := (hc.append x.file (List.replicate m c)).mono (Nat.le_refl (k + 1)) (show _ ≤ 400 * (k + 1) by omega) (Nat.le_refl (k + 1))
                  rw [← hd2] at hc2
                  refine Lx.y (mv rfl) rfl ?_
                  refine Lx.y (ext rfl rfl) rfl ?_
                  refine Lx.y (ext rfl rfl) rfl ?_
                  refine Lx.y (asg rfl) rfl ?_
                  refine Lx.y (asg rfl) rfl ?_
                  refine Lx.nil ?_
                  refine Xx.tn (k34 _ _ _ _ ?_)
                  refine Cx.seq (fun K35 k35 => ?_)
                  refine Cx.region ?_
                  refine Lx.y (fa' fo32_1 rfl) rfl ?_
                  refine Lx.y (ldA Try.underlying30 rfl sz30 rfl (Cells.own (n := 5) PickB.eq rfl) rfl) rfl ?_
                  refine Lx.y (fa' fo37_1 rfl) rfl ?_
                  refine Lx.y (ld Try.underlying3 rfl rfl rfl) rfl ?_
                  refine Lx.y (mv rfl) rfl ?_
                  refine Lx.cb rfl rfl rfl (RAppend_ct r x.file (List.replicate m c) k k _ (hr.mono hB1 (Nat.le_refl _) (Nat.le_refl _)) (by omega) (by omega) hsl4) rfl ?_
                  rintro v2 B2 ⟨r2, a2, e2, rfl, hr2⟩ hB2
                  refine Lx.y (mv rfl) rfl ?_
                  refine Lx.y (ext rfl rfl) rfl ?_
                  refine Lx.y (ext rfl rfl) rfl ?_
                  refine Lx.y (ext rfl rfl) rfl ?_
                  refine Lx.new (allocO ti30) rfl (fun b15 => ?_)
                  refine Lx.st (stA (d := .bool) sz30 rfl rfl rfl rfl (by show 0 + 5 ≤ 5; omega) rfl) ?_
                  refine Lx.y (asg rfl) rfl ?_
                  refine Lx.y (asg rfl) rfl ?_
                  refine Lx.nil ?_
                  refine Xx.tn (k35 _ _ _ _ ?_)
                  refine Cx.seq (fun K37 k37 => ?_)
                  refine Cx.region ?_
                  refine Lx.y (ldA Try.underlying30 rfl sz30 rfl (Cells.own (n := 5) PickB.eq rfl) rfl) rfl ?_
                  refine Lx.y (fa' fo32_1 rfl) rfl ?_
                  refine Lx.st (stA (d := .bool) sz30 rfl rfl rfl rfl (by show 1 + 5 ≤ 6; omega) rfl) ?_
                  refine Lx.nil ?_
                  refine Xx.tn (k37 _ _ _ _ ?_)
                  refine Cx.seq (fun K38 k38 => ?_)
                  refine Cx.region ?_
                  refine Lx.y (ldA Try.underlying32 rfl sz32 rfl (Cells.own (n := 6) PickB.eq rfl) rfl) rfl ?_
                  refine Lx.y (mv rfl) rfl ?_
                  refine Lx.y (mv rfl) rfl ?_
                  refine Lx.y (eqI rfl rfl) rfl ?_
                  refine Lx.y (mv rfl) rfl ?_
                  refine Xx.ifD (t := 55) rfl (fun h39 => ?_) (fun h39 => ?_)
                  · skip
                    refine Lx.gT rfl rfl rfl ?_
                    refine Lx.y (mv rfl) rfl ?_
                    refine Lx.gT rfl rfl rfl ?_
                    refine Lx.y (mv rfl) rfl ?_
                    refine Lx.gT rfl rfl rfl ?_
                    refine Lx.y (eqI rfl rfl) rfl ?_
                    refine Lx.y (pickT rfl rfl) rfl ?_
                    refine Lx.st (stA (d := .bool) sz32 rfl rfl rfl rfl (by show 0 + 6 ≤ 6; omega) rfl) ?_
                    refine Lx.y (asg rfl) rfl ?_
                    refine Lx.nil ?_
                    refine Xx.tn (k38 _ _ _ _ ?_)
                    refine Cx.ret ?_
                    refine Xx.br ?_
                    refine Xx.tr ?_
                    refine Xx.dropB b15 ?_
                    refine Xx.dropB b3 (Xx.dropB b4 ?_)
                    exact Xx.retC rfl Try.underlying32 rfl sz32 rfl rfl rfl ⟨d2, r2, _, rfl, hc2, hr2, rfl⟩ (Frag.le_trans hB1 hB2) rfl
                  · skip
                    refine Lx.gF rfl rfl rfl rfl ?_
                    refine Lx.gF rfl rfl rfl rfl ?_
                    refine Lx.gF rfl rfl rfl rfl ?_
                    refine Lx.y (pickF rfl rfl) rfl ?_
                    refine Lx.st (stA (d := .bool) sz32 rfl rfl rfl rfl (by show 0 + 6 ≤ 6; omega) rfl) ?_
                    refine Lx.y (asg rfl) rfl ?_
                    refine Lx.nil ?_
                    refine Xx.tn (k38 _ _ _ _ ?_)
                    refine Cx.ret ?_
                    refine Xx.br ?_
                    refine Xx.tr ?_
                    refine Xx.dropB b15 ?_
                    refine Xx.dropB b3 (Xx.dropB b4 ?_)
                    exact Xx.retC rfl Try.underlying32 rfl sz32 rfl rfl rfl ⟨d2, r2, _, rfl, hc2, hr2, rfl⟩ (Frag.le_trans hB1 hB2) rfl
end DkQ
end Go.Proofs.Ytgcebieihmlaoaa
