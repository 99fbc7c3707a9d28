/-
  The reference's disk, as far as it stays within its bounds: what it is; its small functions.
-/
import Derived.Test.YtgcebieihmlaoaaProg
import Derived.Test.YtgcebieihmlaoaaSlj
import Derived.Test.YtgcebieihmlaoaaDkN
namespace Go.Proofs.Ytgcebieihmlaoaa
open Go.SL Go.RowKit
set_option linter.unusedVariables false
set_option linter.unusedSimpArgs false
set_option maxRecDepth 100000
open DkA DkB DkC DkD DkE DkF DkG DkH DkI DkJ DkK DkL DkM DkN
namespace DkO
theorem sz3 : (Try.prog.info? 3).map (·.size) = some 1 := by kernel_rfl
theorem sz4 : (Try.prog.info? 4).map (·.size) = some 1 := by kernel_rfl
theorem sz9 : (Try.prog.info? 9).map (·.size) = some 1 := by kernel_rfl
theorem sz27 : (Try.prog.info? 27).map (·.size) = some 1 := by kernel_rfl
theorem sz30 : (Try.prog.info? 30).map (·.size) = some 5 := by kernel_rfl
theorem sz136 : (Try.prog.info? 136).map (·.size) = some 1 := by kernel_rfl
theorem sz138 : (Try.prog.info? 138).map (·.size) = some 4 := by kernel_rfl
theorem ti3 : TI Try.prog 3 [.int .i64 0] 1 8 := TI.of (by kernel_rfl) rfl rfl
theorem ti4 : TI Try.prog 4 [.bool false] 1 1 := TI.of (by kernel_rfl) rfl rfl
theorem ti5 : TI Try.prog 5 [.int .u8 0] 1 1 := TI.of (by kernel_rfl) rfl rfl
theorem ti30 : TI Try.prog 30 [.slice none 0 0, .int .i64 0, .slice none 0 0, .int .i64 0, .bool false] 5 72 := TI.of (by kernel_rfl) rfl rfl
theorem ti138 : TI Try.prog 138 [.int .i64 0, str [], str [], .slice none 0 0] 4 64 := TI.of (by kernel_rfl) rfl rfl
theorem fo30_0 : FO Try.prog 30 0 0 1 false := FO.of Try.underlying30 rfl rfl (by kernel_rfl) Try.underlying27 rfl rfl
theorem fo30_2 : FO Try.prog 30 2 2 1 false := FO.of Try.underlying30 rfl rfl (by kernel_rfl) Try.underlying28 rfl rfl
theorem fo30_3 : FO Try.prog 30 3 3 1 false := FO.of Try.underlying30 rfl rfl (by kernel_rfl) Try.underlying3 rfl rfl
theorem fo138_0 : FO Try.prog 138 0 0 1 false := FO.of Try.underlying138 rfl rfl (by kernel_rfl) Try.underlying3 rfl rfl
theorem fo138_1 : FO Try.prog 138 1 1 1 false := FO.of Try.underlying138 rfl rfl (by kernel_rfl) Try.underlying9 rfl rfl
theorem fo138_3 : FO Try.prog 138 3 3 1 false := FO.of Try.underlying138 rfl rfl (by kernel_rfl) Try.underlying136 rfl rfl

theorem cell_of {cs vs : List Value} {o n : Nat} {v : Value} (h : (cs.drop o).take n = vs) (j : Nat) (hj : j < n) (hv : vs[j]? = some v) : cs[o + j]? = some v := by
  subst h
  rw [List.getElem?_take_of_lt hj, List.getElem?_drop] at hv
  exact hv

/-- A file of the reference: its number, its bytes, those that are sure, of each sector whether it is not. -/
structure Rf where
  n : Int
  now : List UInt8
  sure : List UInt8
  Al : Option Addr
  cl : Nat
  l : List Bool
def rfc (f : Rf) : List Value := [i64 f.n, str f.now, str f.sure, .slice f.Al f.l.length f.cl]
theorem rfc_len (f : Rf) : (rfc f).length = 4 := rfl
def bls (l : List Bool) : List Value := l.map Value.bool
theorem bls_len (l : List Bool) : (bls l).length = l.length := by simp [bls]
theorem bls_all (l : List Bool) : (bls l).all (·.oneCell') = true := by
  rw [List.all_eq_true]; intro v hv; obtain ⟨x, _, rfl⟩ := List.mem_map.1 hv; rfl
theorem rfc_all (l : List Rf) : (l.flatMap rfc).all (·.oneCell') = true := by
  rw [List.all_eq_true]; intro v hv
  obtain ⟨x, _, hx⟩ := List.mem_flatMap.1 hv
  exact List.all_eq_true.1 (show (rfc x).all (·.oneCell') = true from rfl) v hx
structure RfOk (B : Frag) (k : Nat) (f : Rf) : Prop where
  now : f.now.length ≤ 400 * k
  sure : f.sure.length ≤ 400 * k
  len : f.l.length ≤ 8 * k
  ro : RoS B 1 f.Al f.l.length (bls f.l)
theorem RfOk.mono {B B' : Frag} {k k' : Nat} {f : Rf} (h : RfOk B k f) (hB : B.le B') (hk : k ≤ k') : RfOk B' k' f :=
  ⟨Nat.le_trans h.now (by omega), Nat.le_trans h.sure (by omega), Nat.le_trans h.len (by omega), h.ro.mono hB⟩
structure Rd where
  fl : List Rf
  Af : Option Addr
  cf : Nat
  room : Int
  ch : Nat
  off : Bool
def rdc (d : Rd) : List Value := [.slice d.Af d.fl.length d.cf, i64 d.room, .slice none 0 0, i64 ((d.ch : Nat) : Int), .bool d.off]
structure RdOk (B : Frag) (k c : Nat) (d : Rd) : Prop where
  ro : RoS B 4 d.Af d.fl.length (d.fl.flatMap rfc)
  cap : d.fl.length ≤ d.cf
  len : d.fl.length ≤ k
  fs : ∀ f ∈ d.fl, RfOk B k f
  room : 0 ≤ d.room ∧ d.room ≤ 1000000
  ch : d.ch ≤ c
theorem RdOk.mono {B B' : Frag} {k k' c c' : Nat} {d : Rd} (h : RdOk B k c d) (hB : B.le B') (hk : k ≤ k') (hc : c ≤ c') : RdOk B' k' c' d :=
  ⟨h.ro.mono hB, h.cap, Nat.le_trans h.len hk, fun f hf => (h.fs f hf).mono hB hk, h.room, Nat.le_trans h.ch hc⟩

set_option maxHeartbeats 1000000 in
theorem RSec_ct (n : Nat) (B : Frag) (hn : n ≤ 9223372036854775000) : CtP Try.prog 70 [i64 ((n : Nat) : Int)] B (i64 ((sec n : Nat) : Int)) := by
  refine CtB.of_body Try.func70 rfl (nt := 6) rfl (by kernel_rfl) rfl ?_
  intro N0 w0 R
  refine Cx.seq (fun K1 k1 => ?_)
  refine Cx.region ?_
  refine Lx.y (asg rfl) rfl ?_
  refine Lx.nil ?_
  refine Xx.tn (k1 _ _ _ _ ?_)
  refine Cx.seq (fun K2 k2 => ?_)
  refine Cx.region ?_
  refine Lx.y (mv rfl) rfl ?_
  refine Lx.y (Yx.val (add rfl rfl (by first | exact wrap64 (by omega) (by omega) | rfl)) (show _ = i64 ((n + 63 : Nat) : Int) from rfl)) rfl ?_
  refine Lx.y (Yx.val (quoN rfl rfl (by omega) (by decide) (by exact wrap64 (by omega) (by omega))) (show _ = i64 ((sec n : Nat) : Int) from rfl)) rfl ?_
  refine Lx.y (asg rfl) rfl ?_
  refine Lx.nil ?_
  refine Xx.tn (k2 _ _ _ _ ?_)
  refine Cx.ret ?_
  exact Xx.rB1 rfl rfl ⟨rfl, rfl⟩ (Frag.le_refl _) rfl

set_option maxHeartbeats 1000000 in
theorem RFind_ct (d : Rd) (n : Int) (k c0 : Nat) (B : Frag) (h : RdOk B k c0 d) (hk : k ≤ 1000) (hc0 : c0 ≤ 1000000) : CtB Try.prog 66 [.agg (rdc d).toArray, i64 n] B (fun v B' => B' = B ∧ ∃ (at_ : Nat) (is : Bool), v = .tuple #[i64 (at_ : Int), .bool is] ∧ at_ ≤ d.fl.length ∧ (is = true → at_ < d.fl.length)) := by
  obtain ⟨fl, Af, cf, room, ch, off⟩ := d
  obtain ⟨hro, hcap, hlen, hfs, hroom, hch⟩ := h
  simp only at hro hcap hlen hfs hroom hch ⊢
  refine CtB.of_body Try.func66 rfl (nt := 40) rfl (by kernel_rfl) rfl ?_
  intro N0 w0 R
  refine Cx.seq (fun K1 k1 => ?_)
  refine Cx.region ?_
  refine Lx.new (boxA rfl) rfl (fun b2 => ?_)
  refine Lx.y (asg rfl) rfl ?_
  refine Lx.y (asg rfl) rfl ?_
  refine Lx.nil ?_
  refine Xx.tn (k1 _ _ _ _ ?_)
  refine Cx.seq (fun K2 k2 => ?_)
  refine Cx.region ?_
  refine Lx.y (asg rfl) rfl ?_
  refine Lx.nil ?_
  refine Xx.tn (k2 _ _ _ _ ?_)
  refine Cx.seq (fun K3 k3 => ?_)
  refine Cx.block ?_
  refine Cx.loopK (Sub.cons (s := 0) rfl (Sub.cons (s := 1) rfl (Sub.cons (s := 2) rfl (Sub.cons (s := 4) rfl (Sub.cons (s := 5) rfl (Sub.nil _)))))) (fun m ρ' B' H' => ∃ (i : Nat), (i ≤ fl.length) ∧ m = fl.length - i ∧ ρ' = [(6, i64 (i : Int))] ∧ B = B' ∧ row b2 30 (rdc ⟨fl, Af, cf, room, ch, off⟩) * R = H') ⟨0, Nat.zero_le _, rfl, rfl, rfl, rfl⟩ (Sub.cons (s := 6) rfl (Sub.cons (s := 0) rfl (Sub.cons (s := 1) rfl (Sub.cons (s := 2) rfl (Sub.cons (s := 4) rfl (Sub.cons (s := 5) rfl (Sub.nil _))))))) ?_
  rintro m ρ' B' H' ⟨i, hi, rfl, rfl, rfl, rfl⟩
  refine Cx.seq (fun K4 k4 => ?_)
  refine Cx.seq (fun K5 k5 => ?_)
  refine Cx.region ?_
  refine Lx.y (mv rfl) rfl ?_
  refine Lx.y (fa' fo30_0 rfl) rfl ?_
  refine Lx.y (ld Try.underlying27 rfl rfl rfl) rfl ?_
  refine Lx.y (lenV (ty' := 0) Try.underlying27 rfl) rfl ?_
  refine Lx.y (lss rfl rfl) rfl ?_
  refine Lx.y (mv rfl) rfl ?_
  refine Xx.ifD (t := 12) rfl (fun h6 => ?_) (fun h6 => ?_)
  · skip
    have hlt : (i : Int) < (fl.length : Int) := h6
    have hlt : i < fl.length := by omega
    obtain ⟨b0, o0, cs0, et0, fz0, rfl, hB0, hc0⟩ := flat_at rfc_len hro hlt
    refine Lx.gT rfl rfl rfl ?_
    refine Lx.y (fa' fo30_0 rfl) rfl ?_
    refine Lx.gT rfl rfl rfl ?_
    refine Lx.y (ld Try.underlying27 rfl rfl rfl) rfl ?_
    refine Lx.gT rfl rfl rfl ?_
    refine Lx.y (mv rfl) rfl ?_
    refine Lx.gT rfl rfl rfl ?_
    refine Lx.y (ia Try.underlying27 sz138 rfl rfl (by first | exact Int.toNat_natCast _ | rfl) (by omega) (by omega)) rfl ?_
    refine Lx.gT rfl rfl rfl ?_
    refine Lx.y (fa' fo138_0 rfl) rfl ?_
    refine Lx.gT rfl rfl rfl ?_
    refine Lx.y (ldB Try.underlying3 rfl rfl hB0 (cell_of hc0 0 (by omega) rfl)) rfl ?_
    refine Lx.gT rfl rfl rfl ?_
    refine Lx.y (mv rfl) rfl ?_
    refine Lx.gT rfl rfl rfl ?_
    refine Lx.y (lss rfl rfl) rfl ?_
    refine Lx.y (pickT rfl rfl) rfl ?_
    refine Lx.nil ?_
    refine Xx.tn (k5 _ _ _ _ ?_)
    refine Cx.condD rfl (fun h7 => ?_) (fun h7 => ?_)
    · skip
      refine Cx.skip ?_
      refine Xx.tn (k4 _ _ _ _ ?_)
      refine Cx.block ?_
      refine Cx.region ?_
      refine Lx.y (mv rfl) rfl ?_
      refine Lx.y (Yx.val (add rfl rfl (by first | exact wrap64 (by omega) (by omega) | rfl)) (show _ = i64 ((i + 1 : Nat) : Int) from rfl)) rfl ?_
      refine Lx.y (asg rfl) rfl ?_
      refine Lx.nil ?_
      refine Xx.bn ?_
      exact Xx.againK ⟨i + 1, hlt, rfl, rfl, rfl, rfl⟩ (by omega) (Sub.cons (s := 6) rfl (Sub.cons (s := 0) rfl (Sub.cons (s := 1) rfl (Sub.cons (s := 2) rfl (Sub.cons (s := 4) rfl (Sub.cons (s := 5) rfl (Sub.nil _)))))))
    · skip
      refine Cx.exit ?_
      refine Xx.te ?_
      refine Xx.te ?_
      refine Xx.bh ?_
      refine Xx.tn (k3 _ _ _ _ ?_)
      refine Cx.seq (fun K8 k8 => ?_)
      refine Cx.drawn (by kernel_rfl) ?_
      refine Dx.p (i := 0) rfl (by kernel_rfl) (mv rfl) rfl ?_
      refine Dx.p (i := 1) rfl (by kernel_rfl) (mv rfl) rfl ?_
      refine Dx.p (i := 2) rfl (by kernel_rfl) (fa' fo30_0 rfl) rfl ?_
      refine Dx.r (i := 3) rfl (by kernel_rfl) (ld Try.underlying27 rfl rfl rfl) rfl ?_
      refine Dx.p (i := 4) rfl (by kernel_rfl) (lenV (ty' := 0) Try.underlying27 rfl) rfl ?_
      refine Dx.p (i := 5) rfl (by kernel_rfl) (lss rfl rfl) rfl ?_
      refine Dx.p (i := 6) rfl (by kernel_rfl) (mv rfl) rfl ?_
      refine Xx.ifD (t := 30) rfl (fun h9 => ?_) (fun h9 => ?_)
      · skip
        have hlt : (i : Int) < (fl.length : Int) := h9
        have hlt : i < fl.length := by omega
        try obtain ⟨b0, o0, cs0, et0, fz0, rfl, hB0, hc0⟩ := flat_at rfc_len hro hlt
        refine Dx.pT (i := 7) rfl rfl rfl rfl (by kernel_rfl) (fa' fo30_0 rfl) rfl ?_
        refine Dx.rT (i := 8) rfl rfl rfl rfl (by kernel_rfl) (ld Try.underlying27 rfl rfl rfl) rfl ?_
        refine Dx.pT (i := 9) rfl rfl rfl rfl (by kernel_rfl) (mv rfl) rfl ?_
        refine Dx.pT (i := 10) rfl rfl rfl rfl (by kernel_rfl) (ia Try.underlying27 sz138 rfl rfl (by first | exact Int.toNat_natCast _ | rfl) (by omega) (by omega)) rfl ?_
        refine Dx.pT (i := 11) rfl rfl rfl rfl (by kernel_rfl) (fa' fo138_0 rfl) rfl ?_
        refine Dx.rT (i := 12) rfl rfl rfl rfl (by kernel_rfl) (ldB Try.underlying3 rfl rfl hB0 (cell_of hc0 0 (by omega) rfl)) rfl ?_
        refine Dx.pT (i := 13) rfl rfl rfl rfl (by kernel_rfl) (mv rfl) rfl ?_
        refine Dx.pT (i := 14) rfl rfl rfl rfl (by kernel_rfl) (eqI rfl rfl) rfl ?_
        refine Dx.p (i := 15) rfl (by kernel_rfl) (pickT rfl rfl) rfl ?_
        refine Dx.p (i := 16) rfl (by kernel_rfl) (asg rfl) rfl ?_
        refine Dx.p (i := 17) rfl (by kernel_rfl) (asg rfl) rfl ?_
        refine Dx.done (by kernel_rfl) ?_
        refine Xx.tn (k8 _ _ _ _ ?_)
        refine Cx.ret ?_
        exact Xx.dropB b2 (Xx.rB2 rfl rfl rfl ⟨rfl, i, _, rfl, hi, fun _ => hlt⟩ (Frag.le_refl _) rfl)
      · skip
        have hlt2 := h9
        refine Dx.pF (i := 7) rfl (fun _ h => by cases h) rfl rfl rfl (by kernel_rfl) rfl ?_
        refine Dx.pF (i := 8) rfl (fun _ h => by cases h) rfl rfl rfl (by kernel_rfl) rfl ?_
        refine Dx.pF (i := 9) rfl (fun _ h => by cases h) rfl rfl rfl (by kernel_rfl) rfl ?_
        refine Dx.pF (i := 10) rfl (fun _ h => by cases h) rfl rfl rfl (by kernel_rfl) rfl ?_
        refine Dx.pF (i := 11) rfl (fun _ h => by cases h) rfl rfl rfl (by kernel_rfl) rfl ?_
        refine Dx.pF (i := 12) rfl (fun _ h => by cases h) rfl rfl rfl (by kernel_rfl) rfl ?_
        refine Dx.pF (i := 13) rfl (fun _ h => by cases h) rfl rfl rfl (by kernel_rfl) rfl ?_
        refine Dx.pF (i := 14) rfl (fun _ h => by cases h) rfl rfl rfl (by kernel_rfl) rfl ?_
        refine Dx.p (i := 15) rfl (by kernel_rfl) (pickF rfl rfl) rfl ?_
        refine Dx.p (i := 16) rfl (by kernel_rfl) (asg rfl) rfl ?_
        refine Dx.p (i := 17) rfl (by kernel_rfl) (asg rfl) rfl ?_
        refine Dx.done (by kernel_rfl) ?_
        refine Xx.tn (k8 _ _ _ _ ?_)
        refine Cx.ret ?_
        exact Xx.dropB b2 (Xx.rB2 rfl rfl rfl ⟨rfl, i, _, rfl, hi, fun e => (by cases e)⟩ (Frag.le_refl _) rfl)
  · skip
    have hno := h6
    refine Lx.gF rfl rfl rfl rfl ?_
    refine Lx.gF rfl rfl rfl rfl ?_
    refine Lx.gF rfl rfl rfl rfl ?_
    refine Lx.gF rfl rfl rfl rfl ?_
    refine Lx.gF rfl rfl rfl rfl ?_
    refine Lx.gF rfl rfl rfl rfl ?_
    refine Lx.gF rfl rfl rfl rfl ?_
    refine Lx.gF rfl rfl rfl rfl ?_
    refine Lx.y (pickF rfl rfl) rfl ?_
    refine Lx.nil ?_
    refine Xx.tn (k5 _ _ _ _ ?_)
    refine Cx.condF rfl ?_
    refine Cx.exit ?_
    refine Xx.te ?_
    refine Xx.te ?_
    refine Xx.bh ?_
    refine Xx.tn (k3 _ _ _ _ ?_)
    refine Cx.seq (fun K10 k10 => ?_)
    refine Cx.drawn (by kernel_rfl) ?_
    refine Dx.p (i := 0) rfl (by kernel_rfl) (mv rfl) rfl ?_
    refine Dx.p (i := 1) rfl (by kernel_rfl) (mv rfl) rfl ?_
    refine Dx.p (i := 2) rfl (by kernel_rfl) (fa' fo30_0 rfl) rfl ?_
    refine Dx.r (i := 3) rfl (by kernel_rfl) (ld Try.underlying27 rfl rfl rfl) rfl ?_
    refine Dx.p (i := 4) rfl (by kernel_rfl) (lenV (ty' := 0) Try.underlying27 rfl) rfl ?_
    refine Dx.p (i := 5) rfl (by kernel_rfl) (lss rfl rfl) rfl ?_
    refine Dx.p (i := 6) rfl (by kernel_rfl) (mv rfl) rfl ?_
    refine Xx.ifD (t := 30) rfl (fun h11 => ?_) (fun h11 => ?_)
    · skip
      have hlt : (i : Int) < (fl.length : Int) := h11
      have hlt : i < fl.length := by omega
      try obtain ⟨b0, o0, cs0, et0, fz0, rfl, hB0, hc0⟩ := flat_at rfc_len hro hlt
      refine Dx.pT (i := 7) rfl rfl rfl rfl (by kernel_rfl) (fa' fo30_0 rfl) rfl ?_
      refine Dx.rT (i := 8) rfl rfl rfl rfl (by kernel_rfl) (ld Try.underlying27 rfl rfl rfl) rfl ?_
      refine Dx.pT (i := 9) rfl rfl rfl rfl (by kernel_rfl) (mv rfl) rfl ?_
      refine Dx.pT (i := 10) rfl rfl rfl rfl (by kernel_rfl) (ia Try.underlying27 sz138 rfl rfl (by first | exact Int.toNat_natCast _ | rfl) (by omega) (by omega)) rfl ?_
      refine Dx.pT (i := 11) rfl rfl rfl rfl (by kernel_rfl) (fa' fo138_0 rfl) rfl ?_
      refine Dx.rT (i := 12) rfl rfl rfl rfl (by kernel_rfl) (ldB Try.underlying3 rfl rfl hB0 (cell_of hc0 0 (by omega) rfl)) rfl ?_
      refine Dx.pT (i := 13) rfl rfl rfl rfl (by kernel_rfl) (mv rfl) rfl ?_
      refine Dx.pT (i := 14) rfl rfl rfl rfl (by kernel_rfl) (eqI rfl rfl) rfl ?_
      refine Dx.p (i := 15) rfl (by kernel_rfl) (pickT rfl rfl) rfl ?_
      refine Dx.p (i := 16) rfl (by kernel_rfl) (asg rfl) rfl ?_
      refine Dx.p (i := 17) rfl (by kernel_rfl) (asg rfl) rfl ?_
      refine Dx.done (by kernel_rfl) ?_
      refine Xx.tn (k10 _ _ _ _ ?_)
      refine Cx.ret ?_
      exact Xx.dropB b2 (Xx.rB2 rfl rfl rfl ⟨rfl, i, _, rfl, hi, fun _ => hlt⟩ (Frag.le_refl _) rfl)
    · skip
      have hlt2 := h11
      refine Dx.pF (i := 7) rfl (fun _ h => by cases h) rfl rfl rfl (by kernel_rfl) rfl ?_
      refine Dx.pF (i := 8) rfl (fun _ h => by cases h) rfl rfl rfl (by kernel_rfl) rfl ?_
      refine Dx.pF (i := 9) rfl (fun _ h => by cases h) rfl rfl rfl (by kernel_rfl) rfl ?_
      refine Dx.pF (i := 10) rfl (fun _ h => by cases h) rfl rfl rfl (by kernel_rfl) rfl ?_
      refine Dx.pF (i := 11) rfl (fun _ h => by cases h) rfl rfl rfl (by kernel_rfl) rfl ?_
      refine Dx.pF (i := 12) rfl (fun _ h => by cases h) rfl rfl rfl (by kernel_rfl) rfl ?_
      refine Dx.pF (i := 13) rfl (fun _ h => by cases h) rfl rfl rfl (by kernel_rfl) rfl ?_
      refine Dx.pF (i := 14) rfl (fun _ h => by cases h) rfl rfl rfl (by kernel_rfl) rfl ?_
      refine Dx.p (i := 15) rfl (by kernel_rfl) (pickF rfl rfl) rfl ?_
      refine Dx.p (i := 16) rfl (by kernel_rfl) (asg rfl) rfl ?_
      refine Dx.p (i := 17) rfl (by kernel_rfl) (asg rfl) rfl ?_
      refine Dx.done (by kernel_rfl) ?_
      refine Xx.tn (k10 _ _ _ _ ?_)
      refine Cx.ret ?_
      exact Xx.dropB b2 (Xx.rB2 rfl rfl rfl ⟨rfl, i, _, rfl, hi, fun e => (by cases e)⟩ (Frag.le_refl _) rfl)

set_option maxHeartbeats 1000000 in
theorem RUsed_ct (d : Rd) (k c0 : Nat) (B : Frag) (h : RdOk B k c0 d) (hk : k ≤ 1000) (hc0 : c0 ≤ 1000000) : CtB Try.prog 71 [.agg (rdc d).toArray] B (fun v B' => B' = B ∧ ∃ (u : Nat), v = i64 (u : Int) ∧ u ≤ 10000000) := by
  obtain ⟨fl, Af, cf, room, ch, off⟩ := d
  obtain ⟨hro, hcap, hlen, hfs, hroom, hch⟩ := h
  simp only at hro hcap hlen hfs hroom hch ⊢
  refine CtB.of_body Try.func71 rfl (nt := 23) rfl (by kernel_rfl) rfl ?_
  intro N0 w0 R
  refine Cx.seq (fun K1 k1 => ?_)
  refine Cx.region ?_
  refine Lx.new (boxA rfl) rfl (fun b2 => ?_)
  refine Lx.y (asg rfl) rfl ?_
  refine Lx.nil ?_
  refine Xx.tn (k1 _ _ _ _ ?_)
  refine Cx.seq (fun K2 k2 => ?_)
  refine Cx.region ?_
  refine Lx.y (asg rfl) rfl ?_
  refine Lx.nil ?_
  refine Xx.tn (k2 _ _ _ _ ?_)
  refine Cx.seq (fun K3 k3 => ?_)
  refine Cx.seq (fun K4 k4 => ?_)
  refine Cx.region ?_
  refine Lx.y (asg rfl) rfl ?_
  refine Lx.nil ?_
  refine Xx.tn (k4 _ _ _ _ ?_)
  refine Cx.block ?_
  refine Cx.loopK (Sub.cons (s := 0) rfl (Sub.cons (s := 1) rfl (Sub.cons (s := 2) rfl (Sub.nil _)))) (fun m ρ' B' H' => ∃ (i u : Nat), (i ≤ fl.length ∧ u ≤ i * 10000) ∧ m = fl.length - i ∧ ρ' = [(3, i64 (u : Int)), (4, i64 (i : Int))] ∧ B = B' ∧ row b2 30 (rdc ⟨fl, Af, cf, room, ch, off⟩) * R = H') ⟨0, 0, ⟨Nat.zero_le _, Nat.le_refl _⟩, rfl, rfl, rfl, rfl⟩ (Sub.cons (s := 3) rfl (Sub.cons (s := 4) rfl (Sub.cons (s := 0) rfl (Sub.cons (s := 1) rfl (Sub.cons (s := 2) rfl (Sub.nil _)))))) ?_
  rintro m ρ' B' H' ⟨i, u, ⟨hi, hu⟩, rfl, rfl, rfl, rfl⟩
  refine Cx.seq (fun K5 k5 => ?_)
  refine Cx.seq (fun K6 k6 => ?_)
  refine Cx.region ?_
  refine Lx.y (mv rfl) rfl ?_
  refine Lx.y (fa' fo30_0 rfl) rfl ?_
  refine Lx.y (ld Try.underlying27 rfl rfl rfl) rfl ?_
  refine Lx.y (lenV (ty' := 0) Try.underlying27 rfl) rfl ?_
  refine Lx.y (lss rfl rfl) rfl ?_
  refine Lx.nil ?_
  refine Xx.tn (k6 _ _ _ _ ?_)
  refine Cx.condD rfl (fun h7 => ?_) (fun h7 => ?_)
  · skip
    have hlt : (i : Int) < (fl.length : Int) := h7
    have hlt : i < fl.length := by omega
    have hnow := (hfs _ (List.getElem_mem hlt)).now
    obtain ⟨b0, o0, cs0, et0, fz0, rfl, hB0, hc0⟩ := flat_at rfc_len hro hlt
    refine Cx.skip ?_
    refine Xx.tn (k5 _ _ _ _ ?_)
    refine Cx.seq (fun K8 k8 => ?_)
    refine Cx.block ?_
    refine Cx.region ?_
    refine Lx.y (mv rfl) rfl ?_
    refine Lx.y (fa' fo30_0 rfl) rfl ?_
    refine Lx.y (ld Try.underlying27 rfl rfl rfl) rfl ?_
    refine Lx.y (mv rfl) rfl ?_
    refine Lx.y (ia Try.underlying27 sz138 rfl rfl (by first | exact Int.toNat_natCast _ | rfl) (by omega) (by omega)) rfl ?_
    refine Lx.y (fa' fo138_1 rfl) rfl ?_
    refine Lx.y (ldB Try.underlying9 rfl rfl hB0 (cell_of hc0 1 (by omega) rfl)) rfl ?_
    refine Lx.y (lenS Try.underlying9 rfl) rfl ?_
    refine Lx.cp rfl rfl rfl (RSec_ct fl[i].now.length _ (by omega)) rfl ?_
    refine Lx.y (Yx.val (add rfl rfl (by first | exact wrap64 (by unfold sec; omega) (by unfold sec; omega) | rfl)) (show _ = i64 ((u + sec fl[i].now.length : Nat) : Int) from rfl)) rfl ?_
    refine Lx.y (asg rfl) rfl ?_
    refine Lx.nil ?_
    refine Xx.bn ?_
    refine Xx.tn (k8 _ _ _ _ ?_)
    refine Cx.region ?_
    refine Lx.y (mv rfl) rfl ?_
    refine Lx.y (Yx.val (add rfl rfl (by first | exact wrap64 (by omega) (by omega) | rfl)) (show _ = i64 ((i + 1 : Nat) : Int) from rfl)) rfl ?_
    refine Lx.y (asg rfl) rfl ?_
    refine Lx.nil ?_
    exact Xx.againK ⟨i + 1, u + sec fl[i].now.length, ⟨hlt, by unfold sec; omega⟩, rfl, rfl, rfl, rfl⟩ (by omega) (Sub.cons (s := 3) rfl (Sub.cons (s := 4) rfl (Sub.cons (s := 0) rfl (Sub.cons (s := 1) rfl (Sub.cons (s := 2) rfl (Sub.nil _))))))
  · skip
    have hlt := h7
    refine Cx.exit ?_
    refine Xx.te ?_
    refine Xx.te ?_
    refine Xx.bh ?_
    refine Xx.tn (k3 _ _ _ _ ?_)
    refine Cx.seq (fun K9 k9 => ?_)
    refine Cx.region ?_
    refine Lx.y (mv rfl) rfl ?_
    refine Lx.y (asg rfl) rfl ?_
    refine Lx.nil ?_
    refine Xx.tn (k9 _ _ _ _ ?_)
    refine Cx.ret ?_
    exact Xx.dropB b2 (Xx.rB1 rfl rfl ⟨rfl, u, rfl, by omega⟩ (Frag.le_refl _) rfl)

set_option maxHeartbeats 1000000 in
theorem RStrike_ct (d : Rd) (k c0 : Nat) (B : Frag) (h : RdOk B k c0 d) (hk : k ≤ 1000) (hc0 : c0 ≤ 1000000) : CtP Try.prog 67 [.agg (rdc d).toArray] B (.tuple #[.agg (rdc { d with ch := d.ch + 1 }).toArray, .bool false]) := by
  obtain ⟨fl, Af, cf, room, ch, off⟩ := d
  obtain ⟨hro, hcap, hlen, hfs, hroom, hch⟩ := h
  simp only at hro hcap hlen hfs hroom hch ⊢
  refine CtB.of_body Try.func67 rfl (nt := 47) rfl (by kernel_rfl) rfl ?_
  intro N0 w0 R
  refine Cx.seq (fun K1 k1 => ?_)
  refine Cx.region ?_
  refine Lx.new (boxA rfl) rfl (fun b1 => ?_)
  refine Lx.new (allocO ti30) rfl (fun b2 => ?_)
  refine Lx.y (asg rfl) rfl ?_
  refine Lx.nil ?_
  refine Xx.tn (k1 _ _ _ _ ?_)
  refine Cx.seq (fun K2 k2 => ?_)
  refine Cx.seq (fun K3 k3 => ?_)
  refine Cx.region ?_
  refine Lx.y (asg rfl) rfl ?_
  refine Lx.nil ?_
  refine Xx.tn (k3 _ _ _ _ ?_)
  refine Cx.block ?_
  refine Cx.loopK (Sub.cons (s := 0) rfl (Sub.cons (s := 1) rfl (Sub.cons (s := 2) rfl (Sub.nil _)))) (fun m ρ' B' H' => (True) ∧ m = 0 ∧ ρ' = [(4, i64 0)] ∧ B = B' ∧ row b1 30 (rdc ⟨fl, Af, cf, room, ch, off⟩) * (row b2 30 [.slice none 0 0, i64 0, .slice none 0 0, i64 0, .bool false] * R) = H') ⟨trivial, rfl, rfl, rfl, by ac_rfl⟩ (Sub.cons (s := 4) rfl (Sub.cons (s := 0) rfl (Sub.cons (s := 1) rfl (Sub.cons (s := 2) rfl (Sub.nil _))))) ?_
  rintro m ρ' B' H' ⟨_, rfl, rfl, rfl, rfl⟩
  refine Cx.seq (fun K4 k4 => ?_)
  refine Cx.seq (fun K5 k5 => ?_)
  refine Cx.region ?_
  refine Lx.y (mv rfl) rfl ?_
  refine Lx.y (fa' fo30_2 rfl) rfl ?_
  refine Lx.y (ld Try.underlying28 rfl rfl rfl) rfl ?_
  refine Lx.y (lenV (ty' := 0) Try.underlying28 rfl) rfl ?_
  refine Lx.y (lss rfl rfl) rfl ?_
  refine Lx.nil ?_
  refine Xx.tn (k5 _ _ _ _ ?_)
  refine Cx.condD rfl (fun h6 => ?_) (fun h6 => ?_)
  · skip
    have hlt : (0 : Int) < ((0 : Nat) : Int) := h6
    exact absurd hlt (by decide)
  · skip
    refine Cx.exit ?_
    refine Xx.te ?_
    refine Xx.te ?_
    refine Xx.bh ?_
    refine Xx.tn (k2 _ _ _ _ ?_)
    refine Cx.seq (fun K7 k7 => ?_)
    refine Cx.region ?_
    refine Lx.y (fa' fo30_3 rfl) rfl ?_
    refine Lx.y (Yx.val (ld Try.underlying3 rfl rfl rfl) (show _ = i64 ((ch : Nat) : Int) from rfl)) rfl ?_
    refine Lx.y (Yx.val (add rfl rfl (by first | exact wrap64 (by omega) (by omega) | rfl)) (show _ = i64 ((ch + 1 : Nat) : Int) from rfl)) rfl ?_
    refine Lx.y (fa' fo30_3 rfl) rfl ?_
    refine Lx.st (stO Try.underlying3 sz3 rfl rfl rfl (by show 3 < 5; omega) rfl) ?_
    refine Lx.nil ?_
    refine Xx.tn (k7 _ _ _ _ ?_)
    refine Cx.seq (fun K8 k8 => ?_)
    refine Cx.region ?_
    refine Lx.y (ldA Try.underlying30 rfl sz30 rfl (Cells.own (n := 5) PickB.eq rfl) rfl) rfl ?_
    refine Lx.st (stA (d := .bool) sz30 rfl rfl rfl rfl (by show 0 + 5 ≤ 5; omega) rfl) ?_
    refine Lx.y (asg rfl) rfl ?_
    refine Lx.nil ?_
    refine Xx.tn (k8 _ _ _ _ ?_)
    refine Cx.ret ?_
    refine Xx.dropB b1 ?_
    exact Xx.rBc rfl Try.underlying30 rfl sz30 rfl rfl rfl ⟨rfl, rfl⟩ (Frag.le_refl _)

set_option maxHeartbeats 2000000 in
theorem RTouched_ct (f : Rf) (fr tu k : Nat) (B : Frag) (h : RfOk B k f) (hk : k ≤ 1000) (htu : tu ≤ f.now.length) (hfr : fr ≤ 1000000) : CtB Try.prog 69 [.agg (rfc f).toArray, i64 (fr : Int), i64 (tu : Int)] B (fun v B' => ∃ f' : Rf, v = .agg (rfc f').toArray ∧ f'.n = f.n ∧ RfOk B' k f') := by
  obtain ⟨n, now, sure, Al, cl, l⟩ := f
  obtain ⟨hnow, hsure, hlen, hro⟩ := h
  simp only at hnow hsure hlen hro htu ⊢
  have hsn : sec now.length ≤ 8 * k := by unfold sec; omega
  have hst := sec_mono htu
  refine CtB.of_body Try.func69 rfl (nt := 42) rfl (by kernel_rfl) rfl ?_
  intro N0 w0 R
  refine Cx.seq (fun K1 k1 => ?_)
  refine Cx.region ?_
  refine Lx.new (boxA rfl) rfl (fun b3 => ?_)
  refine Lx.new (allocO ti138) rfl (fun b6 => ?_)
  refine Lx.nil ?_
  refine Xx.tn (k1 _ _ _ _ ?_)
  refine Cx.seq (fun K2 k2 => ?_)
  refine Cx.region ?_
  refine Lx.o (bslZ Try.underlying136 ti4) rfl (fun v B' H' hΦ hB => ?_)
  obtain ⟨b0, rfl, hBB, rfl⟩ := hΦ
  have hBB2 := hBB.symm
  subst hBB2
  clear hB
  refine Lx.y (fa' fo138_3 rfl) rfl ?_
  refine Lx.y (Yx.val (ld Try.underlying136 rfl rfl rfl) (show _ = Value.slice Al l.length cl from rfl)) rfl ?_
  refine Lx.o (appB (A := some ⟨b0, 0, none⟩) l.length (bls l) Try.underlying136 Try.underlying136 ti4 rfl rfl hro (bls_all _) (by omega) (by omega) (by omega) rfl) rfl (fun v B' H' hΦ hB => ?_)
  obtain ⟨A1, c1, rfl, hA1, hc1, hBB, rfl⟩ := hΦ
  have hBB2 := hBB.symm
  subst hBB2
  clear hB
  refine Lx.y (asg rfl) rfl ?_
  refine Lx.nil ?_
  refine Xx.tn (k2 _ _ _ _ ?_)
  refine Cx.seq (fun K3 k3 => ?_)
  refine Cx.block ?_
  refine Cx.loopK (Sub.cons (s := 0) rfl (Sub.cons (s := 1) rfl (Sub.cons (s := 2) rfl (Sub.cons (s := 3) rfl (Sub.cons (s := 6) rfl (Sub.cons (s := 9) rfl (Sub.cons (s := 10) rfl (Sub.cons (s := 11) rfl (Sub.cons (s := 12) rfl (Sub.nil _)))))))))) (fun m ρ' B' H' => ∃ (bl : List Bool) (A : Option Addr) (c : Nat), (bl.length ≤ 8 * k) ∧ m = sec now.length - bl.length ∧ ρ' = [(7, .slice A bl.length c)] ∧ B = B' ∧ row b3 138 (rfc ⟨n, now, sure, Al, cl, l⟩) * (row b6 138 [i64 0, str [], str [], .slice none 0 0] * (sbuf 4 1 A bl.length c (bls bl) * R)) = H') ⟨l, A1, c1, hlen, rfl, rfl, rfl, by ac_rfl⟩ (Sub.cons (s := 7) rfl (Sub.cons (s := 0) rfl (Sub.cons (s := 1) rfl (Sub.cons (s := 2) rfl (Sub.cons (s := 3) rfl (Sub.cons (s := 6) rfl (Sub.cons (s := 9) rfl (Sub.cons (s := 10) rfl (Sub.cons (s := 11) rfl (Sub.cons (s := 12) rfl (Sub.nil _))))))))))) ?_
  rintro m ρ' B' H' ⟨bl, A, c, hbl, rfl, rfl, rfl, rfl⟩
  refine Cx.seq (fun K4 k4 => ?_)
  refine Cx.seq (fun K5 k5 => ?_)
  refine Cx.region ?_
  refine Lx.y (mv rfl) rfl ?_
  refine Lx.y (lenV (ty' := 0) Try.underlying136 rfl) rfl ?_
  refine Lx.y (fa' fo138_1 rfl) rfl ?_
  refine Lx.y (ld Try.underlying9 rfl rfl rfl) rfl ?_
  refine Lx.y (lenS Try.underlying9 rfl) rfl ?_
  refine Lx.cp rfl rfl rfl (RSec_ct now.length _ (by omega)) rfl ?_
  refine Lx.y (lss rfl rfl) rfl ?_
  refine Lx.nil ?_
  refine Xx.tn (k5 _ _ _ _ ?_)
  refine Cx.condD rfl (fun h6 => ?_) (fun h6 => ?_)
  · skip
    have hlt := h6
    refine Cx.skip ?_
    refine Xx.tn (k4 _ _ _ _ ?_)
    refine Cx.block ?_
    refine Cx.region ?_
    refine Lx.y (mv rfl) rfl ?_
    refine Lx.bsl (bsl1 Try.underlying136 ti4 rfl rfl rfl (by decide)) rfl (fun bv => ?_)
    refine Lx.o (appN (A := A) (bl.length + 1) [.bool false] (bls (bl ++ [false])) Try.underlying136 Try.underlying136 ti4 rfl rfl rfl rfl rfl (by omega) (by omega) rfl (by simp [bls])) rfl (fun v B' H' hΦ hB => ?_)
    obtain ⟨A2, c2, rfl, hA2, hl2, hc2, hBB, rfl⟩ := hΦ
    have hBB2 := hBB.symm
    subst hBB2
    refine Xx.dropB bv ?_
    clear hB
    refine Lx.y (asg rfl) rfl ?_
    refine Lx.nil ?_
    refine Xx.bn ?_
    exact Xx.againK ⟨bl ++ [false], A2, c2, (by rw [List.length_append, List.length_singleton]; omega), rfl, rfl, rfl, (by rw [List.length_append, List.length_singleton]; ac_rfl)⟩ (by rw [List.length_append, List.length_singleton]; omega) (Sub.consE (s := 7) rfl (by rw [List.length_append, List.length_singleton]) (Sub.cons (s := 0) rfl (Sub.cons (s := 1) rfl (Sub.cons (s := 2) rfl (Sub.cons (s := 3) rfl (Sub.cons (s := 6) rfl (Sub.cons (s := 9) rfl (Sub.cons (s := 10) rfl (Sub.cons (s := 11) rfl (Sub.cons (s := 12) rfl (Sub.nil _)))))))))))
  · skip
    have hfull := h6
    have hfull : ¬ bl.length < sec now.length := by omega
    refine Cx.exit ?_
    refine Xx.te ?_
    refine Xx.te ?_
    refine Xx.bh ?_
    refine Xx.tn (k3 _ _ _ _ ?_)
    refine Cx.seq (fun K7 k7 => ?_)
    refine Cx.seq (fun K8 k8 => ?_)
    refine Cx.region ?_
    refine Lx.y (mv rfl) rfl ?_
    refine Lx.y (Yx.val (quoN rfl rfl (by omega) (by decide) (by exact wrap64 (by omega) (by omega))) (show _ = i64 ((fr / 64 : Nat) : Int) from rfl)) rfl ?_
    refine Lx.y (asg rfl) rfl ?_
    refine Lx.nil ?_
    refine Xx.tn (k8 _ _ _ _ ?_)
    refine Cx.block ?_
    refine Cx.loopK (Sub.cons (s := 0) rfl (Sub.cons (s := 1) rfl (Sub.cons (s := 2) rfl (Sub.cons (s := 3) rfl (Sub.cons (s := 6) rfl (Sub.cons (s := 7) rfl (Sub.cons (s := 9) rfl (Sub.cons (s := 10) rfl (Sub.cons (s := 11) rfl (Sub.cons (s := 12) rfl (Sub.cons (s := 13) rfl (Sub.cons (s := 14) rfl (Sub.cons (s := 15) rfl (Sub.cons (s := 16) rfl (Sub.cons (s := 17) rfl (Sub.cons (s := 18) rfl (Sub.cons (s := 19) rfl (Sub.cons (s := 23) rfl (Sub.cons (s := 24) rfl (Sub.nil _)))))))))))))))))))) (fun m ρ' B' H' => ∃ (i : Nat) (bl2 : List Bool), (bl2.length = bl.length ∧ fr / 64 ≤ i) ∧ m = sec tu - i ∧ ρ' = [(8, i64 (i : Int))] ∧ B = B' ∧ row b3 138 (rfc ⟨n, now, sure, Al, cl, l⟩) * (row b6 138 [i64 0, str [], str [], .slice none 0 0] * (sbuf 4 1 A bl.length c (bls bl2) * R)) = H') ⟨fr / 64, bl, ⟨rfl, Nat.le_refl _⟩, rfl, rfl, rfl, rfl⟩ (Sub.cons (s := 8) rfl (Sub.cons (s := 0) rfl (Sub.cons (s := 1) rfl (Sub.cons (s := 2) rfl (Sub.cons (s := 3) rfl (Sub.cons (s := 6) rfl (Sub.cons (s := 7) rfl (Sub.cons (s := 9) rfl (Sub.cons (s := 10) rfl (Sub.cons (s := 11) rfl (Sub.cons (s := 12) rfl (Sub.cons (s := 13) rfl (Sub.cons (s := 14) rfl (Sub.cons (s := 15) rfl (Sub.cons (s := 16) rfl (Sub.cons (s := 17) rfl (Sub.cons (s := 18) rfl (Sub.cons (s := 19) rfl (Sub.cons (s := 23) rfl (Sub.cons (s := 24) rfl (Sub.nil _))))))))))))))))))))) ?_
    rintro m ρ' B' H' ⟨i, bl2, ⟨hbl2, hi⟩, rfl, rfl, rfl, rfl⟩
    refine Cx.seq (fun K9 k9 => ?_)
    refine Cx.seq (fun K10 k10 => ?_)
    refine Cx.region ?_
    refine Lx.y (mv rfl) rfl ?_
    refine Lx.y (mv rfl) rfl ?_
    refine Lx.y (lss rfl rfl) rfl ?_
    refine Lx.y (mv rfl) rfl ?_
    refine Xx.ifD (t := 28) rfl (fun h11 => ?_) (fun h11 => ?_)
    · skip
      have g1 := h11
      refine Lx.gT rfl rfl rfl ?_
      refine Lx.y (mv rfl) rfl ?_
      refine Lx.gT rfl rfl rfl ?_
      refine Lx.y (mv rfl) rfl ?_
      refine Lx.gT rfl rfl rfl ?_
      refine Lx.cp rfl rfl rfl (RSec_ct tu _ (by omega)) rfl ?_
      refine Lx.gT rfl rfl rfl ?_
      refine Lx.y (lss rfl rfl) rfl ?_
      refine Lx.y (pickT rfl rfl) rfl ?_
      refine Lx.nil ?_
      refine Xx.tn (k10 _ _ _ _ ?_)
      refine Cx.condD rfl (fun h12 => ?_) (fun h12 => ?_)
      · skip
        have g2 := h12
        have hlt : i < bl.length := by omega
        refine Xx.openT A (by omega) (fun bA sp hA hxl hnc hcl => ?_)
        subst hA
        refine Cx.skip ?_
        refine Xx.tn (k9 _ _ _ _ ?_)
        refine Cx.seq (fun K13 k13 => ?_)
        refine Cx.block ?_
        refine Cx.region ?_
        refine Lx.y (mv rfl) rfl ?_
        refine Lx.y (mv rfl) rfl ?_
        refine Lx.y (ia Try.underlying136 sz4 rfl rfl (Int.toNat_natCast _) (by omega) (by omega)) rfl ?_
        refine Lx.st (stO Try.underlying4 sz4 rfl rfl rfl (by rw [List.length_append, bls_len]; omega) (frc_gen _ _)) ?_
        refine Lx.nil ?_
        refine Xx.bn ?_
        refine Xx.tn (k13 _ _ _ _ ?_)
        refine Xx.closeT bA (bls (bl2.set i true)) sp 1 bl.length c (by rw [List.set_append_left _ _ (by rw [bls_len]; omega)]; simp [bls, List.map_set]) (by rw [bls_len, List.length_set]; omega) hnc (by rw [List.length_append, bls_len, List.length_set, ← bls_len bl2, ← List.length_append]; exact hcl) ?_
        refine Cx.region ?_
        refine Lx.y (mv rfl) rfl ?_
        refine Lx.y (Yx.val (add rfl rfl (by first | exact wrap64 (by omega) (by omega) | rfl)) (show _ = i64 ((i + 1 : Nat) : Int) from rfl)) rfl ?_
        refine Lx.y (asg rfl) rfl ?_
        refine Lx.nil ?_
        exact Xx.againK ⟨i + 1, bl2.set i true, ⟨by rw [List.length_set]; exact hbl2, by omega⟩, rfl, rfl, rfl, (by ac_rfl)⟩ (by omega) (Sub.cons (s := 8) rfl (Sub.cons (s := 0) rfl (Sub.cons (s := 1) rfl (Sub.cons (s := 2) rfl (Sub.cons (s := 3) rfl (Sub.cons (s := 6) rfl (Sub.cons (s := 7) rfl (Sub.cons (s := 9) rfl (Sub.cons (s := 10) rfl (Sub.cons (s := 11) rfl (Sub.cons (s := 12) rfl (Sub.cons (s := 13) rfl (Sub.cons (s := 14) rfl (Sub.cons (s := 15) rfl (Sub.cons (s := 16) rfl (Sub.cons (s := 17) rfl (Sub.cons (s := 18) rfl (Sub.cons (s := 19) rfl (Sub.cons (s := 23) rfl (Sub.cons (s := 24) rfl (Sub.nil _)))))))))))))))))))))
      · skip
        have g2 := h12
        refine Cx.exit ?_
        refine Xx.te ?_
        refine Xx.te ?_
        refine Xx.bh ?_
        refine Xx.tn (k7 _ _ _ _ ?_)
        refine Cx.seq (fun K14 k14 => ?_)
        refine Cx.region ?_
        refine Lx.y (mv rfl) rfl ?_
        refine Lx.y (fa' fo138_3 rfl) rfl ?_
        refine Lx.st (stO Try.underlying136 sz136 rfl rfl rfl (by show 3 < 4; omega) rfl) ?_
        refine Lx.nil ?_
        refine Xx.tn (k14 _ _ _ _ ?_)
        refine Cx.seq (fun K15 k15 => ?_)
        refine Cx.region ?_
        refine Lx.y (ldA Try.underlying138 rfl sz138 rfl (Cells.own (n := 4) PickB.eq rfl) rfl) rfl ?_
        refine Lx.st (stA (d := .bool) sz138 rfl rfl rfl rfl (by show 0 + 4 ≤ 4; omega) rfl) ?_
        refine Lx.nil ?_
        refine Xx.tn (k15 _ _ _ _ ?_)
        refine Cx.ret ?_
        refine Xx.freezeT A fun B3 hB3 hRo hnc _ => ?_
        refine Xx.dropB b3 ?_
        exact Xx.rBa rfl Try.underlying138 rfl sz138 rfl rfl ⟨⟨n, now, sure, A, c, bl2⟩, by unfold rfc; rw [hbl2], rfl, ⟨hnow, hsure, by rw [hbl2]; exact hbl, by rw [hbl2]; exact hRo⟩⟩ hB3
    · skip
      have g1 := h11
      refine Lx.gF rfl rfl rfl rfl ?_
      refine Lx.gF rfl rfl rfl rfl ?_
      refine Lx.gF rfl rfl rfl rfl ?_
      refine Lx.gF rfl rfl rfl rfl ?_
      refine Lx.y (pickF rfl rfl) rfl ?_
      refine Lx.nil ?_
      refine Xx.tn (k10 _ _ _ _ ?_)
      refine Cx.condF rfl ?_
      refine Cx.exit ?_
      refine Xx.te ?_
      refine Xx.te ?_
      refine Xx.bh ?_
      refine Xx.tn (k7 _ _ _ _ ?_)
      refine Cx.seq (fun K16 k16 => ?_)
      refine Cx.region ?_
      refine Lx.y (mv rfl) rfl ?_
      refine Lx.y (fa' fo138_3 rfl) rfl ?_
      refine Lx.st (stO Try.underlying136 sz136 rfl rfl rfl (by show 3 < 4; omega) rfl) ?_
      refine Lx.nil ?_
      refine Xx.tn (k16 _ _ _ _ ?_)
      refine Cx.seq (fun K17 k17 => ?_)
      refine Cx.region ?_
      refine Lx.y (ldA Try.underlying138 rfl sz138 rfl (Cells.own (n := 4) PickB.eq rfl) rfl) rfl ?_
      refine Lx.st (stA (d := .bool) sz138 rfl rfl rfl rfl (by show 0 + 4 ≤ 4; omega) rfl) ?_
      refine Lx.nil ?_
      refine Xx.tn (k17 _ _ _ _ ?_)
      refine Cx.ret ?_
      refine Xx.freezeT A fun B3 hB3 hRo hnc _ => ?_
      refine Xx.dropB b3 ?_
      exact Xx.rBa rfl Try.underlying138 rfl sz138 rfl rfl ⟨⟨n, now, sure, A, c, bl2⟩, by unfold rfc; rw [hbl2], rfl, ⟨hnow, hsure, by rw [hbl2]; exact hbl, by rw [hbl2]; exact hRo⟩⟩ hB3

set_option maxHeartbeats 2000000 in
theorem RWith_ct (d : Rd) (f : Rf) (k c0 : Nat) (B : Frag) (h : RdOk B k c0 d) (hk : k ≤ 1000) (hc0 : c0 ≤ 1000000) (hf : RfOk B (k + 1) f) : CtB Try.prog 68 [.agg (rdc d).toArray, .agg (rfc f).toArray] B (fun v B' => ∃ d' : Rd, v = .agg (rdc d').toArray ∧ RdOk B' (k + 1) c0 d') := by
  obtain ⟨fl, Af, cf, room, ch, off⟩ := d
  obtain ⟨hro, hcap, hlen, hfs, hroom, hch⟩ := h
  simp only at hro hcap hlen hfs hroom hch ⊢
  refine CtB.of_body Try.func68 rfl (nt := 38) rfl (by kernel_rfl) rfl ?_
  intro N0 w0 R
  refine Cx.seq (fun K1 k1 => ?_)
  refine Cx.region ?_
  refine Lx.new (boxA rfl) rfl (fun b2 => ?_)
  refine Lx.new (boxA rfl) rfl (fun b3 => ?_)
  refine Lx.new (allocO ti30) rfl (fun b4 => ?_)
  refine Lx.nil ?_
  refine Xx.tn (k1 _ _ _ _ ?_)
  refine Cx.seq (fun K2 k2 => ?_)
  refine Cx.region ?_
  refine Lx.y (ldA Try.underlying30 rfl sz30 rfl (Cells.own (n := 5) PickB.eq rfl) rfl) rfl ?_
  refine Lx.y (fa' fo138_0 rfl) rfl ?_
  refine Lx.y (ld Try.underlying3 rfl rfl rfl) rfl ?_
  refine Lx.cb rfl rfl rfl (RFind_ct ⟨fl, Af, cf, room, ch, off⟩ f.n k c0 _ ⟨hro, hcap, hlen, hfs, hroom, hch⟩ hk hc0) rfl ?_
  rintro v1 B1 ⟨hBB, i, is, rfl, hi, his⟩ hB1
  have hBB2 := hBB.symm
  subst hBB2
  clear hB1
  simp only at hi his
  refine Lx.y (mv rfl) rfl ?_
  refine Lx.y (ext rfl rfl) rfl ?_
  refine Lx.y (ext rfl rfl) rfl ?_
  refine Lx.y (asg rfl) rfl ?_
  refine Lx.y (asg rfl) rfl ?_
  refine Lx.nil ?_
  refine Xx.tn (k2 _ _ _ _ ?_)
  refine Cx.seq (fun K4 k4 => ?_)
  refine Cx.region ?_
  refine Lx.y (fa' fo30_0 rfl) rfl ?_
  refine Lx.y (Yx.val (ld Try.underlying27 rfl rfl rfl) (show _ = Value.slice Af fl.length cf from rfl)) rfl ?_
  refine Lx.y (mv rfl) rfl ?_
  refine Lx.y (sl1V Try.underlying27 sz138 rfl rfl (Int.toNat_natCast i) (by omega) (by omega)) rfl ?_
  refine Lx.y (asg rfl) rfl ?_
  refine Lx.nil ?_
  refine Xx.tn (k4 _ _ _ _ ?_)
  refine Cx.cutK (ds' := []) (Sub.cons (s := 0) rfl (Sub.cons (s := 1) rfl (Sub.cons (s := 2) rfl (Sub.cons (s := 3) rfl (Sub.cons (s := 4) rfl (Sub.cons (s := 5) rfl (Sub.cons (s := 6) rfl (Sub.cons (s := 8) rfl (Sub.cons (s := 9) rfl (Sub.cons (s := 10) rfl (Sub.cons (s := 11) rfl (Sub.cons (s := 12) rfl (Sub.cons (s := 13) rfl (Sub.cons (s := 14) rfl (Sub.cons (s := 15) rfl (Sub.cons (s := 16) rfl (Sub.cons (s := 17) rfl (Sub.cons (s := 18) rfl (Sub.nil _))))))))))))))))))) (fun ρ' B' H' => ∃ (Ar : Option Addr) (nr cr : Nat) (rl : List Rf), ρ' = [(7, .slice Ar nr cr)] ∧ B = B' ∧ row b2 30 (rdc ⟨fl, Af, cf, room, ch, off⟩) * (row b3 138 (rfc f) * (row b4 30 [.slice none 0 0, i64 0, .slice none 0 0, i64 0, .bool false] * R)) = H' ∧ RoS B 4 Ar nr (rl.flatMap rfc) ∧ nr = rl.length ∧ nr ≤ fl.length - i ∧ (∀ g ∈ rl, g ∈ fl)) ?_ ?_
  · skip
    refine Cx.seq (fun K5 k5 => ?_)
    refine Cx.region ?_
    refine Lx.y (mv rfl) rfl ?_
    refine Lx.nil ?_
    refine Xx.tn (k5 _ _ _ _ ?_)
    refine Cx.condB rfl (fun h6 => ?_) (fun h6 => ?_)
    · skip
      have hlt := his h6
      refine Cx.region ?_
      refine Lx.y (fa' fo30_0 rfl) rfl ?_
      refine Lx.y (Yx.val (ld Try.underlying27 rfl rfl rfl) (show _ = Value.slice Af fl.length cf from rfl)) rfl ?_
      refine Lx.y (mv rfl) rfl ?_
      refine Lx.y (Yx.val (add rfl rfl (by first | exact wrap64 (by omega) (by omega) | rfl)) (show _ = i64 ((i + 1 : Nat) : Int) from rfl)) rfl ?_
      refine Lx.y (sl1V Try.underlying27 sz138 rfl rfl (Int.toNat_natCast (i + 1)) (by omega) (by omega)) rfl ?_
      refine Lx.y (asg rfl) rfl ?_
      refine Lx.nil ?_
      exact Xx.mkK (⟨_, _, _, fl.drop (i + 1), rfl, rfl, by ac_rfl, by rw [flat_drop rfc_len]; exact RoS.sub hro hlt hcap, by rw [List.length_drop], by omega, fun g hg => List.mem_of_mem_drop hg⟩) (Sub.cons (s := 7) rfl (Sub.cons (s := 0) rfl (Sub.cons (s := 1) rfl (Sub.cons (s := 2) rfl (Sub.cons (s := 3) rfl (Sub.cons (s := 4) rfl (Sub.cons (s := 5) rfl (Sub.cons (s := 6) rfl (Sub.cons (s := 8) rfl (Sub.cons (s := 9) rfl (Sub.cons (s := 10) rfl (Sub.cons (s := 11) rfl (Sub.cons (s := 12) rfl (Sub.cons (s := 13) rfl (Sub.cons (s := 14) rfl (Sub.cons (s := 15) rfl (Sub.cons (s := 16) rfl (Sub.cons (s := 17) rfl (Sub.cons (s := 18) rfl (Sub.nil _))))))))))))))))))))
    · skip
      skip
      refine Cx.skip ?_
      exact Xx.mkK (⟨_, _, _, fl.drop i, rfl, rfl, by ac_rfl, by rw [flat_drop rfc_len]; exact RoS.sub hro hi hcap, by rw [List.length_drop], Nat.le_refl _, fun g hg => List.mem_of_mem_drop hg⟩) (Sub.cons (s := 7) rfl (Sub.cons (s := 0) rfl (Sub.cons (s := 1) rfl (Sub.cons (s := 2) rfl (Sub.cons (s := 3) rfl (Sub.cons (s := 4) rfl (Sub.cons (s := 5) rfl (Sub.cons (s := 6) rfl (Sub.cons (s := 8) rfl (Sub.cons (s := 9) rfl (Sub.cons (s := 10) rfl (Sub.cons (s := 11) rfl (Sub.cons (s := 12) rfl (Sub.cons (s := 13) rfl (Sub.cons (s := 14) rfl (Sub.cons (s := 15) rfl (Sub.cons (s := 16) rfl (Sub.cons (s := 17) rfl (Sub.cons (s := 18) rfl (Sub.nil _))))))))))))))))))))
  · rintro ρ' B' H' ⟨Ar, nr, cr, rl, rfl, rfl, rfl, hrr, hnr, hni, hrl⟩
    have hrt : RoS B 4 Af i ((fl.take i).flatMap rfc) := by rw [flat_take rfc_len]; exact RoS.take hro hi
    refine Cx.seq (fun K7 k7 => ?_)
    refine Cx.drawn (by kernel_rfl) ?_
    refine Dx.p (i := 1) rfl (by kernel_rfl) (fa' fo30_0 rfl) rfl ?_
    refine Dx.r (i := 2) rfl (by kernel_rfl) (Yx.val (ld Try.underlying27 rfl rfl rfl) (show _ = Value.slice Af fl.length cf from rfl)) rfl ?_
    refine Dx.p (i := 3) rfl (by kernel_rfl) (mv rfl) rfl ?_
    refine Dx.p (i := 4) rfl (by kernel_rfl) (sl2V Try.underlying27 sz138 rfl rfl (Int.toNat_natCast i) (by omega) (by omega)) rfl ?_
    refine Dx.r (i := 6) rfl (by kernel_rfl) (ldA Try.underlying138 rfl sz138 rfl (Cells.own (n := 4) PickB.eq rfl) rfl) rfl ?_
    refine Dx.p (i := 9) rfl (by kernel_rfl) (mv rfl) rfl ?_
    refine Dx.two (i := 0) (j := 7) (by kernel_rfl) ?_ ?_
    · skip
      refine Dstep.o (i := 0) rfl (bslZ Try.underlying27 ti138) rfl (fun v B' H' hΦ hB => ?_)
      obtain ⟨b5, rfl, hBB, rfl⟩ := hΦ
      have hBB2 := hBB.symm
      subst hBB2
      refine ⟨JOk.yes (JOk.yes (JOk.top) (Yx.val (ld Try.underlying27 rfl rfl rfl) (show _ = Value.slice Af fl.length cf from rfl))) (ldA Try.underlying138 rfl sz138 rfl (Cells.own (n := 4) PickB.eq rfl) rfl), ?_⟩
      refine Dx.two (i := 5) (j := 7) (by kernel_rfl) ?_ ?_
      · skip
        refine Dstep.o (i := 5) rfl (appB (A := some ⟨b5, 0, none⟩) i ((fl.take i).flatMap rfc) Try.underlying27 Try.underlying27 ti138 rfl rfl hrt (rfc_all _) (by omega) (by omega) (by omega) rfl) rfl (fun v B' H' hΦ hB => ?_)
        obtain ⟨A1, c1, rfl, hA1, hc1, hBB, rfl⟩ := hΦ
        have hBB2 := hBB.symm
        subst hBB2
        refine ⟨JOk.yes (JOk.yes (JOk.top) (Yx.val (ld Try.underlying27 rfl rfl rfl) (show _ = Value.slice Af fl.length cf from rfl))) (ldA Try.underlying138 rfl sz138 rfl (Cells.own (n := 4) PickB.eq rfl) rfl), ?_⟩
        refine Dx.one (i := 7) (by kernel_rfl) ?_
        refine Dstep.o (i := 7) rfl (bslA Try.underlying27 ti138 rfl rfl (by decide)) rfl (fun v B' H' hΦ hB => ?_)
        obtain ⟨b6, rfl, hBB, rfl⟩ := hΦ; have hBB2 := hBB.symm; subst hBB2; clear hB
        refine ⟨JOk.edge (JOk.yes (JOk.top) (Yx.val (ld Try.underlying27 rfl rfl rfl) (show _ = Value.slice Af fl.length cf from rfl))) (by kernel_rfl), ?_⟩
        refine Dx.one (i := 8) (by kernel_rfl) ?_
        refine Dstep.o (i := 8) rfl (appN (A := A1) (i + 1) (rfc f) ((fl.take i ++ [f]).flatMap rfc) Try.underlying27 Try.underlying27 ti138 rfl rfl rfl rfl rfl (by omega) (by omega) rfl (by simp)) rfl (fun v B' H' hΦ hB => ?_)
        obtain ⟨A2, c2, rfl, hA2, hl2, hc2, hBB, rfl⟩ := hΦ
        have hBB2 := hBB.symm
        subst hBB2
        refine ⟨JOk.yes (JOk.yes (JOk.top) (Yx.val (ld Try.underlying27 rfl rfl rfl) (show _ = Value.slice Af fl.length cf from rfl))) (ldA Try.underlying138 rfl sz138 rfl (Cells.own (n := 4) PickB.eq rfl) rfl), ?_⟩
        refine Dx.one (i := 10) (by kernel_rfl) ?_
        refine Dstep.o (i := 10) rfl (appB (A := A2) (i + 1 + nr) ((fl.take i ++ [f] ++ rl).flatMap rfc) Try.underlying27 Try.underlying27 ti138 rfl rfl hrr (rfc_all _) (by omega) (by omega) (by omega) (by simp)) rfl (fun v B' H' hΦ hB => ?_)
        obtain ⟨A3, c3, rfl, hA3, hc3, hBB, rfl⟩ := hΦ
        have hBB2 := hBB.symm
        subst hBB2
        refine ⟨JOk.yes (JOk.yes (JOk.top) (Yx.val (ld Try.underlying27 rfl rfl rfl) (show _ = Value.slice Af fl.length cf from rfl))) (ldA Try.underlying138 rfl sz138 rfl (Cells.own (n := 4) PickB.eq rfl) rfl), ?_⟩
        refine Dx.p (i := 11) rfl (by kernel_rfl) (fa' fo30_0 rfl) rfl ?_
        refine Dx.one (i := 12) (by kernel_rfl) ?_
        refine Dstep.o0 (i := 12) rfl (stO Try.underlying27 sz27 rfl rfl rfl (by show 0 < 5; omega) rfl) (fun v B' H' hΦ hB => ?_)
        obtain ⟨hBB, rfl⟩ := hΦ; have hBB2 := hBB.symm; subst hBB2; clear hB v
        refine ⟨JOk.edge (JOk.edge (JOk.top) (by kernel_rfl)) (by kernel_rfl), ?_⟩
        refine Dx.done (by kernel_rfl) ?_
        refine Xx.tn (k7 _ _ _ _ ?_)
        refine Cx.seq (fun K8 k8 => ?_)
        refine Cx.region ?_
        refine Lx.y (ldA Try.underlying30 rfl sz30 rfl (Cells.own (n := 5) PickB.eq rfl) rfl) rfl ?_
        refine Lx.st (stA (d := .bool) sz30 rfl rfl rfl rfl (by show 0 + 5 ≤ 5; omega) rfl) ?_
        refine Lx.nil ?_
        refine Xx.tn (k8 _ _ _ _ ?_)
        refine Cx.ret ?_
        refine Xx.freezeT A3 fun B3 hB3 hRo hnc _ => ?_
        have hgl : (fl.take i ++ [f] ++ rl).length = i + 1 + nr := by simp only [List.length_append, List.length_take, List.length_singleton]; omega
        refine Xx.dropB b2 (Xx.dropB b3 (Xx.dropB b6 ?_))
        exact Xx.rBa rfl Try.underlying30 rfl sz30 rfl rfl ⟨⟨fl.take i ++ [f] ++ rl, A3, c3, room, ch, off⟩, by unfold rdc; rw [hgl], ⟨by rw [hgl]; exact hRo, by rw [hgl]; exact hnc, by rw [hgl]; omega, fun g hg => by
          rcases List.mem_append.1 hg with hg | hg
          · rcases List.mem_append.1 hg with hg | hg
            · exact (hfs g (List.mem_of_mem_take hg)).mono hB3 (by omega)
            · rw [List.mem_singleton.1 hg]; exact hf.mono hB3 (Nat.le_refl _)
          · exact (hfs g (hrl g hg)).mono hB3 (by omega), hroom, hch⟩⟩ hB3
      refine Dstep.o (i := 7) rfl (bslA Try.underlying27 ti138 rfl rfl (by decide)) rfl (fun v B' H' hΦ hB => ?_)
      obtain ⟨b6, rfl, hBB, rfl⟩ := hΦ; have hBB2 := hBB.symm; subst hBB2; clear hB
      refine ⟨JOk.edge (JOk.yes (JOk.top) (Yx.val (ld Try.underlying27 rfl rfl rfl) (show _ = Value.slice Af fl.length cf from rfl))) (by kernel_rfl), ?_⟩
      refine Dx.one (i := 5) (by kernel_rfl) ?_
      refine Dstep.o (i := 5) rfl (appB (A := some ⟨b5, 0, none⟩) i ((fl.take i).flatMap rfc) Try.underlying27 Try.underlying27 ti138 rfl rfl hrt (rfc_all _) (by omega) (by omega) (by omega) rfl) rfl (fun v B' H' hΦ hB => ?_)
      obtain ⟨A1, c1, rfl, hA1, hc1, hBB, rfl⟩ := hΦ
      have hBB2 := hBB.symm
      subst hBB2
      refine ⟨JOk.yes (JOk.yes (JOk.top) (Yx.val (ld Try.underlying27 rfl rfl rfl) (show _ = Value.slice Af fl.length cf from rfl))) (ldA Try.underlying138 rfl sz138 rfl (Cells.own (n := 4) PickB.eq rfl) rfl), ?_⟩
      refine Dx.one (i := 8) (by kernel_rfl) ?_
      refine Dstep.o (i := 8) rfl (appN (A := A1) (i + 1) (rfc f) ((fl.take i ++ [f]).flatMap rfc) Try.underlying27 Try.underlying27 ti138 rfl rfl rfl rfl rfl (by omega) (by omega) rfl (by simp)) rfl (fun v B' H' hΦ hB => ?_)
      obtain ⟨A2, c2, rfl, hA2, hl2, hc2, hBB, rfl⟩ := hΦ
      have hBB2 := hBB.symm
      subst hBB2
      refine ⟨JOk.yes (JOk.yes (JOk.top) (Yx.val (ld Try.underlying27 rfl rfl rfl) (show _ = Value.slice Af fl.length cf from rfl))) (ldA Try.underlying138 rfl sz138 rfl (Cells.own (n := 4) PickB.eq rfl) rfl), ?_⟩
      refine Dx.one (i := 10) (by kernel_rfl) ?_
      refine Dstep.o (i := 10) rfl (appB (A := A2) (i + 1 + nr) ((fl.take i ++ [f] ++ rl).flatMap rfc) Try.underlying27 Try.underlying27 ti138 rfl rfl hrr (rfc_all _) (by omega) (by omega) (by omega) (by simp)) rfl (fun v B' H' hΦ hB => ?_)
      obtain ⟨A3, c3, rfl, hA3, hc3, hBB, rfl⟩ := hΦ
      have hBB2 := hBB.symm
      subst hBB2
      refine ⟨JOk.yes (JOk.yes (JOk.top) (Yx.val (ld Try.underlying27 rfl rfl rfl) (show _ = Value.slice Af fl.length cf from rfl))) (ldA Try.underlying138 rfl sz138 rfl (Cells.own (n := 4) PickB.eq rfl) rfl), ?_⟩
      refine Dx.p (i := 11) rfl (by kernel_rfl) (fa' fo30_0 rfl) rfl ?_
      refine Dx.one (i := 12) (by kernel_rfl) ?_
      refine Dstep.o0 (i := 12) rfl (stO Try.underlying27 sz27 rfl rfl rfl (by show 0 < 5; omega) rfl) (fun v B' H' hΦ hB => ?_)
      obtain ⟨hBB, rfl⟩ := hΦ; have hBB2 := hBB.symm; subst hBB2; clear hB v
      refine ⟨JOk.edge (JOk.edge (JOk.top) (by kernel_rfl)) (by kernel_rfl), ?_⟩
      refine Dx.done (by kernel_rfl) ?_
      refine Xx.tn (k7 _ _ _ _ ?_)
      refine Cx.seq (fun K9 k9 => ?_)
      refine Cx.region ?_
      refine Lx.y (ldA Try.underlying30 rfl sz30 rfl (Cells.own (n := 5) PickB.eq rfl) rfl) rfl ?_
      refine Lx.st (stA (d := .bool) sz30 rfl rfl rfl rfl (by show 0 + 5 ≤ 5; omega) rfl) ?_
      refine Lx.nil ?_
      refine Xx.tn (k9 _ _ _ _ ?_)
      refine Cx.ret ?_
      refine Xx.freezeT A3 fun B3 hB3 hRo hnc _ => ?_
      have hgl : (fl.take i ++ [f] ++ rl).length = i + 1 + nr := by simp only [List.length_append, List.length_take, List.length_singleton]; omega
      refine Xx.dropB b2 (Xx.dropB b3 (Xx.dropB b6 ?_))
      exact Xx.rBa rfl Try.underlying30 rfl sz30 rfl rfl ⟨⟨fl.take i ++ [f] ++ rl, A3, c3, room, ch, off⟩, by unfold rdc; rw [hgl], ⟨by rw [hgl]; exact hRo, by rw [hgl]; exact hnc, by rw [hgl]; omega, fun g hg => by
        rcases List.mem_append.1 hg with hg | hg
        · rcases List.mem_append.1 hg with hg | hg
          · exact (hfs g (List.mem_of_mem_take hg)).mono hB3 (by omega)
          · rw [List.mem_singleton.1 hg]; exact hf.mono hB3 (Nat.le_refl _)
        · exact (hfs g (hrl g hg)).mono hB3 (by omega), hroom, hch⟩⟩ hB3
    refine Dstep.o (i := 7) rfl (bslA Try.underlying27 ti138 rfl rfl (by decide)) rfl (fun v B' H' hΦ hB => ?_)
    obtain ⟨b6, rfl, hBB, rfl⟩ := hΦ; have hBB2 := hBB.symm; subst hBB2; clear hB
    refine ⟨JOk.edge (JOk.yes (JOk.top) (Yx.val (ld Try.underlying27 rfl rfl rfl) (show _ = Value.slice Af fl.length cf from rfl))) (by kernel_rfl), ?_⟩
    refine Dx.one (i := 0) (by kernel_rfl) ?_
    refine Dstep.o (i := 0) rfl (bslZ Try.underlying27 ti138) rfl (fun v B' H' hΦ hB => ?_)
    obtain ⟨b5, rfl, hBB, rfl⟩ := hΦ
    have hBB2 := hBB.symm
    subst hBB2
    refine ⟨JOk.yes (JOk.yes (JOk.top) (Yx.val (ld Try.underlying27 rfl rfl rfl) (show _ = Value.slice Af fl.length cf from rfl))) (ldA Try.underlying138 rfl sz138 rfl (Cells.own (n := 4) PickB.eq rfl) rfl), ?_⟩
    refine Dx.one (i := 5) (by kernel_rfl) ?_
    refine Dstep.o (i := 5) rfl (appB (A := some ⟨b5, 0, none⟩) i ((fl.take i).flatMap rfc) Try.underlying27 Try.underlying27 ti138 rfl rfl hrt (rfc_all _) (by omega) (by omega) (by omega) rfl) rfl (fun v B' H' hΦ hB => ?_)
    obtain ⟨A1, c1, rfl, hA1, hc1, hBB, rfl⟩ := hΦ
    have hBB2 := hBB.symm
    subst hBB2
    refine ⟨JOk.yes (JOk.yes (JOk.top) (Yx.val (ld Try.underlying27 rfl rfl rfl) (show _ = Value.slice Af fl.length cf from rfl))) (ldA Try.underlying138 rfl sz138 rfl (Cells.own (n := 4) PickB.eq rfl) rfl), ?_⟩
    refine Dx.one (i := 8) (by kernel_rfl) ?_
    refine Dstep.o (i := 8) rfl (appN (A := A1) (i + 1) (rfc f) ((fl.take i ++ [f]).flatMap rfc) Try.underlying27 Try.underlying27 ti138 rfl rfl rfl rfl rfl (by omega) (by omega) rfl (by simp)) rfl (fun v B' H' hΦ hB => ?_)
    obtain ⟨A2, c2, rfl, hA2, hl2, hc2, hBB, rfl⟩ := hΦ
    have hBB2 := hBB.symm
    subst hBB2
    refine ⟨JOk.yes (JOk.yes (JOk.top) (Yx.val (ld Try.underlying27 rfl rfl rfl) (show _ = Value.slice Af fl.length cf from rfl))) (ldA Try.underlying138 rfl sz138 rfl (Cells.own (n := 4) PickB.eq rfl) rfl), ?_⟩
    refine Dx.one (i := 10) (by kernel_rfl) ?_
    refine Dstep.o (i := 10) rfl (appB (A := A2) (i + 1 + nr) ((fl.take i ++ [f] ++ rl).flatMap rfc) Try.underlying27 Try.underlying27 ti138 rfl rfl hrr (rfc_all _) (by omega) (by omega) (by omega) (by simp)) rfl (fun v B' H' hΦ hB => ?_)
    obtain ⟨A3, c3, rfl, hA3, hc3, hBB, rfl⟩ := hΦ
    have hBB2 := hBB.symm
    subst hBB2
    refine ⟨JOk.yes (JOk.yes (JOk.top) (Yx.val (ld Try.underlying27 rfl rfl rfl) (show _ = Value.slice Af fl.length cf from rfl))) (ldA Try.underlying138 rfl sz138 rfl (Cells.own (n := 4) PickB.eq rfl) rfl), ?_⟩
    refine Dx.p (i := 11) rfl (by kernel_rfl) (fa' fo30_0 rfl) rfl ?_
    refine Dx.one (i := 12) (by kernel_rfl) ?_
    refine Dstep.o0 (i := 12) rfl (stO Try.underlying27 sz27 rfl rfl rfl (by show 0 < 5; omega) rfl) (fun v B' H' hΦ hB => ?_)
    obtain ⟨hBB, rfl⟩ := hΦ; have hBB2 := hBB.symm; subst hBB2; clear hB v
    refine ⟨JOk.edge (JOk.edge (JOk.top) (by kernel_rfl)) (by kernel_rfl), ?_⟩
    refine Dx.done (by kernel_rfl) ?_
    refine Xx.tn (k7 _ _ _ _ ?_)
    refine Cx.seq (fun K10 k10 => ?_)
    refine Cx.region ?_
    refine Lx.y (ldA Try.underlying30 rfl sz30 rfl (Cells.own (n := 5) PickB.eq rfl) rfl) rfl ?_
    refine Lx.st (stA (d := .bool) sz30 rfl rfl rfl rfl (by show 0 + 5 ≤ 5; omega) rfl) ?_
    refine Lx.nil ?_
    refine Xx.tn (k10 _ _ _ _ ?_)
    refine Cx.ret ?_
    refine Xx.freezeT A3 fun B3 hB3 hRo hnc _ => ?_
    have hgl : (fl.take i ++ [f] ++ rl).length = i + 1 + nr := by simp only [List.length_append, List.length_take, List.length_singleton]; omega
    refine Xx.dropB b2 (Xx.dropB b3 (Xx.dropB b6 ?_))
    exact Xx.rBa rfl Try.underlying30 rfl sz30 rfl rfl ⟨⟨fl.take i ++ [f] ++ rl, A3, c3, room, ch, off⟩, by unfold rdc; rw [hgl], ⟨by rw [hgl]; exact hRo, by rw [hgl]; exact hnc, by rw [hgl]; omega, fun g hg => by
      rcases List.mem_append.1 hg with hg | hg
      · rcases List.mem_append.1 hg with hg | hg
        · exact (hfs g (List.mem_of_mem_take hg)).mono hB3 (by omega)
        · rw [List.mem_singleton.1 hg]; exact hf.mono hB3 (Nat.le_refl _)
      · exact (hfs g (hrl g hg)).mono hB3 (by omega), hroom, hch⟩⟩ hB3
end DkO
end Go.Proofs.Ytgcebieihmlaoaa
