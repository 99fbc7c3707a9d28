/-
  Texts of this seat, one behind the other: Jn6.
-/
import Derived.Test.YtgcebieihmlaoaaProg
import Derived.Test.YtgcebieihmlaoaaMg4

/-
  The walk of the law of a journal that has no room.
-/
namespace Go.Proofs.Ytgcebieihmlaoaa
open Go.SL Go.RowKit
set_option linter.unusedVariables false
set_option linter.unusedSimpArgs false
set_option maxRecDepth 100000
open DkA DkB DkD DkE DkF DkG DkH DkI DkJ DkN Fr1 Jn1 Jn2 Jn3 Jn4 Jn5
namespace Jn6
theorem sz3 : (Try.prog.info? 3).map (·.size) = some 1 := by kernel_rfl
theorem sz4 : (Try.prog.info? 4).map (·.size) = some 1 := by kernel_rfl
theorem sz9 : (Try.prog.info? 9).map (·.size) = some 1 := by kernel_rfl
theorem sz62 : (Try.prog.info? 62).map (·.size) = some 1 := by kernel_rfl
theorem sz74 : (Try.prog.info? 74).map (·.size) = some 4 := by kernel_rfl
theorem sz115 : (Try.prog.info? 115).map (·.size) = some 5 := by kernel_rfl
theorem ti5 : TI Try.prog 5 [.int .u8 0] 1 1 := TI.of (by kernel_rfl) rfl rfl
theorem ti9 : TI Try.prog 9 [str []] 1 16 := TI.of (by kernel_rfl) rfl rfl
theorem ti74 : TI Try.prog 74 [.int .i64 0, .int .i64 0, str [], .bool false] 4 40 := TI.of (by kernel_rfl) rfl rfl
theorem fo74_2 : FO Try.prog 74 2 2 1 false := FO.of Try.underlying74 rfl rfl (by kernel_rfl) Try.underlying9 rfl rfl
theorem fo74_3 : FO Try.prog 74 3 3 1 false := FO.of Try.underlying74 rfl rfl (by kernel_rfl) Try.underlying4 rfl rfl

theorem cell_of {cs vs : List Value} {o n : Nat} {v : Value} (h : (cs.drop o).take n = vs) (j : Nat) (hj : j < n) (hv : vs[j]? = some v) : cs[o + j]? = some v := by
  subst h
  rw [List.getElem?_take_of_lt hj, List.getElem?_drop] at hv
  exact hv

/-- Texts that come in as one of many lists. -/
structure Tx where
  A : Option Addr
  c : Nat
  xs : List (List UInt8)
def txc (x : Tx) : List Value := [.slice x.A x.xs.length x.c]
theorem txc_len (x : Tx) : (txc x).length = 1 := rfl
def TxOk (B : Frag) (x : Tx) : Prop := (0 < x.xs.length → RoS B 1 x.A x.xs.length (x.xs.map str)) ∧ x.xs.length ≤ 9223372036854775807
theorem TxOk.mono {B B' : Frag} {x : Tx} (h : TxOk B x) (hB : B.le B') : TxOk B' x := ⟨fun h0 => (h.1 h0).mono hB, h.2⟩
theorem bandM (n : Int) (k : Nat) (hk : k ≤ 1000000) : ∃ m : Nat, bAnd .i64 n (k : Int) = (m : Int) ∧ m ≤ k := by
  have h0 : (BitVec.ofInt 64 (k : Int)).toNat = k := by rw [BitVec.toNat_ofInt]; omega
  have h1 : (BitVec.ofInt 64 n &&& BitVec.ofInt 64 (k : Int)).toNat ≤ k := by
    rw [BitVec.toNat_and]; refine Nat.le_trans Nat.and_le_right (Nat.le_of_eq h0)
  refine ⟨_, ?_, h1⟩
  unfold bAnd
  show IntKind.i64.wrap (((BitVec.ofInt 64 n &&& BitVec.ofInt 64 (k : Int)).toNat : Nat) : Int) = _
  exact wrap64 (by omega) (by omega)
theorem pair_at {l : List Rc} {ms : List (List UInt8)} (h : l.map (fun r : Rc => (r.body, r.good)) = ms.map (fun s : List UInt8 => (s, true))) {i : Nat} (hi : i < ms.length) : ∃ hl : i < l.length, l[i].body = ms[i] ∧ l[i].good = true := by
  have hl : l.length = ms.length := by have := congrArg List.length h; simpa using this
  have h1 := congrArg (·[i]?) h
  simp only [List.getElem?_map, List.getElem?_eq_getElem (show i < l.length by omega), List.getElem?_eq_getElem hi, Option.map_some] at h1
  injection h1 with h1
  injection h1 with h2 h3
  exact ⟨by omega, h2, h3⟩
theorem pair_len {l : List Rc} {ms : List (List UInt8)} (h : l.map (fun r : Rc => (r.body, r.good)) = ms.map (fun s : List UInt8 => (s, true))) : l.length = ms.length := by have := congrArg List.length h; simpa using this
theorem str_at {l : List (List UInt8)} {j : Nat} (h : j < l.length) : ((l.map str).drop (0 + j * 1)).take 1 = [str l[j]] := by
  rw [show 0 + j * 1 = j by omega, List.drop_eq_getElem_cons (by rw [List.length_map]; exact h)]
  simp
theorem atV_in {l : List Rc} {i : Nat} (h : i < l.length) : atV l (i : Int) = .tuple #[.agg (rcc l[i]).toArray, .bool true] := by
  unfold atV
  rw [dif_pos ⟨by omega, by omega⟩]
  rfl

set_option maxHeartbeats 16000000 in
theorem JournalFull_ct (l : List Tx) (Ao : Option Addr) (co : Nat) (sectors : Int) (B : Frag) (hl : 0 < l.length → RoS B 1 Ao l.length (l.flatMap txc)) (hx : ∀ x ∈ l, TxOk B x) (hn : l.length ≤ 9223372036854775807) : CtB Try.prog 6 [.slice Ao l.length co, i64 sectors] B (fun v B' => v = .bool true) := by
  obtain ⟨m, hm1, hm2⟩ := bandM sectors 31 (by decide)
  refine CtB.of_body Try.func6 rfl (nt := 116) rfl (by kernel_rfl) rfl ?_
  intro N0 w0 R
  refine Cx.seq (fun K1 k1 => ?_)
  refine Cx.region ?_
  refine Lx.y (asg rfl) rfl ?_
  refine Lx.nil ?_
  refine Xx.tn (k1 _ _ _ _ ?_)
  refine Cx.seq (fun K2 k2 => ?_)
  refine Cx.region ?_
  refine Lx.y (mv rfl) rfl ?_
  refine Lx.y (Yx.val (band rfl rfl rfl) (show _ = i64 ((m : Nat) : Int) from by rw [← hm1]; rfl)) rfl ?_
  refine Lx.c rfl rfl rfl (New2_ct (m : Int) _ (by omega)) ((one_star _).symm) rfl ?_
  rintro v1 B1 H1 ⟨hBB, db, d0, rfl, hd0, rfl⟩ hB1
  have hBB2 := hBB.symm
  subst hBB2
  clear hB1
  have hc0 : DkN.Calm 0 0 0 d0.abs := by rw [hd0]; exact calm_new m ⟨by omega, by omega⟩
  refine Lx.y (mv rfl) rfl ?_
  refine Lx.y (ext rfl rfl) rfl ?_
  refine Lx.y (ext rfl rfl) rfl ?_
  refine Lx.y (asg rfl) rfl ?_
  refine Lx.y (asg rfl) rfl ?_
  refine Lx.nil ?_
  refine Xx.tn (k2 _ _ _ _ ?_)
  refine Cx.seq (fun K3 k3 => ?_)
  refine Cx.region ?_
  refine Lx.y (mv rfl) rfl ?_
  refine Lx.c rfl rfl rfl (JOpenF_ct d0 db 100 [] 0 0 0 _ hc0 (by decide) (by decide) (by decide) (by decide) (by rw [hd0]; exact holds_none)) (rfl) rfl ?_
  rintro v2 B2 H2 ⟨jb, j0, rfl, hjd0, hjm0, hj0, rfl⟩ hB2
  refine Lx.y (mv rfl) rfl ?_
  refine Lx.y (ext rfl rfl) rfl ?_
  refine Lx.y (ext rfl rfl) rfl ?_
  refine Lx.y (asg rfl) rfl ?_
  refine Lx.y (asg rfl) rfl ?_
  refine Lx.nil ?_
  refine Xx.tn (k3 _ _ _ _ ?_)
  refine Cx.seq (fun K4 k4 => ?_)
  refine Cx.seq (fun K5 k5 => ?_)
  refine Cx.region ?_
  refine Lx.cb rfl rfl rfl (awake_ct _) rfl ?_
  rintro v3 B3 rfl hB3
  refine Lx.y (not' rfl) rfl ?_
  refine Lx.y (mv rfl) rfl ?_
  refine Lx.gT rfl rfl rfl ?_
  refine Lx.y (mv rfl) rfl ?_
  refine Lx.gT rfl rfl rfl ?_
  refine Lx.y (Yx.ff (neI rfl rfl) rfl) rfl ?_
  refine Lx.y (pickF rfl rfl) rfl ?_
  refine Lx.y (mv rfl) rfl ?_
  refine Lx.gT rfl rfl rfl ?_
  refine Lx.y (mv rfl) rfl ?_
  refine Lx.gT rfl rfl rfl ?_
  refine Lx.y (Yx.ff (neI rfl rfl) rfl) rfl ?_
  refine Lx.y (pickF rfl rfl) rfl ?_
  refine Lx.nil ?_
  refine Xx.tn (k5 _ _ _ _ ?_)
  refine Cx.condF rfl ?_
  refine Cx.skip ?_
  refine Xx.tn (k4 _ _ _ _ ?_)
  refine Cx.seq (fun K7 k7 => ?_)
  refine Cx.region ?_
  refine Lx.o (bslZ Try.underlying62 ti9) rfl (fun v B' H' hΦ hB => ?_)
  obtain ⟨b0, rfl, hBB, rfl⟩ := hΦ
  have hBB2 := hBB.symm
  subst hBB2
  clear hB
  refine Lx.y (asg rfl) rfl ?_
  refine Lx.nil ?_
  refine Xx.tn (k7 _ _ _ _ ?_)
  refine Cx.cutK (ds' := []) (Sub.cons (s := 0) rfl (Sub.cons (s := 1) rfl (Sub.cons (s := 5) rfl (Sub.cons (s := 6) rfl (Sub.cons (s := 7) rfl (Sub.cons (s := 8) rfl (Sub.cons (s := 19) rfl (Sub.cons (s := 20) rfl (Sub.cons (s := 21) rfl (Sub.cons (s := 22) rfl (Sub.cons (s := 23) rfl (Sub.cons (s := 24) rfl (Sub.cons (s := 25) rfl (Sub.cons (s := 26) rfl (Sub.cons (s := 27) rfl (Sub.cons (s := 28) rfl (Sub.cons (s := 29) rfl (Sub.cons (s := 30) rfl (Sub.cons (s := 31) rfl (Sub.cons (s := 32) rfl (Sub.cons (s := 33) rfl (Sub.cons (s := 34) rfl (Sub.cons (s := 35) rfl (Sub.cons (s := 36) rfl (Sub.cons (s := 37) rfl (Sub.cons (s := 38) rfl (Sub.cons (s := 39) rfl (Sub.cons (s := 40) rfl (Sub.nil _))))))))))))))))))))))))))))) (fun ρ' B' H' => ∃ (d : Dk) (j : Jn) (fb : List (List Ck)) (ms : List (List UInt8)) (Am : Option Addr) (cm : Nat), ρ' = [(9, .slice Am ms.length cm)] ∧ jnH jb j * (dkH db d * (sbuf 9 1 Am ms.length cm (ms.map str) * R)) = H' ∧ DkN.Calm 40 19440 40 d.abs ∧ Fits d.abs j fb ∧ j.l.map (fun r : Rc => (r.body, r.good)) = ms.map (fun s : List UInt8 => (s, true)) ∧ ms.length ≤ 120 ∧ B.le B') ?_ ?_
  · skip
    refine Cx.seq (fun K8 k8 => ?_)
    refine Cx.region ?_
    refine Lx.y (asg rfl) rfl ?_
    refine Lx.nil ?_
    refine Xx.tn (k8 _ _ _ _ ?_)
    refine Cx.block ?_
    refine Cx.loopK (Sub.cons (s := 0) rfl (Sub.cons (s := 1) rfl (Sub.cons (s := 5) rfl (Sub.cons (s := 6) rfl (Sub.cons (s := 7) rfl (Sub.cons (s := 8) rfl (Sub.cons (s := 19) rfl (Sub.cons (s := 20) rfl (Sub.cons (s := 21) rfl (Sub.cons (s := 22) rfl (Sub.cons (s := 23) rfl (Sub.cons (s := 24) rfl (Sub.cons (s := 25) rfl (Sub.cons (s := 26) rfl (Sub.cons (s := 27) rfl (Sub.cons (s := 28) rfl (Sub.cons (s := 29) rfl (Sub.cons (s := 30) rfl (Sub.cons (s := 31) rfl (Sub.cons (s := 32) rfl (Sub.cons (s := 33) rfl (Sub.cons (s := 34) rfl (Sub.cons (s := 35) rfl (Sub.cons (s := 36) rfl (Sub.cons (s := 37) rfl (Sub.cons (s := 38) rfl (Sub.cons (s := 39) rfl (Sub.cons (s := 40) rfl (Sub.nil _))))))))))))))))))))))))))))) (fun m ρ' B' H' => ∃ (i : Nat) (d : Dk) (j : Jn) (fb : List (List Ck)) (ms : List (List UInt8)) (Am : Option Addr) (cm : Nat) (B4 : Frag), (i ≤ 20 ∧ DkN.Calm (2 * i) (972 * i) (2 * i) d.abs ∧ Fits d.abs j fb ∧ j.db = db ∧ j.l.map (fun r : Rc => (r.body, r.good)) = ms.map (fun s : List UInt8 => (s, true)) ∧ ms.length ≤ 6 * i ∧ B.le B4) ∧ m = 20 - i ∧ ρ' = [(9, .slice Am ms.length cm), (10, i64 (i : Int))] ∧ B4 = B' ∧ jnH jb j * (dkH db d * (sbuf 9 1 Am ms.length cm (ms.map str) * R)) = H') ⟨0, d0, j0, [], [], some ⟨b0, 0, none⟩, 0, _, ⟨Nat.zero_le _, hc0, hj0, hjd0, by rw [hj0.l]; rfl, Nat.zero_le _, Frag.le_trans hB2 hB3⟩, rfl, rfl, rfl, by show _ * (_ * (sbuf _ 1 (some ⟨b0, 0, none⟩) 0 0 [] * R)) = _; ac_rfl⟩ (Sub.cons (s := 9) rfl (Sub.cons (s := 10) rfl (Sub.cons (s := 0) rfl (Sub.cons (s := 1) rfl (Sub.cons (s := 5) rfl (Sub.cons (s := 6) rfl (Sub.cons (s := 7) rfl (Sub.cons (s := 8) rfl (Sub.cons (s := 19) rfl (Sub.cons (s := 20) rfl (Sub.cons (s := 21) rfl (Sub.cons (s := 22) rfl (Sub.cons (s := 23) rfl (Sub.cons (s := 24) rfl (Sub.cons (s := 25) rfl (Sub.cons (s := 26) rfl (Sub.cons (s := 27) rfl (Sub.cons (s := 28) rfl (Sub.cons (s := 29) rfl (Sub.cons (s := 30) rfl (Sub.cons (s := 31) rfl (Sub.cons (s := 32) rfl (Sub.cons (s := 33) rfl (Sub.cons (s := 34) rfl (Sub.cons (s := 35) rfl (Sub.cons (s := 36) rfl (Sub.cons (s := 37) rfl (Sub.cons (s := 38) rfl (Sub.cons (s := 39) rfl (Sub.cons (s := 40) rfl (Sub.nil _))))))))))))))))))))))))))))))) ?_
    rintro m ρ' B' H' ⟨i, d, j, fb, ms, Am, cm, B4, ⟨hi, hc, hf, hjd, hpm, hml, hBle⟩, rfl, rfl, rfl, rfl⟩
    refine Cx.seq (fun K9 k9 => ?_)
    refine Cx.seq (fun K10 k10 => ?_)
    refine Cx.region ?_
    refine Lx.y (mv rfl) rfl ?_
    refine Lx.y (mv rfl) rfl ?_
    refine Lx.y (lenV (ty' := 0) Try.underlying61 rfl) rfl ?_
    refine Lx.y (lss rfl rfl) rfl ?_
    refine Lx.y (mv rfl) rfl ?_
    refine Xx.ifD (t := 45) rfl (fun h11 => ?_) (fun h11 => ?_)
    · skip
      have hlt := h11
      have hlt : i < l.length := by omega
      refine Lx.gT rfl rfl rfl ?_
      refine Lx.y (mv rfl) rfl ?_
      refine Lx.gT rfl rfl rfl ?_
      refine Lx.y (lss rfl rfl) rfl ?_
      refine Lx.y (pickT rfl rfl) rfl ?_
      refine Lx.nil ?_
      refine Xx.tn (k10 _ _ _ _ ?_)
      refine Cx.condD rfl (fun h12 => ?_) (fun h12 => ?_)
      · skip
        have h20 := h12
        have h20 : i < 20 := by omega
        obtain ⟨b9, o9, cs9, et9, fz9, hA9, hB9, hc9⟩ := flat_at txc_len (hl (by omega)) hlt
        have hB9 := hBle _ _ hB9
        have hxi := (hx _ (List.getElem_mem hlt)).mono hBle
        refine Cx.skip ?_
        refine Xx.tn (k9 _ _ _ _ ?_)
        refine Cx.seq (fun K13 k13 => ?_)
        refine Cx.block ?_
        refine Cx.seq (fun K14 k14 => ?_)
        refine Cx.region ?_
        refine Lx.y (mv rfl) rfl ?_
        refine Lx.y (mv rfl) rfl ?_
        refine Lx.y (Yx.val (ia (b := b9) (o := o9) Try.underlying61 sz62 (by rw [← hA9]; rfl) rfl (Int.toNat_natCast _) (by omega) (by omega)) rfl) rfl ?_
        refine Lx.y (ldB Try.underlying62 rfl rfl hB9 (cell_of hc9 0 (by omega) rfl)) rfl ?_
        refine Lx.cb rfl rfl rfl (cut_ct l[i].xs l[i].A l[i].c _ hxi.1 hxi.2) rfl ?_
        rintro v5 B5 ⟨Ac, cc, rfl, hRc⟩ hB5
        have hca := cutL_all l[i].xs
        have hcl := cutL_len l[i].xs
        have hjl := pair_len hpm
        refine Lx.y (asg rfl) rfl ?_
        refine Lx.nil ?_
        refine Xx.tn (k14 _ _ _ _ ?_)
        refine Cx.seq (fun K16 k16 => ?_)
        refine Cx.region ?_
        refine Lx.y (mv rfl) rfl ?_
        refine Lx.y (mv rfl) rfl ?_
        refine Lx.c rfl rfl rfl (JAddF_ct jb j d fb (cutL l[i].xs) Ac cc (2 * i) (972 * i) (2 * i) _ hf hRc hc (by omega) (by omega) (by omega) (fun s hs => Nat.le_trans (cutL_mem hs) (by decide)) (by omega) (by omega) (by omega)) ((show _ = (jnH jb j * dkH j.db d) * (sbuf 9 1 Am ms.length cm (ms.map str) * R) by rw [hjd]; ac_rfl)) rfl ?_
        rintro v6 B6 H6 ⟨n4, e4, d4, j4, fb4, rfl, rfl, hdb4, hm4, hf4, hc4, hs4, hor⟩ hB6
        rw [hdb4, hjd]
        simp only [star_assoc]
        refine Lx.y (mv rfl) rfl ?_
        refine Lx.y (ext rfl rfl) rfl ?_
        refine Lx.y (ext rfl rfl) rfl ?_
        refine Lx.y (asg rfl) rfl ?_
        refine Lx.y (asg rfl) rfl ?_
        refine Lx.nil ?_
        refine Xx.tn (k16 _ _ _ _ ?_)
        refine Cx.seq (fun K17 k17 => ?_)
        refine Cx.seq (fun K18 k18 => ?_)
        refine Cx.region ?_
        refine Lx.y (mv rfl) rfl ?_
        refine Lx.y (eqI rfl rfl) rfl ?_
        refine Lx.nil ?_
        refine Xx.tn (k18 _ _ _ _ ?_)
        refine Cx.condD rfl (fun h19 => ?_) (fun h19 => ?_)
        · skip
          have he4 : e4 = 0 := h19
          obtain ⟨_, _, hl4⟩ := hor.resolve_right (fun h => by have := h.1; omega)
          have hpm4 : j4.l.map (fun r : Rc => (r.body, r.good)) = (ms ++ cutL l[i].xs).map (fun s : List UInt8 => (s, true)) := by rw [hl4, List.map_append, hpm, recsAt_good, List.map_append]
          have hlen4 := pair_len hpm4
          rw [List.length_append] at hlen4
          refine Cx.region ?_
          refine Lx.y (mv rfl) rfl ?_
          refine Lx.y (mv rfl) rfl ?_
          refine Lx.o (appB (et := 9) (A := Am) (ms.length + (cutL l[i].xs).length) ((ms ++ cutL l[i].xs).map str) Try.underlying62 Try.underlying62 ti9 rfl rfl (hRc.mono hB6) (strs_all _) (by omega) (by omega) rfl (by rw [List.map_append])) rfl (fun v B' H' hΦ hB => ?_)
          obtain ⟨A2, c2, rfl, hA2, hc2, hBB, rfl⟩ := hΦ
          have hBB2 := hBB.symm
          subst hBB2
          clear hB
          refine Lx.y (asg rfl) rfl ?_
          refine Lx.nil ?_
          refine Xx.tn (k17 _ _ _ _ ?_)
          refine Cx.seq (fun K20 k20 => ?_)
          refine Cx.region ?_
          refine Lx.y (mv rfl) rfl ?_
          refine Lx.co rfl rfl rfl (JLen_ct jb j4 _) (Pick.eq) rfl ?_
          refine Lx.y (mv rfl) rfl ?_
          refine Lx.y (lenV (ty' := 0) Try.underlying62 rfl) rfl ?_
          refine Lx.y (Yx.ff (neI rfl rfl) (by rw [hlen4]; simp)) rfl ?_
          refine Lx.nil ?_
          refine Xx.tn (k20 _ _ _ _ ?_)
          refine Cx.condF rfl ?_
          refine Cx.skip ?_
          refine Xx.bn ?_
          refine Xx.tn (k13 _ _ _ _ ?_)
          refine Cx.region ?_
          refine Lx.y (mv rfl) rfl ?_
          refine Lx.y (Yx.val (add rfl rfl (by first | exact wrap64 (by omega) (by omega) | rfl)) (show _ = i64 ((i + 1 : Nat) : Int) from rfl)) rfl ?_
          refine Lx.y (asg rfl) rfl ?_
          refine Lx.nil ?_
          exact Xx.againK ⟨i + 1, d4, j4, fb4, ms ++ cutL l[i].xs, A2, c2, _, ⟨by omega, hc4.mono (by omega) (by omega) (by omega), hf4, by rw [hdb4, hjd], hpm4, by rw [List.length_append]; omega, Frag.le_trans hBle (Frag.le_trans hB5 hB6)⟩, rfl, rfl, rfl, (by rw [List.length_append]; ac_rfl)⟩ (by omega) (Sub.consE (s := 9) rfl (by rw [List.length_append]) (Sub.cons (s := 10) rfl (Sub.cons (s := 0) rfl (Sub.cons (s := 1) rfl (Sub.cons (s := 5) rfl (Sub.cons (s := 6) rfl (Sub.cons (s := 7) rfl (Sub.cons (s := 8) rfl (Sub.cons (s := 19) rfl (Sub.cons (s := 20) rfl (Sub.cons (s := 21) rfl (Sub.cons (s := 22) rfl (Sub.cons (s := 23) rfl (Sub.cons (s := 24) rfl (Sub.cons (s := 25) rfl (Sub.cons (s := 26) rfl (Sub.cons (s := 27) rfl (Sub.cons (s := 28) rfl (Sub.cons (s := 29) rfl (Sub.cons (s := 30) rfl (Sub.cons (s := 31) rfl (Sub.cons (s := 32) rfl (Sub.cons (s := 33) rfl (Sub.cons (s := 34) rfl (Sub.cons (s := 35) rfl (Sub.cons (s := 36) rfl (Sub.cons (s := 37) rfl (Sub.cons (s := 38) rfl (Sub.cons (s := 39) rfl (Sub.cons (s := 40) rfl (Sub.nil _)))))))))))))))))))))))))))))))
        · skip
          have he4 : ¬ e4 = 0 := h19
          obtain ⟨h50, _, hl4, _⟩ := hor.resolve_left (fun h => he4 h.1)
          have hlen4 : j4.l.length = ms.length := by rw [hl4]; exact hjl
          refine Cx.seq (fun K21 k21 => ?_)
          refine Cx.region ?_
          refine Lx.y (mv rfl) rfl ?_
          refine Lx.y (Yx.ff (neI rfl rfl) (by rw [h50]; rfl)) rfl ?_
          refine Lx.nil ?_
          refine Xx.tn (k21 _ _ _ _ ?_)
          refine Cx.condF rfl ?_
          refine Cx.skip ?_
          refine Xx.tn (k17 _ _ _ _ ?_)
          refine Cx.seq (fun K22 k22 => ?_)
          refine Cx.region ?_
          refine Lx.y (mv rfl) rfl ?_
          refine Lx.co rfl rfl rfl (JLen_ct jb j4 _) (Pick.eq) rfl ?_
          refine Lx.y (mv rfl) rfl ?_
          refine Lx.y (lenV (ty' := 0) Try.underlying62 rfl) rfl ?_
          refine Lx.y (Yx.ff (neI rfl rfl) (by rw [hlen4]; simp)) rfl ?_
          refine Lx.nil ?_
          refine Xx.tn (k22 _ _ _ _ ?_)
          refine Cx.condF rfl ?_
          refine Cx.skip ?_
          refine Xx.bn ?_
          refine Xx.tn (k13 _ _ _ _ ?_)
          refine Cx.region ?_
          refine Lx.y (mv rfl) rfl ?_
          refine Lx.y (Yx.val (add rfl rfl (by first | exact wrap64 (by omega) (by omega) | rfl)) (show _ = i64 ((i + 1 : Nat) : Int) from rfl)) rfl ?_
          refine Lx.y (asg rfl) rfl ?_
          refine Lx.nil ?_
          exact Xx.againK ⟨i + 1, d4, j4, fb4, ms, Am, cm, _, ⟨by omega, hc4.mono (by omega) (by omega) (by omega), hf4, by rw [hdb4, hjd], by rw [hl4]; exact hpm, by omega, Frag.le_trans hBle (Frag.le_trans hB5 hB6)⟩, rfl, rfl, rfl, (by ac_rfl)⟩ (by omega) (Sub.cons (s := 9) rfl (Sub.cons (s := 10) rfl (Sub.cons (s := 0) rfl (Sub.cons (s := 1) rfl (Sub.cons (s := 5) rfl (Sub.cons (s := 6) rfl (Sub.cons (s := 7) rfl (Sub.cons (s := 8) rfl (Sub.cons (s := 19) rfl (Sub.cons (s := 20) rfl (Sub.cons (s := 21) rfl (Sub.cons (s := 22) rfl (Sub.cons (s := 23) rfl (Sub.cons (s := 24) rfl (Sub.cons (s := 25) rfl (Sub.cons (s := 26) rfl (Sub.cons (s := 27) rfl (Sub.cons (s := 28) rfl (Sub.cons (s := 29) rfl (Sub.cons (s := 30) rfl (Sub.cons (s := 31) rfl (Sub.cons (s := 32) rfl (Sub.cons (s := 33) rfl (Sub.cons (s := 34) rfl (Sub.cons (s := 35) rfl (Sub.cons (s := 36) rfl (Sub.cons (s := 37) rfl (Sub.cons (s := 38) rfl (Sub.cons (s := 39) rfl (Sub.cons (s := 40) rfl (Sub.nil _)))))))))))))))))))))))))))))))
      · skip
        refine Cx.exit ?_
        refine Xx.te ?_
        refine Xx.te ?_
        refine Xx.bh ?_
        exact Xx.mkK (⟨d, j, fb, ms, Am, cm, rfl, rfl, hc.mono (by omega) (by omega) (by omega), hf, hpm, by omega, hBle⟩) (Sub.cons (s := 9) rfl (Sub.cons (s := 0) rfl (Sub.cons (s := 1) rfl (Sub.cons (s := 5) rfl (Sub.cons (s := 6) rfl (Sub.cons (s := 7) rfl (Sub.cons (s := 8) rfl (Sub.cons (s := 19) rfl (Sub.cons (s := 20) rfl (Sub.cons (s := 21) rfl (Sub.cons (s := 22) rfl (Sub.cons (s := 23) rfl (Sub.cons (s := 24) rfl (Sub.cons (s := 25) rfl (Sub.cons (s := 26) rfl (Sub.cons (s := 27) rfl (Sub.cons (s := 28) rfl (Sub.cons (s := 29) rfl (Sub.cons (s := 30) rfl (Sub.cons (s := 31) rfl (Sub.cons (s := 32) rfl (Sub.cons (s := 33) rfl (Sub.cons (s := 34) rfl (Sub.cons (s := 35) rfl (Sub.cons (s := 36) rfl (Sub.cons (s := 37) rfl (Sub.cons (s := 38) rfl (Sub.cons (s := 39) rfl (Sub.cons (s := 40) rfl (Sub.nil _))))))))))))))))))))))))))))))
    · skip
      refine Lx.gF rfl rfl rfl rfl ?_
      refine Lx.gF rfl rfl rfl rfl ?_
      refine Lx.y (pickF rfl rfl) rfl ?_
      refine Lx.nil ?_
      refine Xx.tn (k10 _ _ _ _ ?_)
      refine Cx.condF rfl ?_
      refine Cx.exit ?_
      refine Xx.te ?_
      refine Xx.te ?_
      refine Xx.bh ?_
      exact Xx.mkK (⟨d, j, fb, ms, Am, cm, rfl, rfl, hc.mono (by omega) (by omega) (by omega), hf, hpm, by omega, hBle⟩) (Sub.cons (s := 9) rfl (Sub.cons (s := 0) rfl (Sub.cons (s := 1) rfl (Sub.cons (s := 5) rfl (Sub.cons (s := 6) rfl (Sub.cons (s := 7) rfl (Sub.cons (s := 8) rfl (Sub.cons (s := 19) rfl (Sub.cons (s := 20) rfl (Sub.cons (s := 21) rfl (Sub.cons (s := 22) rfl (Sub.cons (s := 23) rfl (Sub.cons (s := 24) rfl (Sub.cons (s := 25) rfl (Sub.cons (s := 26) rfl (Sub.cons (s := 27) rfl (Sub.cons (s := 28) rfl (Sub.cons (s := 29) rfl (Sub.cons (s := 30) rfl (Sub.cons (s := 31) rfl (Sub.cons (s := 32) rfl (Sub.cons (s := 33) rfl (Sub.cons (s := 34) rfl (Sub.cons (s := 35) rfl (Sub.cons (s := 36) rfl (Sub.cons (s := 37) rfl (Sub.cons (s := 38) rfl (Sub.cons (s := 39) rfl (Sub.cons (s := 40) rfl (Sub.nil _))))))))))))))))))))))))))))))
  · rintro ρ' B' H' ⟨d, j, fb, ms, Am, cm, rfl, rfl, hc, hf, hpm, hml, hBle⟩
    rename Frag => B4
    refine Cx.seq (fun K23 k23 => ?_)
    refine Cx.region ?_
    refine Lx.y (mv rfl) rfl ?_
    refine Lx.c rfl rfl rfl (JOpenF_ct d db 100 fb 40 19440 40 _ hc (by decide) (by decide) (by decide) (by decide) hf.holds) (Pick.eq) rfl ?_
    rintro v7 B7 H7 ⟨kb, k, rfl, hkd, hkm, hkf, rfl⟩ hB7
    have hkl : k.l = j.l := by rw [hkf.l, ← hf.l]
    have hkp : k.l.map (fun r : Rc => (r.body, r.good)) = ms.map (fun s : List UInt8 => (s, true)) := by rw [hkl]; exact hpm
    have hkn := pair_len hkp
    simp only [star_assoc]
    refine Lx.y (mv rfl) rfl ?_
    refine Lx.y (ext rfl rfl) rfl ?_
    refine Lx.y (ext rfl rfl) rfl ?_
    refine Lx.y (asg rfl) rfl ?_
    refine Lx.y (asg rfl) rfl ?_
    refine Lx.nil ?_
    refine Xx.tn (k23 _ _ _ _ ?_)
    refine Cx.seq (fun K24 k24 => ?_)
    refine Cx.seq (fun K25 k25 => ?_)
    refine Cx.region ?_
    refine Lx.y (mv rfl) rfl ?_
    refine Lx.y (Yx.ff (neI rfl rfl) rfl) rfl ?_
    refine Lx.y (mv rfl) rfl ?_
    refine Lx.gT rfl rfl rfl ?_
    refine Lx.y (mv rfl) rfl ?_
    refine Lx.gT rfl rfl rfl ?_
    refine Lx.co rfl rfl rfl (JLen_ct kb k _) (Pick.eq) rfl ?_
    refine Lx.gT rfl rfl rfl ?_
    refine Lx.y (mv rfl) rfl ?_
    refine Lx.gT rfl rfl rfl ?_
    refine Lx.y (lenV (ty' := 0) Try.underlying62 rfl) rfl ?_
    refine Lx.gT rfl rfl rfl ?_
    refine Lx.y (Yx.ff (neI rfl rfl) (by rw [hkn]; simp)) rfl ?_
    refine Lx.y (pickF rfl rfl) rfl ?_
    refine Lx.nil ?_
    refine Xx.tn (k25 _ _ _ _ ?_)
    refine Cx.condF rfl ?_
    refine Cx.skip ?_
    refine Xx.tn (k24 _ _ _ _ ?_)
    refine Cx.seq (fun K26 k26 => ?_)
    refine Cx.seq (fun K27 k27 => ?_)
    refine Cx.region ?_
    refine Lx.y (asg rfl) rfl ?_
    refine Lx.nil ?_
    refine Xx.tn (k27 _ _ _ _ ?_)
    refine Cx.block ?_
    refine Cx.loopK (Sub.cons (s := 0) rfl (Sub.cons (s := 1) rfl (Sub.cons (s := 5) rfl (Sub.cons (s := 6) rfl (Sub.cons (s := 7) rfl (Sub.cons (s := 8) rfl (Sub.cons (s := 9) rfl (Sub.cons (s := 14) rfl (Sub.cons (s := 15) rfl (Sub.cons (s := 19) rfl (Sub.cons (s := 20) rfl (Sub.cons (s := 21) rfl (Sub.cons (s := 22) rfl (Sub.cons (s := 23) rfl (Sub.cons (s := 24) rfl (Sub.cons (s := 25) rfl (Sub.cons (s := 26) rfl (Sub.cons (s := 27) rfl (Sub.cons (s := 28) rfl (Sub.cons (s := 29) rfl (Sub.cons (s := 30) rfl (Sub.cons (s := 31) rfl (Sub.cons (s := 32) rfl (Sub.cons (s := 33) rfl (Sub.cons (s := 34) rfl (Sub.cons (s := 35) rfl (Sub.cons (s := 36) rfl (Sub.cons (s := 37) rfl (Sub.cons (s := 38) rfl (Sub.cons (s := 39) rfl (Sub.cons (s := 40) rfl (Sub.cons (s := 74) rfl (Sub.cons (s := 75) rfl (Sub.cons (s := 76) rfl (Sub.cons (s := 77) rfl (Sub.cons (s := 78) rfl (Sub.cons (s := 79) rfl (Sub.cons (s := 80) rfl (Sub.cons (s := 81) rfl (Sub.cons (s := 82) rfl (Sub.cons (s := 83) rfl (Sub.cons (s := 84) rfl (Sub.cons (s := 85) rfl (Sub.cons (s := 86) rfl (Sub.cons (s := 87) rfl (Sub.nil _)))))))))))))))))))))))))))))))))))))))))))))) (fun m ρ' B' H' => ∃ (i : Nat), (i ≤ ms.length) ∧ m = ms.length - i ∧ ρ' = [(16, i64 (i : Int))] ∧ B7 = B' ∧ jnH kb k * (dkH db d * (jnH jb j * (sbuf 9 1 Am ms.length cm (ms.map str) * R))) = H') ⟨0, Nat.zero_le _, rfl, rfl, rfl, by ac_rfl⟩ (Sub.cons (s := 16) rfl (Sub.cons (s := 0) rfl (Sub.cons (s := 1) rfl (Sub.cons (s := 5) rfl (Sub.cons (s := 6) rfl (Sub.cons (s := 7) rfl (Sub.cons (s := 8) rfl (Sub.cons (s := 9) rfl (Sub.cons (s := 14) rfl (Sub.cons (s := 15) rfl (Sub.cons (s := 19) rfl (Sub.cons (s := 20) rfl (Sub.cons (s := 21) rfl (Sub.cons (s := 22) rfl (Sub.cons (s := 23) rfl (Sub.cons (s := 24) rfl (Sub.cons (s := 25) rfl (Sub.cons (s := 26) rfl (Sub.cons (s := 27) rfl (Sub.cons (s := 28) rfl (Sub.cons (s := 29) rfl (Sub.cons (s := 30) rfl (Sub.cons (s := 31) rfl (Sub.cons (s := 32) rfl (Sub.cons (s := 33) rfl (Sub.cons (s := 34) rfl (Sub.cons (s := 35) rfl (Sub.cons (s := 36) rfl (Sub.cons (s := 37) rfl (Sub.cons (s := 38) rfl (Sub.cons (s := 39) rfl (Sub.cons (s := 40) rfl (Sub.cons (s := 74) rfl (Sub.cons (s := 75) rfl (Sub.cons (s := 76) rfl (Sub.cons (s := 77) rfl (Sub.cons (s := 78) rfl (Sub.cons (s := 79) rfl (Sub.cons (s := 80) rfl (Sub.cons (s := 81) rfl (Sub.cons (s := 82) rfl (Sub.cons (s := 83) rfl (Sub.cons (s := 84) rfl (Sub.cons (s := 85) rfl (Sub.cons (s := 86) rfl (Sub.cons (s := 87) rfl (Sub.nil _))))))))))))))))))))))))))))))))))))))))))))))) ?_
    rintro m ρ' B' H' ⟨i, hi, rfl, rfl, rfl, rfl⟩
    refine Cx.seq (fun K28 k28 => ?_)
    refine Cx.seq (fun K29 k29 => ?_)
    refine Cx.region ?_
    refine Lx.y (mv rfl) rfl ?_
    refine Lx.y (mv rfl) rfl ?_
    refine Lx.y (lenV (ty' := 0) Try.underlying62 rfl) rfl ?_
    refine Lx.y (lss rfl rfl) rfl ?_
    refine Lx.nil ?_
    refine Xx.tn (k29 _ _ _ _ ?_)
    refine Cx.condD rfl (fun h30 => ?_) (fun h30 => ?_)
    · skip
      have hlt := h30
      have hlt : i < ms.length := by omega
      obtain ⟨hki, hkb, hkg⟩ := pair_at hkp hlt
      refine Xx.addrT Am (by omega) (fun bm hAm hmx hmc => ?_)
      refine Xx.perm (H' := jnH kb k * (dkH db d * (jnH jb j * (sbuf 9 1 (some ⟨bm, 0, none⟩) ms.length cm (ms.map str) * R)))) ?_ (by rw [hAm])
      refine Cx.skip ?_
      refine Xx.tn (k28 _ _ _ _ ?_)
      refine Cx.seq (fun K31 k31 => ?_)
      refine Cx.block ?_
      refine Cx.seq (fun K32 k32 => ?_)
      refine Cx.region ?_
      refine Lx.y (mv rfl) rfl ?_
      refine Lx.y (mv rfl) rfl ?_
      refine Lx.co rfl rfl rfl (JAt_ct kb k i _) (Pick.eq) rfl ?_
      rw [atV_in hki]
      refine Lx.y (mv rfl) rfl ?_
      refine Lx.y (ext rfl rfl) rfl ?_
      refine Lx.y (ext rfl rfl) rfl ?_
      refine Lx.new (allocO ti74) rfl (fun b17 => ?_)
      refine Lx.st (stA (d := .bool) sz74 rfl rfl rfl rfl (by show 0 + 4 ≤ 4; omega) rfl) ?_
      refine Lx.y (asg rfl) rfl ?_
      refine Lx.nil ?_
      refine Xx.tn (k32 _ _ _ _ ?_)
      refine Cx.seq (fun K33 k33 => ?_)
      refine Cx.drawn (by kernel_rfl) ?_
      refine Dx.p (i := 0) rfl (by kernel_rfl) (mv rfl) rfl ?_
      refine Dx.p (i := 1) rfl (by kernel_rfl) (not' rfl) rfl ?_
      refine Dx.p (i := 2) rfl (by kernel_rfl) (mv rfl) rfl ?_
      refine Dx.pT (i := 3) rfl rfl rfl rfl (by kernel_rfl) (fa' fo74_2 rfl) rfl ?_
      refine Dx.rT (i := 4) rfl rfl rfl rfl (by kernel_rfl) (ld Try.underlying9 rfl rfl rfl) rfl ?_
      refine Dx.pT (i := 5) rfl rfl rfl rfl (by kernel_rfl) (Yx.val (mv rfl) (show _ = Value.slice (some ⟨bm, 0, none⟩) ms.length cm from by rw [← hAm])) rfl ?_
      refine Dx.pT (i := 6) rfl rfl rfl rfl (by kernel_rfl) (mv rfl) rfl ?_
      refine Dx.pT (i := 7) rfl rfl rfl rfl (by kernel_rfl) (ia Try.underlying62 sz9 rfl rfl (Int.toNat_natCast _) (by omega) (by omega)) rfl ?_
      refine Dx.rT (i := 8) rfl rfl rfl rfl (by kernel_rfl) (ldC Try.underlying9 rfl rfl (Cells.buf (b := bm) (m := 1) (str_at hlt) (by rw [List.length_map]; omega))) rfl ?_
      refine Dx.pT (i := 9) rfl rfl rfl rfl (by kernel_rfl) (Yx.ff (neS rfl rfl) (by rw [hkb]; simp)) rfl ?_
      refine Dx.p (i := 10) rfl (by kernel_rfl) (pickF rfl rfl) rfl ?_
      refine Dx.p (i := 11) rfl (by kernel_rfl) (mv rfl) rfl ?_
      refine Dx.pT (i := 12) rfl rfl rfl rfl (by kernel_rfl) (fa' fo74_3 rfl) rfl ?_
      refine Dx.rT (i := 13) rfl rfl rfl rfl (by kernel_rfl) (ld Try.underlying4 rfl rfl rfl) rfl ?_
      refine Dx.pT (i := 14) rfl rfl rfl rfl (by kernel_rfl) (Yx.ff (not' rfl) (by rw [hkg]; rfl)) rfl ?_
      refine Dx.p (i := 15) rfl (by kernel_rfl) (pickF rfl rfl) rfl ?_
      refine Dx.done (by kernel_rfl) ?_
      refine Xx.tn (k33 _ _ _ _ ?_)
      refine Cx.condF rfl ?_
      refine Cx.skip ?_
      refine Xx.bn ?_
      refine Xx.tn (k31 _ _ _ _ ?_)
      refine Xx.dropB b17 ?_
      refine Cx.region ?_
      refine Lx.y (mv rfl) rfl ?_
      refine Lx.y (Yx.val (add rfl rfl (by first | exact wrap64 (by omega) (by omega) | rfl)) (show _ = i64 ((i + 1 : Nat) : Int) from rfl)) rfl ?_
      refine Lx.y (asg rfl) rfl ?_
      refine Lx.nil ?_
      exact Xx.againK ⟨i + 1, hlt, rfl, rfl, rfl, (by rw [hAm])⟩ (by omega) (Sub.cons (s := 16) rfl (Sub.cons (s := 0) rfl (Sub.cons (s := 1) rfl (Sub.cons (s := 5) rfl (Sub.cons (s := 6) rfl (Sub.cons (s := 7) rfl (Sub.cons (s := 8) rfl (Sub.cons (s := 9) rfl (Sub.cons (s := 14) rfl (Sub.cons (s := 15) rfl (Sub.cons (s := 19) rfl (Sub.cons (s := 20) rfl (Sub.cons (s := 21) rfl (Sub.cons (s := 22) rfl (Sub.cons (s := 23) rfl (Sub.cons (s := 24) rfl (Sub.cons (s := 25) rfl (Sub.cons (s := 26) rfl (Sub.cons (s := 27) rfl (Sub.cons (s := 28) rfl (Sub.cons (s := 29) rfl (Sub.cons (s := 30) rfl (Sub.cons (s := 31) rfl (Sub.cons (s := 32) rfl (Sub.cons (s := 33) rfl (Sub.cons (s := 34) rfl (Sub.cons (s := 35) rfl (Sub.cons (s := 36) rfl (Sub.cons (s := 37) rfl (Sub.cons (s := 38) rfl (Sub.cons (s := 39) rfl (Sub.cons (s := 40) rfl (Sub.cons (s := 74) rfl (Sub.cons (s := 75) rfl (Sub.cons (s := 76) rfl (Sub.cons (s := 77) rfl (Sub.cons (s := 78) rfl (Sub.cons (s := 79) rfl (Sub.cons (s := 80) rfl (Sub.cons (s := 81) rfl (Sub.cons (s := 82) rfl (Sub.cons (s := 83) rfl (Sub.cons (s := 84) rfl (Sub.cons (s := 85) rfl (Sub.cons (s := 86) rfl (Sub.cons (s := 87) rfl (Sub.nil _)))))))))))))))))))))))))))))))))))))))))))))))
    · skip
      refine Cx.exit ?_
      refine Xx.te ?_
      refine Xx.te ?_
      refine Xx.bh ?_
      refine Xx.tn (k26 _ _ _ _ ?_)
      refine Cx.seq (fun K34 k34 => ?_)
      refine Cx.region ?_
      refine Lx.y (asg rfl) rfl ?_
      refine Lx.nil ?_
      refine Xx.tn (k34 _ _ _ _ ?_)
      refine Cx.ret ?_
      repeat refine Xx.drop ?_
      exact Xx.rB1 rfl rfl rfl (Frag.le_trans hBle hB7) rfl
end Jn6
end Go.Proofs.Ytgcebieihmlaoaa
