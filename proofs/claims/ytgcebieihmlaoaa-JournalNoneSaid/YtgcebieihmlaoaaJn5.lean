/-
  A journal that fits its disk, opened and added to; texts that are cut; that a journal is no sleeper.
-/
import Derived.Test.YtgcebieihmlaoaaProg
import Derived.Test.YtgcebieihmlaoaaSlj
import Derived.Test.YtgcebieihmlaoaaJn4
namespace Go.Proofs.Ytgcebieihmlaoaa
open Go.SL Go.RowKit
set_option linter.unusedVariables false
set_option linter.unusedSimpArgs false
set_option maxRecDepth 100000
open DkA DkB DkD DkE DkF DkG DkH DkI DkJ DkN Fr1 Jn1 Jn2 Jn3 Jn4
namespace Jn5
theorem sz3 : (Try.prog.info? 3).map (·.size) = some 1 := by kernel_rfl
theorem sz4 : (Try.prog.info? 4).map (·.size) = some 1 := by kernel_rfl
theorem sz9 : (Try.prog.info? 9).map (·.size) = some 1 := by kernel_rfl
theorem sz74 : (Try.prog.info? 74).map (·.size) = some 4 := by kernel_rfl
theorem sz115 : (Try.prog.info? 115).map (·.size) = some 5 := by kernel_rfl
theorem ti5 : TI Try.prog 5 [.int .u8 0] 1 1 := TI.of (by kernel_rfl) rfl rfl
theorem ti9 : TI Try.prog 9 [str []] 1 16 := TI.of (by kernel_rfl) rfl rfl
theorem ti74 : TI Try.prog 74 [.int .i64 0, .int .i64 0, str [], .bool false] 4 40 := TI.of (by kernel_rfl) rfl rfl
theorem fo74_2 : FO Try.prog 74 2 2 1 false := FO.of Try.underlying74 rfl rfl (by kernel_rfl) Try.underlying9 rfl rfl
theorem fo74_3 : FO Try.prog 74 3 3 1 false := FO.of Try.underlying74 rfl rfl (by kernel_rfl) Try.underlying4 rfl rfl

def fewL (l : List UInt8) : List UInt8 := if (150 : Int) < (l.length : Nat) then l.take 150 else l
theorem fewL_len (l : List UInt8) : (fewL l).length ≤ 150 := by
  unfold fewL; split
  · simp; omega
  · omega
def cutL (xs : List (List UInt8)) : List (List UInt8) := (xs.take 6).map fewL
theorem strs_all (l : List (List UInt8)) : (l.map str).all (·.oneCell') = true := by
  rw [List.all_eq_true]; intro v hv; obtain ⟨x, _, rfl⟩ := List.mem_map.1 hv; rfl
theorem cutL_len (xs : List (List UInt8)) : (cutL xs).length ≤ 6 := by unfold cutL; rw [List.length_map, List.length_take]; omega
theorem cutL_mem {xs : List (List UInt8)} {s : List UInt8} (h : s ∈ cutL xs) : s.length ≤ 150 := by
  obtain ⟨x, _, rfl⟩ := List.mem_map.1 h; exact fewL_len x
theorem allF_len : ∀ (xs : List (List UInt8)) (k : Nat), (∀ s ∈ xs, s.length ≤ k) → (allF xs).length ≤ xs.length * (k + 12) := by
  intro xs k
  induction xs with
  | nil => intro _; exact Nat.zero_le _
  | cons x xs ih =>
    intro h
    have h1 := h x (by simp)
    have h2 := ih fun s hs => h s (by simp [hs])
    show ((headL x ++ x) ++ allF xs).length ≤ _
    rw [List.length_append, List.length_append, headL_len, List.length_cons, Nat.succ_mul]; omega
theorem cutL_all (xs : List (List UInt8)) : (allF (cutL xs)).length ≤ 972 := by
  have h1 := allF_len (cutL xs) 150 (fun s hs => cutL_mem hs)
  have h2 := cutL_len xs
  omega

set_option maxHeartbeats 1000000 in
theorem few_ct (l : List UInt8) (B : Frag) : CtP Try.prog 32 [str l] B (str (fewL l)) := by
  refine CtB.of_body Try.func32 rfl (nt := 9) rfl (by kernel_rfl) rfl ?_
  intro N0 w0 R
  refine Cx.seq (fun K1 k1 => ?_)
  refine Cx.region ?_
  refine Lx.y (asg rfl) rfl ?_
  refine Lx.nil ?_
  refine Xx.tn (k1 _ _ _ _ ?_)
  refine Cx.seq (fun K2 k2 => ?_)
  refine Cx.seq (fun K3 k3 => ?_)
  refine Cx.region ?_
  refine Lx.y (mv rfl) rfl ?_
  refine Lx.y (lenS Try.underlying9 rfl) rfl ?_
  refine Lx.y (gtr rfl rfl) rfl ?_
  refine Lx.nil ?_
  refine Xx.tn (k3 _ _ _ _ ?_)
  refine Cx.condD rfl (fun h4 => ?_) (fun h4 => ?_)
  · skip
    have h3 := h4
    refine Cx.seq (fun K5 k5 => ?_)
    refine Cx.region ?_
    refine Lx.y (mv rfl) rfl ?_
    refine Lx.y (sl2S Try.underlying9 rfl rfl (show Int.toNat _ = 150 from rfl) (by omega) (by omega)) rfl ?_
    refine Lx.y (asg rfl) rfl ?_
    refine Lx.nil ?_
    refine Xx.tn (k5 _ _ _ _ ?_)
    refine Cx.ret ?_
    refine Xx.tr ?_
    exact Xx.rB1 rfl rfl ⟨by simp only [fewL]; rw [if_pos h3], rfl⟩ (Frag.le_refl _) rfl
  · skip
    have h3 := h4
    refine Cx.skip ?_
    refine Xx.tn (k2 _ _ _ _ ?_)
    refine Cx.seq (fun K6 k6 => ?_)
    refine Cx.region ?_
    refine Lx.y (mv rfl) rfl ?_
    refine Lx.y (asg rfl) rfl ?_
    refine Lx.nil ?_
    refine Xx.tn (k6 _ _ _ _ ?_)
    refine Cx.ret ?_
    exact Xx.rB1 rfl rfl ⟨by simp only [fewL]; rw [if_neg h3], rfl⟩ (Frag.le_refl _) rfl

set_option maxHeartbeats 2000000 in
theorem cut_ct (xs : List (List UInt8)) (A : Option Addr) (c : Nat) (B : Frag) (hR : 0 < xs.length → RoS B 1 A xs.length (xs.map str)) (hn : xs.length ≤ 9223372036854775807) : CtB Try.prog 30 [.slice A xs.length c] B (fun v B' => ∃ A' c', v = .slice A' (cutL xs).length c' ∧ RoS B' 1 A' (cutL xs).length ((cutL xs).map str)) := by
  refine CtB.of_body Try.func30 rfl (nt := 25) rfl (by kernel_rfl) rfl ?_
  intro N0 w0 R
  refine Cx.seq (fun K1 k1 => ?_)
  refine Cx.region ?_
  refine Lx.y (asg rfl) rfl ?_
  refine Lx.nil ?_
  refine Xx.tn (k1 _ _ _ _ ?_)
  refine Cx.seq (fun K2 k2 => ?_)
  refine Cx.region ?_
  refine Lx.o (bslZ Try.underlying62 ti9) rfl (fun v B' H' hΦ hB => ?_)
  obtain ⟨b0, rfl, hBB, rfl⟩ := hΦ
  have hBB2 := hBB.symm
  subst hBB2
  clear hB
  refine Lx.y (asg rfl) rfl ?_
  refine Lx.nil ?_
  refine Xx.tn (k2 _ _ _ _ ?_)
  refine Cx.seq (fun K3 k3 => ?_)
  refine Cx.seq (fun K4 k4 => ?_)
  refine Cx.region ?_
  refine Lx.y (asg rfl) rfl ?_
  refine Lx.nil ?_
  refine Xx.tn (k4 _ _ _ _ ?_)
  refine Cx.block ?_
  refine Cx.loopK (Sub.cons (s := 0) rfl (Sub.cons (s := 2) rfl (Sub.cons (s := 5) rfl (Sub.nil _)))) (fun m ρ' B' H' => ∃ (i : Nat) (A1 : Option Addr) (c1 : Nat), (i ≤ xs.length ∧ i ≤ 6) ∧ m = 6 - i ∧ ρ' = [(3, .slice A1 i c1), (4, i64 (i : Int))] ∧ B = B' ∧ sbuf 9 1 A1 i c1 (((xs.take i).map fewL).map str) * R = H') ⟨0, some ⟨b0, 0, none⟩, 0, ⟨Nat.zero_le _, Nat.zero_le _⟩, rfl, rfl, rfl, rfl⟩ (Sub.cons (s := 3) rfl (Sub.cons (s := 4) rfl (Sub.cons (s := 0) rfl (Sub.cons (s := 2) rfl (Sub.cons (s := 5) rfl (Sub.nil _)))))) ?_
  rintro m ρ' B' H' ⟨i, A1, c1, ⟨hi, hi6⟩, rfl, rfl, rfl, rfl⟩
  refine Cx.seq (fun K5 k5 => ?_)
  refine Cx.seq (fun K6 k6 => ?_)
  refine Cx.region ?_
  refine Lx.y (mv rfl) rfl ?_
  refine Lx.y (mv rfl) rfl ?_
  refine Lx.y (lenV (ty' := 0) Try.underlying62 rfl) rfl ?_
  refine Lx.y (lss rfl rfl) rfl ?_
  refine Lx.y (mv rfl) rfl ?_
  refine Xx.ifD (t := 10) rfl (fun h7 => ?_) (fun h7 => ?_)
  · skip
    have hlt := h7
    have hlt : i < xs.length := by omega
    refine Lx.gT rfl rfl rfl ?_
    refine Lx.y (mv rfl) rfl ?_
    refine Lx.gT rfl rfl rfl ?_
    refine Lx.y (lss rfl rfl) rfl ?_
    refine Lx.y (pickT rfl rfl) rfl ?_
    refine Lx.nil ?_
    refine Xx.tn (k6 _ _ _ _ ?_)
    refine Cx.condD rfl (fun h8 => ?_) (fun h8 => ?_)
    · skip
      have h6 := h8
      obtain ⟨b9, o9, cs9, et9, fz9, hA9, hB9, hv9⟩ := (hR (by omega)).at1 hlt
      rw [List.getElem?_map, List.getElem?_eq_getElem hlt] at hv9
      refine Cx.skip ?_
      refine Xx.tn (k5 _ _ _ _ ?_)
      refine Cx.seq (fun K9 k9 => ?_)
      refine Cx.block ?_
      refine Cx.region ?_
      refine Lx.y (mv rfl) rfl ?_
      refine Lx.y (mv rfl) rfl ?_
      refine Lx.y (mv rfl) rfl ?_
      refine Lx.y (Yx.val (ia (b := b9) (o := o9) Try.underlying62 sz9 (by rw [← hA9]; rfl) rfl (Int.toNat_natCast _) (by omega) (by omega)) rfl) rfl ?_
      refine Lx.y (ldB Try.underlying9 rfl rfl hB9 hv9) rfl ?_
      refine Lx.cp rfl rfl rfl (few_ct _ _) rfl ?_
      refine Lx.bsl (bsl1 Try.underlying62 ti9 rfl rfl rfl (by decide)) rfl (fun bv => ?_)
      refine Lx.o (appN (et := 9) (A := A1) (i + 1) [str (fewL xs[i])] (((xs.take (i + 1)).map fewL).map str) Try.underlying62 Try.underlying62 ti9 rfl rfl rfl rfl rfl (by omega) (by omega) rfl (by rw [List.take_succ_eq_append_getElem hlt, List.map_append, List.map_append]; rfl)) rfl (fun v B' H' hΦ hB => ?_)
      obtain ⟨A2, c2, rfl, hA2, hl2, hc2, hBB, rfl⟩ := hΦ
      have hBB2 := hBB.symm
      subst hBB2
      refine Xx.dropB bv ?_
      clear hB
      refine Lx.y (asg rfl) rfl ?_
      refine Lx.nil ?_
      refine Xx.bn ?_
      refine Xx.tn (k9 _ _ _ _ ?_)
      refine Cx.region ?_
      refine Lx.y (mv rfl) rfl ?_
      refine Lx.y (Yx.val (add rfl rfl (by first | exact wrap64 (by omega) (by omega) | rfl)) (show _ = i64 ((i + 1 : Nat) : Int) from rfl)) rfl ?_
      refine Lx.y (asg rfl) rfl ?_
      refine Lx.nil ?_
      exact Xx.againK ⟨i + 1, A2, c2, ⟨hlt, by omega⟩, rfl, rfl, rfl, rfl⟩ (by omega) (Sub.cons (s := 3) rfl (Sub.cons (s := 4) rfl (Sub.cons (s := 0) rfl (Sub.cons (s := 2) rfl (Sub.cons (s := 5) rfl (Sub.nil _))))))
    · skip
      have h6 := h8
      have hcut : (xs.take i).map fewL = cutL xs := by unfold cutL; rw [show i = 6 by omega]
      refine Cx.exit ?_
      refine Xx.te ?_
      refine Xx.te ?_
      refine Xx.bh ?_
      refine Xx.tn (k3 _ _ _ _ ?_)
      refine Cx.seq (fun K10 k10 => ?_)
      refine Cx.region ?_
      refine Lx.y (mv rfl) rfl ?_
      refine Lx.y (asg rfl) rfl ?_
      refine Lx.nil ?_
      refine Xx.tn (k10 _ _ _ _ ?_)
      refine Cx.ret ?_
      rw [hcut]
      have hil : i = (cutL xs).length := by rw [← hcut, List.length_map, List.length_take]; omega
      refine Xx.freezeT A1 fun B3 hB3 hRo hnc _ => ?_
      exact Xx.rB1 rfl rfl ⟨A1, c1, by rw [hil], by rw [← hil]; exact hRo⟩ hB3 rfl
  · skip
    have hno := h7
    have hcut : (xs.take i).map fewL = cutL xs := by unfold cutL; rw [List.take_of_length_le (by omega), List.take_of_length_le (by omega)]
    refine Lx.gF rfl rfl rfl rfl ?_
    refine Lx.gF rfl rfl rfl rfl ?_
    refine Lx.y (pickF rfl rfl) rfl ?_
    refine Lx.nil ?_
    refine Xx.tn (k6 _ _ _ _ ?_)
    refine Cx.condF rfl ?_
    refine Cx.exit ?_
    refine Xx.te ?_
    refine Xx.te ?_
    refine Xx.bh ?_
    refine Xx.tn (k3 _ _ _ _ ?_)
    refine Cx.seq (fun K11 k11 => ?_)
    refine Cx.region ?_
    refine Lx.y (mv rfl) rfl ?_
    refine Lx.y (asg rfl) rfl ?_
    refine Lx.nil ?_
    refine Xx.tn (k11 _ _ _ _ ?_)
    refine Cx.ret ?_
    rw [hcut]
    have hil : i = (cutL xs).length := by rw [← hcut, List.length_map, List.length_take]; omega
    refine Xx.freezeT A1 fun B3 hB3 hRo hnc _ => ?_
    exact Xx.rB1 rfl rfl ⟨A1, c1, by rw [hil], by rw [← hil]; exact hRo⟩ hB3 rfl

/-- A journal that fits its disk: opened. -/
theorem JOpenF_ct (d : Dk) (db : Nat) (most : Int) (fb : List (List Ck)) (K L C : Nat) (B : Frag) (hc : DkN.Calm K L C d.abs) (hK : K ≤ 1000000) (hL : L ≤ 1048576) (hC : C ≤ 1000000000) (hm : 1 ≤ most) (hh : Holds d.abs.fs fb) :
    Ct Try.prog 34 [.pointer (some ⟨db, 0, none⟩), i64 most] B (dkH db d) (fun v B' H' => ∃ (jb : Nat) (j : Jn), v = .tuple #[.pointer (some ⟨jb, 0, none⟩), i64 0] ∧ j.db = db ∧ j.most = most ∧ Fits d.abs j fb ∧ H' = dkH db d * jnH jb j) := by
  refine Ct.mono (JOpen_ct d db most B (hc.fit (by omega) (by omega) (by omega)) hc.dead hm (fun f hf => Nat.le_trans (hc.now f hf) hL)) ?_
  rintro v B' H' ⟨jb, Al, cl, rfl, rfl⟩
  have ho := hh.open
  exact ⟨jb, _, rfl, rfl, rfl, ⟨hh, by rw [ho], by rw [ho], by rw [ho], hm⟩, rfl⟩
/-- .. added to. -/
theorem JAddF_ct (jb : Nat) (j : Jn) (d : Dk) (fb : List (List Ck)) (bodies : List (List UInt8)) (Ab : Option Addr) (cb K L C : Nat) (B : Frag) (hf : Fits d.abs j fb) (hRb : RoS B 1 Ab bodies.length (bodies.map str)) (hc : DkN.Calm K L C d.abs) (hK : K ≤ 900000) (hL : L ≤ 10000000000) (hC : C ≤ 1000000000) (hbs : ∀ s ∈ bodies, s.length ≤ 65536) (hall : (allF bodies).length ≤ 10000000000) (hbl : bodies.length ≤ 1000000) (hjl : j.l.length ≤ 1000000000) :
    Ct Try.prog 38 [.pointer (some ⟨jb, 0, none⟩), .slice Ab bodies.length cb] B (jnH jb j * dkH j.db d) (fun v B' H' => ∃ (n e : Int) (d' : Dk) (j' : Jn) (fb' : List (List Ck)), v = .tuple #[i64 n, i64 e] ∧ H' = jnH jb j' * dkH j'.db d' ∧ j'.db = j.db ∧ j'.most = j.most ∧ Fits d'.abs j' fb' ∧
      DkN.Calm (K + 2) (L + (allF bodies).length) (C + 2) d'.abs ∧ (Still d.abs → Still d'.abs) ∧ ((e = 0 ∧ n = j.l.length ∧ j'.l = j.l ++ recsAt (fileOf j) (fileM ((fileOf j : Nat) : Int) d.abs.fs).now.length bodies) ∨ (e = 50 ∧ (addD d.abs (fileOf j) (allF bodies)).2 ≠ 0 ∧ j'.l = j.l ∧ d'.abs = d.abs))) := by
  have hfl : j.last ≤ 1000000000 := by rw [hf.last]; have := hf.holds.le; have := hc.len; omega
  refine Ct.mono (JAdd_ct jb j d bodies Ab cb K L C B hRb hc hK hL hC hbs hall hbl hjl hfl) ?_
  rintro v B' H' ⟨d', hd', ⟨h1, rfl, rfl⟩ | ⟨h1, rfl, Al, cl, rfl⟩⟩
  · have h2 := addD_fail hc h1
    rw [h2] at hd'
    have hd2 : d'.abs = d.abs := hd'
    exact ⟨0, 50, d', j, fb, by rw [h2], rfl, rfl, rfl, by rw [hd2]; exact hf, by rw [hd2]; exact hc.mono (by omega) (by omega) (by omega), fun h => by rw [hd2]; exact h, .inr ⟨rfl, h1, rfl, hd2⟩⟩
  · obtain ⟨fb', hf'⟩ := add_fits hc hf hbs h1 Al cl
    obtain ⟨_, hc', hs'⟩ := addD_done hc h1
    exact ⟨_, 0, d', _, fb', rfl, rfl, rfl, rfl, by rw [hd']; exact hf', by rw [hd']; exact hc', fun h => by rw [hd']; exact hs' h, .inl ⟨rfl, rfl, rfl⟩⟩
theorem holds_none : Holds [] [] := ⟨fun _ h => (by cases h), fun k h => absurd h (Nat.not_lt_zero _), fun _ _ => rfl⟩
theorem calm_new (n : Int) (hn : 0 ≤ n ∧ n ≤ 9223372036854775807) : DkN.Calm 0 0 0 ⟨[], n, false, [], 0⟩ := ⟨rfl, rfl, List.nodup_nil, fun f hf => (by cases hf), fun f hf => (by cases hf), Nat.le_refl _, fun f hf => (by cases hf), fun f hf => (by cases hf), hn, Nat.le_refl _⟩
theorem New2_ct (n : Int) (B : Frag) (hn : 0 ≤ n) : Ct Try.prog 22 [i64 n] B 1 (fun v B' H' => B' = B ∧ ∃ (db : Nat) (d : Dk), v = .tuple #[.pointer (some ⟨db, 0, none⟩), i64 0] ∧ d.abs = ⟨[], n, false, [], 0⟩ ∧ H' = dkH db d) :=
  Ct.mono (New_ct n B) fun v B' H' ⟨h1, h2⟩ => by
    rcases h2 with ⟨h, _⟩ | ⟨_, db, mb, h3, h4⟩
    · omega
    · exact ⟨h1, db, _, h3, rfl, h4⟩

set_option maxHeartbeats 4000000 in
theorem awake_ct (B : Frag) : CtB Try.prog 35 [] B (fun v B' => v = .bool true) := by
  refine CtB.of_body Try.func35 rfl (nt := 73) rfl (by kernel_rfl) rfl ?_
  intro N0 w0 R
  refine Cx.seq (fun K1 k1 => ?_)
  refine Cx.region ?_
  refine Lx.y (asg rfl) rfl ?_
  refine Lx.nil ?_
  refine Xx.tn (k1 _ _ _ _ ?_)
  refine Cx.seq (fun K2 k2 => ?_)
  refine Cx.region ?_
  refine Lx.c rfl rfl rfl (New2_ct 100 _ (by decide)) ((one_star _).symm) rfl ?_
  rintro v1 B1 H1 ⟨hBB, db, d, rfl, hd, rfl⟩ hB1
  have hBB2 := hBB.symm
  subst hBB2
  clear hB1
  have hc0 : DkN.Calm 0 0 0 d.abs := by rw [hd]; exact calm_new 100 (by decide)
  refine Lx.y (mv rfl) rfl ?_
  refine Lx.y (ext rfl rfl) rfl ?_
  refine Lx.y (ext rfl rfl) rfl ?_
  refine Lx.y (asg rfl) rfl ?_
  refine Lx.y (asg rfl) rfl ?_
  refine Lx.nil ?_
  refine Xx.tn (k2 _ _ _ _ ?_)
  refine Cx.seq (fun K3 k3 => ?_)
  refine Cx.region ?_
  refine Lx.y (mv rfl) rfl ?_
  refine Lx.c rfl rfl rfl (JOpenF_ct d db 50 [] 0 0 0 _ hc0 (by decide) (by decide) (by decide) (by decide) (by rw [hd]; exact holds_none)) (rfl) rfl ?_
  rintro v2 B2 H2 ⟨jb, j, rfl, hjd, hjm, hjf, rfl⟩ hB2
  subst hjd
  have hfo : fileOf j = 1 := by unfold fileOf; rw [hjf.last, hjf.long, hjm]; rfl
  have hjl : j.l = [] := hjf.l
  refine Lx.y (mv rfl) rfl ?_
  refine Lx.y (ext rfl rfl) rfl ?_
  refine Lx.y (ext rfl rfl) rfl ?_
  refine Lx.y (asg rfl) rfl ?_
  refine Lx.y (asg rfl) rfl ?_
  refine Lx.nil ?_
  refine Xx.tn (k3 _ _ _ _ ?_)
  refine Cx.seq (fun K4 k4 => ?_)
  refine Cx.seq (fun K5 k5 => ?_)
  refine Cx.region ?_
  refine Lx.y (mv rfl) rfl ?_
  refine Lx.y (Yx.ff (neI rfl rfl) rfl) rfl ?_
  refine Lx.y (mv rfl) rfl ?_
  refine Lx.gT rfl rfl rfl ?_
  refine Lx.y (mv rfl) rfl ?_
  refine Lx.gT rfl rfl rfl ?_
  refine Lx.y (Yx.ff (eqNilP Try.underlying70 rfl rfl) rfl) rfl ?_
  refine Lx.y (pickF rfl rfl) rfl ?_
  refine Lx.nil ?_
  refine Xx.tn (k5 _ _ _ _ ?_)
  refine Cx.condF rfl ?_
  refine Cx.skip ?_
  refine Xx.tn (k4 _ _ _ _ ?_)
  refine Cx.seq (fun K6 k6 => ?_)
  refine Cx.region ?_
  refine Lx.y (mv rfl) rfl ?_
  refine Lx.bsl (bsl1 Try.underlying62 ti9 rfl rfl rfl (by decide)) rfl (fun bb => ?_)
  refine Xx.freezeB bb fun B3 hB3 hbb => ?_
  simp only [star_assoc]
  have hRb : RoS B3 1 (some ⟨bb, 0, none⟩) [([97] : List UInt8), [98]].length ([([97] : List UInt8), [98]].map str) := ⟨rfl, .inr ⟨bb, 0, _, _, _, rfl, hbb, rfl⟩⟩
  refine Lx.c rfl rfl rfl (JAddF_ct jb j d [] [[97], [98]] (some ⟨bb, 0, none⟩) 2 0 0 0 _ hjf hRb hc0 (by decide) (by decide) (by decide) (by decide) (by decide) (by decide) (by rw [hjl]; decide)) ((show _ = (jnH jb j * dkH j.db d) * R by ac_rfl)) rfl ?_
  rintro v4 B4 H4 ⟨n4, e4, d4, j4, fb4, rfl, rfl, hdb4, hm4, hf4, hc4, hs4, hor⟩ hB4
  obtain ⟨rfl, rfl, hl4⟩ := hor.resolve_right (fun h => h.2.1 (by rw [hfo, hd]; kernel_rfl))
  have hst4 : Still d4.abs := hs4 (by rw [hd]; exact fun f hf => (by cases hf))
  have hcr := crash_still hst4 hc4.dead 0#64 0
  rw [hjl, hfo, hd] at hl4
  rw [hdb4]
  rw [hjl]
  refine Lx.y (mv rfl) rfl ?_
  refine Lx.y (ext rfl rfl) rfl ?_
  refine Lx.y (ext rfl rfl) rfl ?_
  refine Lx.y (asg rfl) rfl ?_
  refine Lx.y (asg rfl) rfl ?_
  refine Lx.nil ?_
  refine Xx.tn (k6 _ _ _ _ ?_)
  refine Cx.seq (fun K7 k7 => ?_)
  refine Cx.region ?_
  refine Lx.y (mv rfl) rfl ?_
  refine Lx.c rfl rfl rfl (Crash_ct d4 j.db 0#64 0 _ (hc4.fit (by decide) (by decide) (by decide))) ((show _ = dkH j.db d4 * (jnH jb j4 * R) by ac_rfl)) rfl ?_
  rintro v5 B5 H5 ⟨rfl, d5, hd5, rfl⟩ hB5
  rw [hcr] at hd5
  refine Lx.nil ?_
  refine Xx.tn (k7 _ _ _ _ ?_)
  refine Cx.seq (fun K8 k8 => ?_)
  refine Cx.region ?_
  refine Lx.y (mv rfl) rfl ?_
  refine Lx.co rfl rfl rfl (Up_ct d5 j.db _) (rfl) rfl ?_
  obtain ⟨d6, hd6⟩ : ∃ d6 : Dk, d6 = { d5 with dead := false } := ⟨_, rfl⟩
  rw [← hd6]
  have hab : d6.abs = d4.abs := by
    rw [hd6]
    show ({ d5.abs with dead := false } : Dm) = d4.abs
    rw [hd5]
    have h9 := hc4.dead
    cases hq : d4.abs with | mk a b c e f => rw [hq] at h9; simp only at h9; rw [h9]
  refine Lx.nil ?_
  refine Xx.tn (k8 _ _ _ _ ?_)
  refine Cx.seq (fun K9 k9 => ?_)
  refine Cx.region ?_
  refine Lx.y (mv rfl) rfl ?_
  refine Lx.c rfl rfl rfl (JOpenF_ct d6 j.db 50 fb4 2 _ 2 _ (by rw [hab]; exact hc4) (by decide) (by decide) (by decide) (by decide) (by rw [hab]; exact hf4.holds)) (rfl) rfl ?_
  rintro v7 B7 H7 ⟨kb, k, rfl, hkd, hkm, hkf, rfl⟩ hB7
  have hkl : k.l = [⟨1, 12, [97], true⟩, ⟨1, 25, [98], true⟩] := by rw [hkf.l, ← hf4.l, hl4]; rfl
  refine Lx.y (mv rfl) rfl ?_
  refine Lx.y (ext rfl rfl) rfl ?_
  refine Lx.y (ext rfl rfl) rfl ?_
  refine Lx.y (asg rfl) rfl ?_
  refine Lx.y (asg rfl) rfl ?_
  refine Lx.nil ?_
  refine Xx.tn (k9 _ _ _ _ ?_)
  refine Cx.seq (fun K10 k10 => ?_)
  refine Cx.region ?_
  refine Lx.y (mv rfl) rfl ?_
  refine Lx.co rfl rfl rfl (JAt_ct kb k 1 _) ((show _ = jnH kb k * (dkH j.db d6 * (jnH jb j4 * R)) by ac_rfl)) rfl ?_
  rw [show atV k.l 1 = .tuple #[.agg (rcc ⟨1, 25, [98], true⟩).toArray, .bool true] from by rw [hkl]; rfl]
  refine Lx.y (mv rfl) rfl ?_
  refine Lx.y (ext rfl rfl) rfl ?_
  refine Lx.y (ext rfl rfl) rfl ?_
  refine Lx.new (allocO ti74) rfl (fun b9 => ?_)
  refine Lx.st (stA (d := .bool) sz74 rfl rfl rfl rfl (by show 0 + 4 ≤ 4; omega) rfl) ?_
  refine Lx.y (asg rfl) rfl ?_
  refine Lx.nil ?_
  refine Xx.tn (k10 _ _ _ _ ?_)
  refine Cx.seq (fun K11 k11 => ?_)
  refine Cx.region ?_
  refine Lx.y (mv rfl) rfl ?_
  refine Lx.y (Yx.tt (eqI rfl rfl) rfl) rfl ?_
  refine Lx.y (mv rfl) rfl ?_
  refine Lx.gT rfl rfl rfl ?_
  refine Lx.y (mv rfl) rfl ?_
  refine Lx.gT rfl rfl rfl ?_
  refine Lx.y (Yx.tt (eqI rfl rfl) rfl) rfl ?_
  refine Lx.y (pickT rfl rfl) rfl ?_
  refine Lx.y (mv rfl) rfl ?_
  refine Lx.gT rfl rfl rfl ?_
  refine Lx.y (mv rfl) rfl ?_
  refine Lx.gT rfl rfl rfl ?_
  refine Lx.y (Yx.tt (eqI rfl rfl) rfl) rfl ?_
  refine Lx.y (pickT rfl rfl) rfl ?_
  refine Lx.y (mv rfl) rfl ?_
  refine Lx.gT rfl rfl rfl ?_
  refine Lx.y (mv rfl) rfl ?_
  refine Lx.gT rfl rfl rfl ?_
  refine Lx.co rfl rfl rfl (JLen_ct kb k _) ((show _ = jnH kb k * (row b9 74 (rcc ⟨1, 25, [98], true⟩) * (dkH j.db d6 * (jnH jb j4 * R))) by ac_rfl)) rfl ?_
  rw [show k.l.length = 2 from by rw [hkl]; rfl]
  refine Lx.gT rfl rfl rfl ?_
  refine Lx.y (Yx.tt (eqI rfl rfl) rfl) rfl ?_
  refine Lx.y (pickT rfl rfl) rfl ?_
  refine Lx.y (mv rfl) rfl ?_
  refine Lx.gT rfl rfl rfl ?_
  refine Lx.y (mv rfl) rfl ?_
  refine Lx.y (pickT rfl rfl) rfl ?_
  refine Lx.y (mv rfl) rfl ?_
  refine Lx.gT rfl rfl rfl ?_
  refine Lx.y (fa' fo74_2 rfl) rfl ?_
  refine Lx.gT rfl rfl rfl ?_
  refine Lx.y (ld Try.underlying9 rfl rfl rfl) rfl ?_
  refine Lx.gT rfl rfl rfl ?_
  refine Lx.y (Yx.tt (eqS rfl rfl) rfl) rfl ?_
  refine Lx.y (pickT rfl rfl) rfl ?_
  refine Lx.y (mv rfl) rfl ?_
  refine Lx.gT rfl rfl rfl ?_
  refine Lx.y (fa' fo74_3 rfl) rfl ?_
  refine Lx.gT rfl rfl rfl ?_
  refine Lx.y (ld Try.underlying4 rfl rfl rfl) rfl ?_
  refine Lx.y (pickT rfl rfl) rfl ?_
  refine Lx.y (asg rfl) rfl ?_
  refine Lx.nil ?_
  refine Xx.tn (k11 _ _ _ _ ?_)
  refine Cx.ret ?_
  repeat refine Xx.drop ?_
  exact Xx.rB1 rfl rfl rfl (Frag.le_trans hB2 (Frag.le_trans hB3 (Frag.le_trans hB4 (Frag.le_trans hB5 hB7)))) rfl
end Jn5
end Go.Proofs.Ytgcebieihmlaoaa
