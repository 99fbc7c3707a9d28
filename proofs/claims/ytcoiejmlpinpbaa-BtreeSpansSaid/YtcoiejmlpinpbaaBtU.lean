/-
  The walks of find, put, in.
-/
import Derived.Test.YtcoiejmlpinpbaaProg
import Derived.Test.YtcoiejmlpinpbaaSlj
import Derived.Test.YtcoiejmlpinpbaaBtT
namespace Go.Proofs.Ytcoiejmlpinpbaa
open Go.SL Go.RowKit
set_option linter.unusedVariables false
set_option linter.unusedSimpArgs false
set_option maxRecDepth 100000
open BtA BtB BtC BtD BtE BtG BtH BtI BtF BtJ BtK BtL BtM BtN BtO BtP BtQ BtR BtS BtT
namespace BtU
theorem sz9 : (Try.prog.info? 9).map (·.size) = some 1 := by kernel_rfl
theorem sz77 : (Try.prog.info? 77).map (·.size) = some 2 := by kernel_rfl
theorem ti77 : TI Try.prog 77 [str [], str []] 2 32 := TI.of (by kernel_rfl) rfl rfl
theorem fo24_0 : FO Try.prog 24 0 0 1 false := FO.of Try.underlying24 rfl rfl (by kernel_rfl) Try.underlying9 rfl rfl
theorem fo24_1 : FO Try.prog 24 1 1 1 false := FO.of Try.underlying24 rfl rfl (by kernel_rfl) Try.underlying9 rfl rfl
theorem fo77_0 : FO Try.prog 77 0 0 1 false := FO.of Try.underlying77 rfl rfl (by kernel_rfl) Try.underlying9 rfl rfl
theorem fo77_1 : FO Try.prog 77 1 1 1 false := FO.of Try.underlying77 rfl rfl (by kernel_rfl) Try.underlying9 rfl rfl
theorem pl77 : PL Try.prog 77 [(0, 1), (1, 1)] := PL.of Try.underlying77 (by kernel_rfl)

theorem ord_srt {l : List (Str8 × Str8)} (h : Ord l) : Srt (l.map (·.1)) := List.pairwise_map.2 h
theorem key_at {l : List (Str8 × Str8)} {i : Nat} (h : i < l.length) : l[i].1 = (l.map (·.1))[i]'(by simpa using h) := by simp
theorem insP_spec {k v : Str8} : ∀ {l : List (Str8 × Str8)}, Ord l → (k ∈ l.map (·.1) → insP k v l = l.set (lb (l.map (·.1)) k) (k, v)) ∧ (k ∉ l.map (·.1) → insP k v l = l.take (lb (l.map (·.1)) k) ++ [(k, v)] ++ l.drop (lb (l.map (·.1)) k)) := by
  intro l
  induction l with
  | nil => intro _; exact ⟨fun h => (by cases h), fun _ => rfl⟩
  | cons p l ih =>
    intro h
    obtain ⟨h1, h2⟩ := List.pairwise_cons.1 h
    obtain ⟨g1, g2⟩ := ih h2
    by_cases hb : bless p.1 k = true
    · have hne : ¬ k = p.1 := fun e => by rw [e, bless_irrefl] at hb; cases hb
      have el : lb ((p :: l).map (·.1)) k = lb (l.map (·.1)) k + 1 := by
        show lb (p.1 :: l.map (·.1)) k = _
        conv => lhs; unfold lb
        rw [if_pos hb]
      rw [el, insP_lt hb]
      refine ⟨fun hm => ?_, fun hm => ?_⟩
      · rw [g1 (by simpa [hne] using hm)]; rfl
      · rw [g2 (by simpa [hne] using hm)]; rfl
    · have el : lb ((p :: l).map (·.1)) k = 0 := by
        show lb (p.1 :: l.map (·.1)) k = 0
        unfold lb; rw [if_neg hb]
      rw [el]
      by_cases he : p.1 = k
      · refine ⟨fun _ => ?_, fun hm => absurd (by simp [he]) hm⟩
        unfold insP; rw [if_neg hb, if_pos he]; rfl
      · have hlt : bless k p.1 = true := by
          cases hc : bless k p.1 with
          | true => rfl
          | false => exact absurd (bless_total (by simpa using hb) hc) he
        refine ⟨fun hm => ?_, fun _ => ?_⟩
        · obtain ⟨q, hq, e⟩ := List.mem_map.1 hm
          rcases List.mem_cons.1 hq with rfl | hq
          · exact absurd e he
          · have := bless_trans hlt (h1 q hq)
            rw [e, bless_irrefl] at this; cases this
        · unfold insP; rw [if_neg hb, if_neg he]; rfl
theorem flatP_set {l : List (Str8 × Str8)} {i : Nat} {v : Str8} {sp : List Value} : (h : i < l.length) → (flatP l ++ sp).set (0 + i * 2 + 1) (str v) = flatP (l.set i (l[i].1, v)) ++ sp := by
  intro h
  rw [List.set_append_left _ _ (by rw [flatP_len]; omega)]
  congr 1
  induction l generalizing i with
  | nil => simp at h
  | cons p l ih =>
    cases i with
    | zero => rfl
    | succ i =>
      have h' : i < l.length := by simpa using h
      have e := ih h'
      show (str p.1 :: str p.2 :: flatP l).set (0 + (i + 1) * 2 + 1) (str v) = str p.1 :: str p.2 :: flatP (l.set i (l[i].1, v))
      rw [← e, show 0 + (i + 1) * 2 + 1 = (0 + i * 2 + 1) + 1 + 1 by omega]; rfl

set_option maxHeartbeats 1000000 in
theorem find_ct (l : List (Str8 × Str8)) (t : Str8) (A : Option Addr) (c : Nat) (B : Frag) (hR : RoS B 2 A l.length (flatP l)) (ho : Ord l) (hn : l.length ≤ 1000) : CtP Try.prog 36 [.slice A l.length c, str t] B (.tuple #[i64 (lb (l.map (·.1)) t : Nat), .bool (decide (t ∈ (l.map (·.1))))]) := by
  have hs := ord_srt ho
  have hkl : (l.map (·.1)).length = l.length := List.length_map ..
  refine CtB.of_body Try.func36 rfl (nt := 42) rfl (by kernel_rfl) rfl ?_
  intro N0 w0 R
  refine Cx.seq (fun K1 k1 => ?_)
  refine Cx.region ?_
  refine Lx.y (asg rfl) rfl ?_
  refine Lx.y (asg rfl) rfl ?_
  refine Lx.nil ?_
  refine Xx.tn (k1 _ _ _ _ ?_)
  refine Cx.seq (fun K2 k2 => ?_)
  refine Cx.region ?_
  refine Lx.y (mv rfl) rfl ?_
  refine Lx.y (lenV (ty' := 0) Try.underlying28 rfl) rfl ?_
  refine Lx.y (asg rfl) rfl ?_
  refine Lx.y (asg rfl) rfl ?_
  refine Lx.nil ?_
  refine Xx.tn (k2 _ _ _ _ ?_)
  refine Cx.seq (fun K3 k3 => ?_)
  refine Cx.block ?_
  refine Cx.loopK (Sub.cons (s := 0) rfl (Sub.cons (s := 1) rfl (Sub.cons (s := 4) rfl (Sub.cons (s := 5) rfl (Sub.cons (s := 9) rfl (Sub.cons (s := 10) rfl (Sub.nil _))))))) (fun m ρ' B' H' => ∃ (i j : Nat), (i ≤ j ∧ j ≤ l.length ∧ (∀ k (hk : k < (l.map (·.1)).length), k < i → bless (l.map (·.1))[k] t = true) ∧ (∀ k (hk : k < (l.map (·.1)).length), j ≤ k → bless (l.map (·.1))[k] t = false)) ∧ m = j - i ∧ ρ' = [(6, i64 i), (7, i64 j)] ∧ B = B' ∧ R = H') ⟨0, l.length, ⟨Nat.zero_le _, Nat.le_refl _, fun k _ h => absurd h (by omega), fun k hk h => absurd h (by omega)⟩, rfl, rfl, rfl, rfl⟩ (Sub.cons (s := 6) rfl (Sub.cons (s := 7) rfl (Sub.cons (s := 0) rfl (Sub.cons (s := 1) rfl (Sub.cons (s := 4) rfl (Sub.cons (s := 5) rfl (Sub.cons (s := 9) rfl (Sub.cons (s := 10) rfl (Sub.nil _))))))))) ?_
  rintro m ρ' B' H' ⟨i, j, ⟨hij, hjn, hlo, hhi⟩, rfl, rfl, rfl, rfl⟩
  refine Cx.seq (fun K4 k4 => ?_)
  refine Cx.seq (fun K5 k5 => ?_)
  refine Cx.region ?_
  refine Lx.y (mv rfl) rfl ?_
  refine Lx.y (mv rfl) rfl ?_
  refine Lx.y (lss rfl rfl) rfl ?_
  refine Lx.nil ?_
  refine Xx.tn (k5 _ _ _ _ ?_)
  refine Cx.condD rfl (fun h6 => ?_) (fun h6 => ?_)
  · skip
    have hlt := h6
    have hm : (i + j) / 2 < (l.map (·.1)).length := by omega
    obtain ⟨b0, o0, cs0, et0, fz0, hA0, hB0, hc0⟩ := pairs_at hR rfl (show (i + j) / 2 < l.length by omega)
    obtain ⟨hv0, hv1⟩ := two_at hc0
    subst hA0
    refine Cx.skip ?_
    refine Xx.tn (k4 _ _ _ _ ?_)
    refine Cx.block ?_
    refine Cx.seq (fun K7 k7 => ?_)
    refine Cx.region ?_
    refine Lx.y (mv rfl) rfl ?_
    refine Lx.y (mv rfl) rfl ?_
    refine Lx.y (Yx.val (add rfl rfl (by first | exact wrap64 (by omega) (by omega) | rfl)) (show _ = i64 ((i + j : Nat) : Int) from rfl)) rfl ?_
    refine Lx.y (Yx.val (quoN rfl rfl (by omega) (by omega) (show IntKind.i64.wrap _ = (((i + j) / 2 : Nat) : Int) by rw [wrap64 (by omega) (by omega)]; omega)) (show _ = i64 (((i + j) / 2 : Nat) : Int) from rfl)) rfl ?_
    refine Lx.y (asg rfl) rfl ?_
    refine Lx.nil ?_
    refine Xx.tn (k7 _ _ _ _ ?_)
    refine Cx.seq (fun K8 k8 => ?_)
    refine Cx.region ?_
    refine Lx.y (mv rfl) rfl ?_
    refine Lx.y (mv rfl) rfl ?_
    refine Lx.y (ia Try.underlying28 sz77 rfl rfl (by first | exact Int.toNat_natCast _ | rfl) (by omega) (by omega)) rfl ?_
    refine Lx.y (fa' fo77_0 rfl) rfl ?_
    refine Lx.y (ldB Try.underlying9 rfl rfl hB0 hv0) rfl ?_
    refine Lx.y (mv rfl) rfl ?_
    refine Lx.y (lssS rfl rfl) rfl ?_
    refine Lx.nil ?_
    refine Xx.tn (k8 _ _ _ _ ?_)
    refine Cx.condB rfl (fun h9 => ?_) (fun h9 => ?_)
    · skip
      have hb := h9
      rw [key_at] at hb
      refine Cx.region ?_
      refine Lx.y (mv rfl) rfl ?_
      refine Lx.y (Yx.val (add rfl rfl (by first | exact wrap64 (by omega) (by omega) | rfl)) (show _ = i64 (((i + j) / 2 + 1 : Nat) : Int) from rfl)) rfl ?_
      refine Lx.y (asg rfl) rfl ?_
      refine Lx.nil ?_
      refine Xx.bn ?_
      exact Xx.againK ⟨(i + j) / 2 + 1, j, ⟨by omega, hjn, fun k hk hki => by
  by_cases e : k = (i + j) / 2
  · subst e; exact hb
  · exact bless_trans (hs.lt hm (by omega)) hb, hhi⟩, rfl, rfl, rfl, rfl⟩ (by omega) (Sub.cons (s := 6) rfl (Sub.consE (s := 7) rfl (rfl) (Sub.cons (s := 0) rfl (Sub.cons (s := 1) rfl (Sub.cons (s := 4) rfl (Sub.cons (s := 5) rfl (Sub.cons (s := 9) rfl (Sub.cons (s := 10) rfl (Sub.nil _)))))))))
    · skip
      have hb := h9
      rw [key_at] at hb
      refine Cx.region ?_
      refine Lx.y (mv rfl) rfl ?_
      refine Lx.y (asg rfl) rfl ?_
      refine Lx.nil ?_
      refine Xx.bn ?_
      exact Xx.againK ⟨i, (i + j) / 2, ⟨by omega, by omega, hlo, fun k hk hki => by
  by_cases e : k = (i + j) / 2
  · subst e; exact hb
  · cases h2 : bless (l.map (·.1))[k] t with
    | false => rfl
    | true => rw [bless_trans (hs.lt hk (show (i + j) / 2 < k by omega)) h2] at hb; cases hb⟩, rfl, rfl, rfl, rfl⟩ (by omega) (Sub.consE (s := 6) rfl (rfl) (Sub.cons (s := 7) rfl (Sub.cons (s := 0) rfl (Sub.cons (s := 1) rfl (Sub.cons (s := 4) rfl (Sub.cons (s := 5) rfl (Sub.cons (s := 9) rfl (Sub.cons (s := 10) rfl (Sub.nil _)))))))))
  · skip
    obtain rfl : i = j := by have := h6; omega
    have hlb := lb_eq (l.map (·.1)) t i (by omega) hlo (fun h => hhi i h (Nat.le_refl _))
    have hmem := mem_at hs hlo hhi
    refine Cx.exit ?_
    refine Xx.te ?_
    refine Xx.te ?_
    refine Xx.bh ?_
    refine Xx.tn (k3 _ _ _ _ ?_)
    refine Cx.seq (fun K10 k10 => ?_)
    refine Cx.drawn (by kernel_rfl) ?_
    refine Dx.p (i := 0) rfl (by kernel_rfl) (mv rfl) rfl ?_
    refine Dx.p (i := 1) rfl (by kernel_rfl) (mv rfl) rfl ?_
    refine Dx.p (i := 2) rfl (by kernel_rfl) (mv rfl) rfl ?_
    refine Dx.p (i := 3) rfl (by kernel_rfl) (lenV (ty' := 0) Try.underlying28 rfl) rfl ?_
    refine Dx.p (i := 4) rfl (by kernel_rfl) (lss rfl rfl) rfl ?_
    refine Dx.p (i := 5) rfl (by kernel_rfl) (mv rfl) rfl ?_
    refine Xx.ifD (t := 33) rfl (fun h11 => ?_) (fun h11 => ?_)
    · skip
      have hin := h11
      have hin : i < l.length := by omega
      have hd : decide (l[i].1 = t) = decide (t ∈ (l.map (·.1))) := decide_eq_decide.2 ⟨fun e => hmem.2 ⟨by omega, by rw [← key_at hin]; exact e⟩, fun z => by obtain ⟨_, e⟩ := hmem.1 z; rw [key_at hin]; exact e⟩
      obtain ⟨b0, o0, cs0, et0, fz0, hA0, hB0, hc0⟩ := pairs_at hR rfl (show i < l.length by omega)
      obtain ⟨hv0, hv1⟩ := two_at hc0
      subst hA0
      refine Dx.pT (i := 6) rfl rfl rfl rfl (by kernel_rfl) (mv rfl) rfl ?_
      refine Dx.pT (i := 7) rfl rfl rfl rfl (by kernel_rfl) (mv rfl) rfl ?_
      refine Dx.pT (i := 8) rfl rfl rfl rfl (by kernel_rfl) (ia Try.underlying28 sz77 rfl rfl (by first | exact Int.toNat_natCast _ | rfl) (by omega) (by omega)) rfl ?_
      refine Dx.pT (i := 9) rfl rfl rfl rfl (by kernel_rfl) (fa' fo77_0 rfl) rfl ?_
      refine Dx.rT (i := 10) rfl rfl rfl rfl (by kernel_rfl) (ldB Try.underlying9 rfl rfl hB0 hv0) rfl ?_
      refine Dx.pT (i := 11) rfl rfl rfl rfl (by kernel_rfl) (mv rfl) rfl ?_
      refine Dx.pT (i := 12) rfl rfl rfl rfl (by kernel_rfl) (eqS rfl rfl) rfl ?_
      refine Dx.p (i := 13) rfl (by kernel_rfl) (pickT rfl rfl) rfl ?_
      refine Dx.p (i := 14) rfl (by kernel_rfl) (asg rfl) rfl ?_
      refine Dx.p (i := 15) rfl (by kernel_rfl) (asg rfl) rfl ?_
      refine Dx.done (by kernel_rfl) ?_
      refine Xx.tn (k10 _ _ _ _ ?_)
      refine Cx.ret ?_
      exact Xx.rB2 rfl rfl rfl ⟨by rw [hlb, ← hd], rfl⟩ (Frag.le_refl _) rfl
    · skip
      have hin := h11
      refine Dx.pF (i := 6) rfl (fun _ h => by cases h) rfl rfl rfl (by kernel_rfl) rfl ?_
      refine Dx.pF (i := 7) rfl (fun _ h => by cases h) rfl rfl rfl (by kernel_rfl) rfl ?_
      refine Dx.pF (i := 8) rfl (fun _ h => by cases h) rfl rfl rfl (by kernel_rfl) rfl ?_
      refine Dx.pF (i := 9) rfl (fun _ h => by cases h) rfl rfl rfl (by kernel_rfl) rfl ?_
      refine Dx.pF (i := 10) rfl (fun _ h => by cases h) rfl rfl rfl (by kernel_rfl) rfl ?_
      refine Dx.pF (i := 11) rfl (fun _ h => by cases h) rfl rfl rfl (by kernel_rfl) rfl ?_
      refine Dx.pF (i := 12) rfl (fun _ h => by cases h) rfl rfl rfl (by kernel_rfl) rfl ?_
      refine Dx.p (i := 13) rfl (by kernel_rfl) (pickF rfl rfl) rfl ?_
      refine Dx.p (i := 14) rfl (by kernel_rfl) (asg rfl) rfl ?_
      refine Dx.p (i := 15) rfl (by kernel_rfl) (asg rfl) rfl ?_
      refine Dx.done (by kernel_rfl) ?_
      refine Xx.tn (k10 _ _ _ _ ?_)
      refine Cx.ret ?_
      exact Xx.rB2 rfl rfl rfl ⟨by rw [hlb, decide_eq_false (fun z => hin (by have := (hmem.1 z).1; omega))], rfl⟩ (Frag.le_refl _) rfl

set_option maxHeartbeats 4000000 in
theorem put_ct (l : List (Str8 × Str8)) (k v : Str8) (A : Option Addr) (c : Nat) (B : Frag) (hR : RoS B 2 A l.length (flatP l)) (hc : l.length ≤ c) (ho : Ord l) (hn : l.length ≤ 1000) : CtB Try.prog 13 [.slice A l.length c, str k, str v] B (fun r B' => ∃ A' c', r = .tuple #[.slice A' (insP k v l).length c', .bool (!decide (k ∈ (l.map (·.1))))] ∧ RoS B' 2 A' (insP k v l).length (flatP (insP k v l)) ∧ (insP k v l).length ≤ c') := by
  have hs := ord_srt ho
  have hkl : (l.map (·.1)).length = l.length := List.length_map ..
  have hlb := lb_le (l.map (·.1)) k
  obtain ⟨hp1, hp2⟩ := insP_spec (k := k) (v := v) ho
  have hTl : (l.take (lb (l.map (·.1)) k)).length = lb (l.map (·.1)) k := by rw [List.length_take]; omega
  refine CtB.of_body Try.func13 rfl (nt := 41) rfl (by kernel_rfl) rfl ?_
  intro N0 w0 R
  refine Cx.seq (fun K1 k1 => ?_)
  refine Cx.region ?_
  refine Lx.y (asg rfl) rfl ?_
  refine Lx.y (asg rfl) rfl ?_
  refine Lx.nil ?_
  refine Xx.tn (k1 _ _ _ _ ?_)
  refine Cx.seq (fun K2 k2 => ?_)
  refine Cx.region ?_
  refine Lx.y (mv rfl) rfl ?_
  refine Lx.y (mv rfl) rfl ?_
  refine Lx.cp rfl rfl rfl (find_ct l k A c _ hR ho hn) rfl ?_
  refine Lx.y (mv rfl) rfl ?_
  refine Lx.y (ext rfl rfl) rfl ?_
  refine Lx.y (ext rfl rfl) rfl ?_
  refine Lx.y (asg rfl) rfl ?_
  refine Lx.y (asg rfl) rfl ?_
  refine Lx.nil ?_
  refine Xx.tn (k2 _ _ _ _ ?_)
  refine Cx.seq (fun K3 k3 => ?_)
  refine Cx.seq (fun K4 k4 => ?_)
  refine Cx.region ?_
  refine Lx.y (mv rfl) rfl ?_
  refine Lx.nil ?_
  refine Xx.tn (k4 _ _ _ _ ?_)
  refine Cx.condB rfl (fun h5 => ?_) (fun h5 => ?_)
  · skip
    have hin : k ∈ (l.map (·.1)) := of_decide_eq_true h5
    obtain ⟨hlt, hat⟩ := lb_mem hs hin
    have hlt : lb (l.map (·.1)) k < l.length := by omega
    rw [← key_at hlt] at hat
    have hp := hp1 hin
    have hpl : (insP k v l).length = l.length := by rw [hp, List.length_set]
    refine Cx.seq (fun K6 k6 => ?_)
    refine Cx.region ?_
    refine Lx.o (bslZ Try.underlying28 ti77) rfl (fun v B' H' hΦ hB => ?_)
    obtain ⟨b0, rfl, hBB, rfl⟩ := hΦ
    have hBB2 := hBB.symm
    subst hBB2
    clear hB
    refine Lx.y (mv rfl) rfl ?_
    refine Lx.o (appB l.length (flatP l) Try.underlying28 Try.underlying28 ti77 rfl rfl hR (flatP_all _) (by omega) (by omega) (by omega) rfl) rfl (fun v B' H' hΦ hB => ?_)
    obtain ⟨A1, c1, rfl, hA1, hc1, hBB, rfl⟩ := hΦ
    have hBB2 := hBB.symm
    subst hBB2
    clear hB
    refine Lx.y (asg rfl) rfl ?_
    refine Lx.nil ?_
    refine Xx.tn (k6 _ _ _ _ ?_)
    refine Cx.seq (fun K7 k7 => ?_)
    obtain ⟨ba, rfl⟩ := hA1 (by omega)
    refine Xx.openT (some ⟨ba, 0, none⟩) (by omega) (fun bb sp hbb hxl hnc hcl => ?_)
    injection hbb with hbb
    injection hbb with hbb
    subst hbb
    refine Cx.region ?_
    refine Lx.y (mv rfl) rfl ?_
    refine Lx.y (mv rfl) rfl ?_
    refine Lx.y (mv rfl) rfl ?_
    refine Lx.y (ia Try.underlying28 sz77 rfl rfl (by first | exact Int.toNat_natCast _ | rfl) (by omega) (by omega)) rfl ?_
    refine Lx.y (fa' fo77_1 rfl) rfl ?_
    refine Lx.st (stO Try.underlying9 sz9 rfl rfl rfl (by rw [List.length_append, flatP_len]; omega) ((frc_gen _ _).trans (congrArg some (flatP_set hlt)))) ?_
    refine Lx.nil ?_
    refine Xx.tn (k7 _ _ _ _ ?_)
    refine Cx.seq (fun K8 k8 => ?_)
    rw [hat, ← hp]
    refine Xx.closeT ba (flatP (insP k v l)) sp 2 l.length c1 rfl (by rw [flatP_len, hpl]) hnc (by rw [List.length_append, flatP_len, hpl, ← flatP_len l, ← List.length_append]; exact hcl) ?_
    refine Cx.region ?_
    refine Lx.y (mv rfl) rfl ?_
    refine Lx.y (asg rfl) rfl ?_
    refine Lx.y (asg rfl) rfl ?_
    refine Lx.nil ?_
    refine Xx.tn (k8 _ _ _ _ ?_)
    refine Cx.ret ?_
    refine Xx.tr ?_
    refine Xx.freezeT (some ⟨ba, 0, none⟩) fun B3 hB3 hRo hnc3 _ => ?_
    exact Xx.rB2 rfl rfl rfl ⟨some ⟨ba, 0, none⟩, c1, by rw [hpl, decide_eq_true hin]; rfl, by rw [hpl]; exact hRo, by omega⟩ hB3 rfl
  · skip
    have hin : k ∉ (l.map (·.1)) := of_decide_eq_false h5
    have hp := hp2 hin
    have hpl : (insP k v l).length = l.length + 1 := by rw [hp]; simp only [List.length_append, List.length_cons, List.length_nil, List.length_drop, hTl]; omega
    refine Cx.skip ?_
    refine Xx.tn (k3 _ _ _ _ ?_)
    refine Cx.seq (fun K9 k9 => ?_)
    refine Cx.drawn (by kernel_rfl) ?_
    refine Dx.p (i := 1) rfl (by kernel_rfl) (mv rfl) rfl ?_
    refine Dx.p (i := 2) rfl (by kernel_rfl) (mv rfl) rfl ?_
    refine Dx.p (i := 3) rfl (by kernel_rfl) (sl2V Try.underlying28 sz77 rfl rfl (Int.toNat_natCast _) (by omega) (by omega)) rfl ?_
    refine Dx.p (i := 5) rfl (by kernel_rfl) (mv rfl) rfl ?_
    refine Dx.p (i := 6) rfl (by kernel_rfl) (mv rfl) rfl ?_
    refine Dx.p (i := 7) rfl (by kernel_rfl) (bld ti77 pl77 rfl rfl) rfl ?_
    refine Dx.p (i := 10) rfl (by kernel_rfl) (mv rfl) rfl ?_
    refine Dx.p (i := 11) rfl (by kernel_rfl) (mv rfl) rfl ?_
    refine Dx.p (i := 12) rfl (by kernel_rfl) (sl1V Try.underlying28 sz77 rfl rfl (Int.toNat_natCast _) (by omega) (by omega)) rfl ?_
    refine Dx.two (i := 0) (j := 8) (by kernel_rfl) ?_ ?_
    · skip
      refine Dstep.o (i := 0) rfl (bslZ Try.underlying28 ti77) rfl (fun v B' H' hΦ hB => ?_)
      obtain ⟨b0, rfl, hBB, rfl⟩ := hΦ
      have hBB2 := hBB.symm
      subst hBB2
      refine ⟨JOk.top, ?_⟩
      refine Dx.two (i := 4) (j := 8) (by kernel_rfl) ?_ ?_
      · skip
        refine Dstep.o (i := 4) rfl (appB (A := some ⟨b0, 0, none⟩) (lb (l.map (·.1)) k) (flatP (l.take (lb (l.map (·.1)) k))) Try.underlying28 Try.underlying28 ti77 rfl rfl (by have := RoS.take hR (j := lb (l.map (·.1)) k) (by omega); rw [flatP_take] at this; exact this) (flatP_all _) (by omega) (by omega) (by omega) rfl) rfl (fun v B' H' hΦ hB => ?_)
        obtain ⟨A1, c1, rfl, hA1, hc1, hBB, rfl⟩ := hΦ
        have hBB2 := hBB.symm
        subst hBB2
        refine ⟨JOk.top, ?_⟩
        refine Dx.one (i := 8) (by kernel_rfl) ?_
        refine Dstep.o (i := 8) rfl (bslA Try.underlying28 ti77 rfl rfl (by decide)) rfl (fun v B' H' hΦ hB => ?_)
        obtain ⟨bp, rfl, rfl, rfl⟩ := hΦ; clear hB
        refine ⟨JOk.top, ?_⟩
        refine Dx.one (i := 9) (by kernel_rfl) ?_
        refine Dstep.o (i := 9) rfl (appN (A := A1) (lb (l.map (·.1)) k + 1) (flatP [(k, v)]) (flatP (l.take (lb (l.map (·.1)) k) ++ [(k, v)])) Try.underlying28 Try.underlying28 ti77 rfl rfl rfl rfl rfl (by omega) (by omega) rfl (by rw [flatP_app])) rfl (fun v B' H' hΦ hB => ?_)
        obtain ⟨A2, c2, rfl, hA2, hl2, hc2, hBB, rfl⟩ := hΦ
        have hBB2 := hBB.symm
        subst hBB2
        refine ⟨JOk.top, ?_⟩
        refine Dx.one (i := 13) (by kernel_rfl) ?_
        refine Dstep.o (i := 13) rfl (appB (A := A2) (insP k v l).length (flatP (insP k v l)) Try.underlying28 Try.underlying28 ti77 rfl rfl (by have := RoS.sub hR (j := lb (l.map (·.1)) k) (by omega) hc; rw [flatP_drop] at this; exact this) (flatP_all _) (by omega) (by omega) (by omega) (by simp only [hp, flatP_app])) rfl (fun v B' H' hΦ hB => ?_)
        obtain ⟨A3, c3, rfl, hA3, hc3, hBB, rfl⟩ := hΦ
        have hBB2 := hBB.symm
        subst hBB2
        refine ⟨JOk.top, ?_⟩
        refine Dx.p (i := 14) rfl (by kernel_rfl) (asg rfl) rfl ?_
        refine Dx.p (i := 15) rfl (by kernel_rfl) (asg rfl) rfl ?_
        refine Dx.done (by kernel_rfl) ?_
        refine Xx.tn (k9 _ _ _ _ ?_)
        refine Cx.ret ?_
        refine Xx.freezeT A3 fun B3 hB3 hRo hnc3 _ => ?_
        refine Xx.dropB bp ?_
        exact Xx.rB2 rfl rfl rfl ⟨A3, c3, by rw [decide_eq_false hin]; rfl, hRo, hnc3⟩ hB3 rfl
      refine Dstep.o (i := 8) rfl (bslA Try.underlying28 ti77 rfl rfl (by decide)) rfl (fun v B' H' hΦ hB => ?_)
      obtain ⟨bp, rfl, rfl, rfl⟩ := hΦ; clear hB
      refine ⟨JOk.top, ?_⟩
      refine Dx.one (i := 4) (by kernel_rfl) ?_
      refine Dstep.o (i := 4) rfl (appB (A := some ⟨b0, 0, none⟩) (lb (l.map (·.1)) k) (flatP (l.take (lb (l.map (·.1)) k))) Try.underlying28 Try.underlying28 ti77 rfl rfl (by have := RoS.take hR (j := lb (l.map (·.1)) k) (by omega); rw [flatP_take] at this; exact this) (flatP_all _) (by omega) (by omega) (by omega) rfl) rfl (fun v B' H' hΦ hB => ?_)
      obtain ⟨A1, c1, rfl, hA1, hc1, hBB, rfl⟩ := hΦ
      have hBB2 := hBB.symm
      subst hBB2
      refine ⟨JOk.top, ?_⟩
      refine Dx.one (i := 9) (by kernel_rfl) ?_
      refine Dstep.o (i := 9) rfl (appN (A := A1) (lb (l.map (·.1)) k + 1) (flatP [(k, v)]) (flatP (l.take (lb (l.map (·.1)) k) ++ [(k, v)])) Try.underlying28 Try.underlying28 ti77 rfl rfl rfl rfl rfl (by omega) (by omega) rfl (by rw [flatP_app])) rfl (fun v B' H' hΦ hB => ?_)
      obtain ⟨A2, c2, rfl, hA2, hl2, hc2, hBB, rfl⟩ := hΦ
      have hBB2 := hBB.symm
      subst hBB2
      refine ⟨JOk.top, ?_⟩
      refine Dx.one (i := 13) (by kernel_rfl) ?_
      refine Dstep.o (i := 13) rfl (appB (A := A2) (insP k v l).length (flatP (insP k v l)) Try.underlying28 Try.underlying28 ti77 rfl rfl (by have := RoS.sub hR (j := lb (l.map (·.1)) k) (by omega) hc; rw [flatP_drop] at this; exact this) (flatP_all _) (by omega) (by omega) (by omega) (by simp only [hp, flatP_app])) rfl (fun v B' H' hΦ hB => ?_)
      obtain ⟨A3, c3, rfl, hA3, hc3, hBB, rfl⟩ := hΦ
      have hBB2 := hBB.symm
      subst hBB2
      refine ⟨JOk.top, ?_⟩
      refine Dx.p (i := 14) rfl (by kernel_rfl) (asg rfl) rfl ?_
      refine Dx.p (i := 15) rfl (by kernel_rfl) (asg rfl) rfl ?_
      refine Dx.done (by kernel_rfl) ?_
      refine Xx.tn (k9 _ _ _ _ ?_)
      refine Cx.ret ?_
      refine Xx.freezeT A3 fun B3 hB3 hRo hnc3 _ => ?_
      refine Xx.dropB bp ?_
      exact Xx.rB2 rfl rfl rfl ⟨A3, c3, by rw [decide_eq_false hin]; rfl, hRo, hnc3⟩ hB3 rfl
    refine Dstep.o (i := 8) rfl (bslA Try.underlying28 ti77 rfl rfl (by decide)) rfl (fun v B' H' hΦ hB => ?_)
    obtain ⟨bp, rfl, rfl, rfl⟩ := hΦ; clear hB
    refine ⟨JOk.top, ?_⟩
    refine Dx.one (i := 0) (by kernel_rfl) ?_
    refine Dstep.o (i := 0) rfl (bslZ Try.underlying28 ti77) rfl (fun v B' H' hΦ hB => ?_)
    obtain ⟨b0, rfl, hBB, rfl⟩ := hΦ
    have hBB2 := hBB.symm
    subst hBB2
    refine ⟨JOk.top, ?_⟩
    refine Dx.one (i := 4) (by kernel_rfl) ?_
    refine Dstep.o (i := 4) rfl (appB (A := some ⟨b0, 0, none⟩) (lb (l.map (·.1)) k) (flatP (l.take (lb (l.map (·.1)) k))) Try.underlying28 Try.underlying28 ti77 rfl rfl (by have := RoS.take hR (j := lb (l.map (·.1)) k) (by omega); rw [flatP_take] at this; exact this) (flatP_all _) (by omega) (by omega) (by omega) rfl) rfl (fun v B' H' hΦ hB => ?_)
    obtain ⟨A1, c1, rfl, hA1, hc1, hBB, rfl⟩ := hΦ
    have hBB2 := hBB.symm
    subst hBB2
    refine ⟨JOk.top, ?_⟩
    refine Dx.one (i := 9) (by kernel_rfl) ?_
    refine Dstep.o (i := 9) rfl (appN (A := A1) (lb (l.map (·.1)) k + 1) (flatP [(k, v)]) (flatP (l.take (lb (l.map (·.1)) k) ++ [(k, v)])) Try.underlying28 Try.underlying28 ti77 rfl rfl rfl rfl rfl (by omega) (by omega) rfl (by rw [flatP_app])) rfl (fun v B' H' hΦ hB => ?_)
    obtain ⟨A2, c2, rfl, hA2, hl2, hc2, hBB, rfl⟩ := hΦ
    have hBB2 := hBB.symm
    subst hBB2
    refine ⟨JOk.top, ?_⟩
    refine Dx.one (i := 13) (by kernel_rfl) ?_
    refine Dstep.o (i := 13) rfl (appB (A := A2) (insP k v l).length (flatP (insP k v l)) Try.underlying28 Try.underlying28 ti77 rfl rfl (by have := RoS.sub hR (j := lb (l.map (·.1)) k) (by omega) hc; rw [flatP_drop] at this; exact this) (flatP_all _) (by omega) (by omega) (by omega) (by simp only [hp, flatP_app])) rfl (fun v B' H' hΦ hB => ?_)
    obtain ⟨A3, c3, rfl, hA3, hc3, hBB, rfl⟩ := hΦ
    have hBB2 := hBB.symm
    subst hBB2
    refine ⟨JOk.top, ?_⟩
    refine Dx.p (i := 14) rfl (by kernel_rfl) (asg rfl) rfl ?_
    refine Dx.p (i := 15) rfl (by kernel_rfl) (asg rfl) rfl ?_
    refine Dx.done (by kernel_rfl) ?_
    refine Xx.tn (k9 _ _ _ _ ?_)
    refine Cx.ret ?_
    refine Xx.freezeT A3 fun B3 hB3 hRo hnc3 _ => ?_
    refine Xx.dropB bp ?_
    exact Xx.rB2 rfl rfl rfl ⟨A3, c3, by rw [decide_eq_false hin]; rfl, hRo, hnc3⟩ hB3 rfl

set_option maxHeartbeats 4000000 in
theorem in_ct (l : List (Str8 × Str8)) (lo hi : Str8) (A : Option Addr) (c : Nat) (B : Frag) (hR : RoS B 2 A l.length (flatP l)) (hn : l.length ≤ 1000) : CtB Try.prog 14 [.slice A l.length c, .agg [str lo, str hi].toArray] B (fun r B' => ∃ A' c', r = .slice A' (inS lo hi l).length c' ∧ RoS B' 2 A' (inS lo hi l).length (flatP (inS lo hi l)) ∧ (inS lo hi l).length ≤ c') := by
  refine CtB.of_body Try.func14 rfl (nt := 45) rfl (by kernel_rfl) rfl ?_
  intro N0 w0 R
  refine Cx.seq (fun K1 k1 => ?_)
  refine Cx.region ?_
  refine Lx.new (boxA rfl) rfl (fun b3 => ?_)
  refine Lx.y (asg rfl) rfl ?_
  refine Lx.nil ?_
  refine Xx.tn (k1 _ _ _ _ ?_)
  refine Cx.seq (fun K2 k2 => ?_)
  refine Cx.region ?_
  refine Lx.o (bslZ Try.underlying28 ti77) rfl (fun v B' H' hΦ hB => ?_)
  obtain ⟨b0, rfl, hBB, rfl⟩ := hΦ
  have hBB2 := hBB.symm
  subst hBB2
  clear hB
  refine Lx.y (asg rfl) rfl ?_
  refine Lx.nil ?_
  refine Xx.tn (k2 _ _ _ _ ?_)
  refine Cx.seq (fun K3 k3 => ?_)
  refine Cx.seq (fun K4 k4 => ?_)
  refine Cx.region ?_
  refine Lx.y (asg rfl) rfl ?_
  refine Lx.nil ?_
  refine Xx.tn (k4 _ _ _ _ ?_)
  refine Cx.block ?_
  refine Cx.loopK (Sub.cons (s := 0) rfl (Sub.cons (s := 1) rfl (Sub.cons (s := 3) rfl (Sub.cons (s := 4) rfl (Sub.cons (s := 7) rfl (Sub.nil _)))))) (fun m ρ' B' H' => ∃ (i : Nat) (Ao : Option Addr) (co : Nat), (i ≤ l.length ∧ (inS lo hi (l.take i)).length ≤ co) ∧ m = l.length - i ∧ ρ' = [(5, .slice Ao (inS lo hi (l.take i)).length co), (6, i64 i)] ∧ B = B' ∧ sbuf 77 2 Ao (inS lo hi (l.take i)).length co (flatP (inS lo hi (l.take i))) * (row b3 24 [str lo, str hi] * R) = H') ⟨0, some ⟨b0, 0, none⟩, 0, ⟨Nat.zero_le _, Nat.le_refl _⟩, rfl, rfl, rfl, rfl⟩ (Sub.cons (s := 5) rfl (Sub.cons (s := 6) rfl (Sub.cons (s := 0) rfl (Sub.cons (s := 1) rfl (Sub.cons (s := 3) rfl (Sub.cons (s := 4) rfl (Sub.cons (s := 7) rfl (Sub.nil _)))))))) ?_
  rintro m ρ' B' H' ⟨i, Ao, co, ⟨hi1, hco⟩, rfl, rfl, rfl, rfl⟩
  refine Cx.seq (fun K5 k5 => ?_)
  refine Cx.seq (fun K6 k6 => ?_)
  refine Cx.region ?_
  refine Lx.y (mv rfl) rfl ?_
  refine Lx.y (mv rfl) rfl ?_
  refine Lx.y (lenV (ty' := 0) Try.underlying28 rfl) rfl ?_
  refine Lx.y (lss rfl rfl) rfl ?_
  refine Lx.nil ?_
  refine Xx.tn (k6 _ _ _ _ ?_)
  refine Cx.condD rfl (fun h7 => ?_) (fun h7 => ?_)
  · skip
    have hlt := h7
    have hlt : i < l.length := by omega
    obtain ⟨b0, o0, cs0, et0, fz0, hA0, hB0, hc0⟩ := pairs_at hR rfl (show i < l.length by omega)
    obtain ⟨hv0, hv1⟩ := two_at hc0
    subst hA0
    have hil : (inS lo hi (l.take i)).length ≤ i := Nat.le_trans (List.length_filter_le _ _) (by rw [List.length_take]; omega)
    have htk : inS lo hi (l.take (i + 1)) = inS lo hi (l.take i) ++ inS lo hi [l[i]] := by rw [take_succ1 _ hlt, inS_app]
    refine Cx.skip ?_
    refine Xx.tn (k5 _ _ _ _ ?_)
    refine Cx.seq (fun K8 k8 => ?_)
    refine Cx.block ?_
    refine Cx.seq (fun K9 k9 => ?_)
    refine Cx.drawn (by kernel_rfl) ?_
    refine Dx.p (i := 0) rfl (by kernel_rfl) (mv rfl) rfl ?_
    refine Dx.p (i := 1) rfl (by kernel_rfl) (mv rfl) rfl ?_
    refine Dx.p (i := 2) rfl (by kernel_rfl) (ia Try.underlying28 sz77 rfl rfl (by first | exact Int.toNat_natCast _ | rfl) (by omega) (by omega)) rfl ?_
    refine Dx.p (i := 3) rfl (by kernel_rfl) (fa' fo77_0 rfl) rfl ?_
    refine Dx.r (i := 4) rfl (by kernel_rfl) (ldB Try.underlying9 rfl rfl hB0 hv0) rfl ?_
    refine Dx.p (i := 5) rfl (by kernel_rfl) (fa' fo24_0 rfl) rfl ?_
    refine Dx.r (i := 6) rfl (by kernel_rfl) (ld Try.underlying9 rfl rfl rfl) rfl ?_
    refine Dx.p (i := 7) rfl (by kernel_rfl) (geqS rfl rfl) rfl ?_
    refine Dx.p (i := 8) rfl (by kernel_rfl) (mv rfl) rfl ?_
    refine Xx.ifB (t := 22) rfl (fun h10 => ?_) (fun h10 => ?_)
    · skip
      have g1 := h10
      refine Dx.pT (i := 9) rfl rfl rfl rfl (by kernel_rfl) (fa' fo24_1 rfl) rfl ?_
      refine Dx.rT (i := 10) rfl rfl rfl rfl (by kernel_rfl) (ld Try.underlying9 rfl rfl rfl) rfl ?_
      refine Dx.pT (i := 11) rfl rfl rfl rfl (by kernel_rfl) (eqS rfl rfl) rfl ?_
      refine Dx.pT (i := 12) rfl rfl rfl rfl (by kernel_rfl) (mv rfl) rfl ?_
      refine Xx.ifD (t := 26) rfl (fun h11 => ?_) (fun h11 => ?_)
      · skip
        have g2 := h11
        have hh : hasB lo hi l[i].1 = true := by unfold hasB; simp_all
        refine Dx.pF (i := 13) rfl (fun _ h => by cases h) rfl rfl rfl (by kernel_rfl) rfl ?_
        refine Dx.pF (i := 14) rfl (fun _ h => by cases h) rfl rfl rfl (by kernel_rfl) rfl ?_
        refine Dx.pF (i := 15) rfl (fun _ h => by cases h) rfl rfl rfl (by kernel_rfl) rfl ?_
        refine Dx.pF (i := 16) rfl (fun _ h => by cases h) rfl rfl rfl (by kernel_rfl) rfl ?_
        refine Dx.pF (i := 17) rfl (fun _ h => by cases h) rfl rfl rfl (by kernel_rfl) rfl ?_
        refine Dx.pF (i := 18) rfl (fun _ h => by cases h) rfl rfl rfl (by kernel_rfl) rfl ?_
        refine Dx.pF (i := 19) rfl (fun _ h => by cases h) rfl rfl rfl (by kernel_rfl) rfl ?_
        refine Dx.pF (i := 20) rfl (fun _ h => by cases h) rfl rfl rfl (by kernel_rfl) rfl ?_
        refine Dx.pT (i := 21) rfl rfl rfl rfl (by kernel_rfl) (pickT rfl rfl) rfl ?_
        refine Dx.p (i := 22) rfl (by kernel_rfl) (pickT rfl rfl) rfl ?_
        refine Dx.done (by kernel_rfl) ?_
        refine Xx.tn (k9 _ _ _ _ ?_)
        refine Cx.condT rfl ?_
        have hin3 : inS lo hi (l.take (i + 1)) = inS lo hi (l.take i) ++ [l[i]] := by
          have h1 : inS lo hi [l[i]] = [l[i]] := inS_all (fun p hp => by rw [List.mem_singleton.1 hp]; exact hh)
          rw [htk, h1]
        have hin2 : (inS lo hi (l.take (i + 1))).length = (inS lo hi (l.take i)).length + 1 := by rw [hin3, List.length_append]; rfl
        refine Cx.region ?_
        refine Lx.y (mv rfl) rfl ?_
        refine Lx.y (mv rfl) rfl ?_
        refine Lx.y (mv rfl) rfl ?_
        refine Lx.y (ia Try.underlying28 sz77 rfl rfl (by first | exact Int.toNat_natCast _ | rfl) (by omega) (by omega)) rfl ?_
        refine Lx.y (ldA Try.underlying77 rfl sz77 rfl (Cells.base (n := 2) hB0 hc0) rfl) rfl ?_
        refine Lx.bsl (bslA Try.underlying28 ti77 rfl rfl (by decide)) rfl (fun bp => ?_)
        refine Lx.o (appN (A := Ao) ((inS lo hi (l.take i)).length + 1) (flatP [l[i]]) (flatP (inS lo hi (l.take i) ++ [l[i]])) Try.underlying28 Try.underlying28 ti77 rfl rfl rfl rfl rfl (by omega) (by omega) rfl (by rw [flatP_app])) rfl (fun v B' H' hΦ hB => ?_)
        obtain ⟨A2, c2, rfl, hA2, hl2, hc2, hBB, rfl⟩ := hΦ
        have hBB2 := hBB.symm
        subst hBB2
        clear hB
        refine Lx.y (asg rfl) rfl ?_
        refine Lx.nil ?_
        refine Xx.bn ?_
        refine Xx.tn (k8 _ _ _ _ ?_)
        refine Cx.region ?_
        refine Lx.y (mv rfl) rfl ?_
        refine Lx.y (Yx.val (add rfl rfl (by first | exact wrap64 (by omega) (by omega) | rfl)) (show _ = i64 ((i + 1 : Nat) : Int) from rfl)) rfl ?_
        refine Lx.y (asg rfl) rfl ?_
        refine Lx.nil ?_
        refine Xx.dropB bp ?_
        exact Xx.againK ⟨i + 1, A2, c2, ⟨by omega, by rw [hin2]; omega⟩, rfl, rfl, rfl, (by rw [hin2, hin3])⟩ (by omega) (Sub.consE (s := 5) rfl (by rw [hin2]) (Sub.cons (s := 6) rfl (Sub.cons (s := 0) rfl (Sub.cons (s := 1) rfl (Sub.cons (s := 3) rfl (Sub.cons (s := 4) rfl (Sub.cons (s := 7) rfl (Sub.nil _))))))))
      · skip
        have g2 := h11
        refine Dx.pT (i := 13) rfl rfl rfl rfl (by kernel_rfl) (mv rfl) rfl ?_
        refine Dx.pT (i := 14) rfl rfl rfl rfl (by kernel_rfl) (mv rfl) rfl ?_
        refine Dx.pT (i := 15) rfl rfl rfl rfl (by kernel_rfl) (ia Try.underlying28 sz77 rfl rfl (by first | exact Int.toNat_natCast _ | rfl) (by omega) (by omega)) rfl ?_
        refine Dx.pT (i := 16) rfl rfl rfl rfl (by kernel_rfl) (fa' fo77_0 rfl) rfl ?_
        refine Dx.rT (i := 17) rfl rfl rfl rfl (by kernel_rfl) (ldB Try.underlying9 rfl rfl hB0 hv0) rfl ?_
        refine Dx.pT (i := 18) rfl rfl rfl rfl (by kernel_rfl) (fa' fo24_1 rfl) rfl ?_
        refine Dx.rT (i := 19) rfl rfl rfl rfl (by kernel_rfl) (ld Try.underlying9 rfl rfl rfl) rfl ?_
        refine Dx.pT (i := 20) rfl rfl rfl rfl (by kernel_rfl) (lssS rfl rfl) rfl ?_
        refine Dx.pT (i := 21) rfl rfl rfl rfl (by kernel_rfl) (pickF rfl rfl) rfl ?_
        refine Dx.p (i := 22) rfl (by kernel_rfl) (pickT rfl rfl) rfl ?_
        refine Dx.done (by kernel_rfl) ?_
        refine Xx.tn (k9 _ _ _ _ ?_)
        refine Cx.condB rfl (fun h12 => ?_) (fun h12 => ?_)
        · skip
          have hh : hasB lo hi l[i].1 = true := by unfold hasB; simp_all
          have hin3 : inS lo hi (l.take (i + 1)) = inS lo hi (l.take i) ++ [l[i]] := by
            have h1 : inS lo hi [l[i]] = [l[i]] := inS_all (fun p hp => by rw [List.mem_singleton.1 hp]; exact hh)
            rw [htk, h1]
          have hin2 : (inS lo hi (l.take (i + 1))).length = (inS lo hi (l.take i)).length + 1 := by rw [hin3, List.length_append]; rfl
          refine Cx.region ?_
          refine Lx.y (mv rfl) rfl ?_
          refine Lx.y (mv rfl) rfl ?_
          refine Lx.y (mv rfl) rfl ?_
          refine Lx.y (ia Try.underlying28 sz77 rfl rfl (by first | exact Int.toNat_natCast _ | rfl) (by omega) (by omega)) rfl ?_
          refine Lx.y (ldA Try.underlying77 rfl sz77 rfl (Cells.base (n := 2) hB0 hc0) rfl) rfl ?_
          refine Lx.bsl (bslA Try.underlying28 ti77 rfl rfl (by decide)) rfl (fun bp => ?_)
          refine Lx.o (appN (A := Ao) ((inS lo hi (l.take i)).length + 1) (flatP [l[i]]) (flatP (inS lo hi (l.take i) ++ [l[i]])) Try.underlying28 Try.underlying28 ti77 rfl rfl rfl rfl rfl (by omega) (by omega) rfl (by rw [flatP_app])) rfl (fun v B' H' hΦ hB => ?_)
          obtain ⟨A2, c2, rfl, hA2, hl2, hc2, hBB, rfl⟩ := hΦ
          have hBB2 := hBB.symm
          subst hBB2
          clear hB
          refine Lx.y (asg rfl) rfl ?_
          refine Lx.nil ?_
          refine Xx.bn ?_
          refine Xx.tn (k8 _ _ _ _ ?_)
          refine Cx.region ?_
          refine Lx.y (mv rfl) rfl ?_
          refine Lx.y (Yx.val (add rfl rfl (by first | exact wrap64 (by omega) (by omega) | rfl)) (show _ = i64 ((i + 1 : Nat) : Int) from rfl)) rfl ?_
          refine Lx.y (asg rfl) rfl ?_
          refine Lx.nil ?_
          refine Xx.dropB bp ?_
          exact Xx.againK ⟨i + 1, A2, c2, ⟨by omega, by rw [hin2]; omega⟩, rfl, rfl, rfl, (by rw [hin2, hin3])⟩ (by omega) (Sub.consE (s := 5) rfl (by rw [hin2]) (Sub.cons (s := 6) rfl (Sub.cons (s := 0) rfl (Sub.cons (s := 1) rfl (Sub.cons (s := 3) rfl (Sub.cons (s := 4) rfl (Sub.cons (s := 7) rfl (Sub.nil _))))))))
        · skip
          have hh : hasB lo hi l[i].1 = false := by unfold hasB; simp_all
          have hin2 : inS lo hi (l.take (i + 1)) = inS lo hi (l.take i) := by rw [htk]; unfold inS; simp [hh]
          refine Cx.skip ?_
          refine Xx.bn ?_
          refine Xx.tn (k8 _ _ _ _ ?_)
          refine Cx.region ?_
          refine Lx.y (mv rfl) rfl ?_
          refine Lx.y (Yx.val (add rfl rfl (by first | exact wrap64 (by omega) (by omega) | rfl)) (show _ = i64 ((i + 1 : Nat) : Int) from rfl)) rfl ?_
          refine Lx.y (asg rfl) rfl ?_
          refine Lx.nil ?_
          exact Xx.againK ⟨i + 1, Ao, co, ⟨by omega, by rw [hin2]; exact hco⟩, rfl, rfl, rfl, (by rw [hin2])⟩ (by omega) (Sub.consE (s := 5) rfl (by rw [hin2]) (Sub.cons (s := 6) rfl (Sub.cons (s := 0) rfl (Sub.cons (s := 1) rfl (Sub.cons (s := 3) rfl (Sub.cons (s := 4) rfl (Sub.cons (s := 7) rfl (Sub.nil _))))))))
    · skip
      have g1 := h10
      have hh : hasB lo hi l[i].1 = false := by unfold hasB; simp_all
      have hin2 : inS lo hi (l.take (i + 1)) = inS lo hi (l.take i) := by rw [htk]; unfold inS; simp [hh]
      refine Dx.pF (i := 9) rfl (fun _ h => by cases h) rfl rfl rfl (by kernel_rfl) rfl ?_
      refine Dx.pF (i := 10) rfl (fun _ h => by cases h) rfl rfl rfl (by kernel_rfl) rfl ?_
      refine Dx.pF (i := 11) rfl (fun _ h => by cases h) rfl rfl rfl (by kernel_rfl) rfl ?_
      refine Dx.pF (i := 12) rfl (fun _ h => by cases h) rfl rfl rfl (by kernel_rfl) rfl ?_
      refine Dx.pU (i := 13) rfl (fun _ h => by cases h) rfl rfl rfl (by kernel_rfl) rfl ?_
      refine Dx.pU (i := 14) rfl (fun _ h => by cases h) rfl rfl rfl (by kernel_rfl) rfl ?_
      refine Dx.pU (i := 15) rfl (fun _ h => by cases h) rfl rfl rfl (by kernel_rfl) rfl ?_
      refine Dx.pU (i := 16) rfl (fun _ h => by cases h) rfl rfl rfl (by kernel_rfl) rfl ?_
      refine Dx.pU (i := 17) rfl (fun _ h => by cases h) rfl rfl rfl (by kernel_rfl) rfl ?_
      refine Dx.pU (i := 18) rfl (fun _ h => by cases h) rfl rfl rfl (by kernel_rfl) rfl ?_
      refine Dx.pU (i := 19) rfl (fun _ h => by cases h) rfl rfl rfl (by kernel_rfl) rfl ?_
      refine Dx.pU (i := 20) rfl (fun _ h => by cases h) rfl rfl rfl (by kernel_rfl) rfl ?_
      refine Dx.pF (i := 21) rfl (fun _ h => by cases h) rfl rfl rfl (by kernel_rfl) rfl ?_
      refine Dx.p (i := 22) rfl (by kernel_rfl) (pickF rfl rfl) rfl ?_
      refine Dx.done (by kernel_rfl) ?_
      refine Xx.tn (k9 _ _ _ _ ?_)
      refine Cx.condF rfl ?_
      refine Cx.skip ?_
      refine Xx.bn ?_
      refine Xx.tn (k8 _ _ _ _ ?_)
      refine Cx.region ?_
      refine Lx.y (mv rfl) rfl ?_
      refine Lx.y (Yx.val (add rfl rfl (by first | exact wrap64 (by omega) (by omega) | rfl)) (show _ = i64 ((i + 1 : Nat) : Int) from rfl)) rfl ?_
      refine Lx.y (asg rfl) rfl ?_
      refine Lx.nil ?_
      exact Xx.againK ⟨i + 1, Ao, co, ⟨by omega, by rw [hin2]; exact hco⟩, rfl, rfl, rfl, (by rw [hin2])⟩ (by omega) (Sub.consE (s := 5) rfl (by rw [hin2]) (Sub.cons (s := 6) rfl (Sub.cons (s := 0) rfl (Sub.cons (s := 1) rfl (Sub.cons (s := 3) rfl (Sub.cons (s := 4) rfl (Sub.cons (s := 7) rfl (Sub.nil _))))))))
  · skip
    obtain rfl : i = l.length := by have := h7; omega
    rw [List.take_length] at *
    refine Cx.exit ?_
    refine Xx.te ?_
    refine Xx.te ?_
    refine Xx.bh ?_
    refine Xx.tn (k3 _ _ _ _ ?_)
    refine Cx.seq (fun K13 k13 => ?_)
    refine Cx.region ?_
    refine Lx.y (mv rfl) rfl ?_
    refine Lx.y (asg rfl) rfl ?_
    refine Lx.nil ?_
    refine Xx.tn (k13 _ _ _ _ ?_)
    refine Cx.ret ?_
    refine Xx.freezeT Ao fun B3 hB3 hRo hnc3 _ => ?_
    exact Xx.dropB b3 (Xx.rB1 rfl rfl ⟨Ao, co, rfl, hRo, hnc3⟩ hB3 rfl)
end BtU
end Go.Proofs.Ytcoiejmlpinpbaa
