/-
  Get: the walk.
-/
import Derived.Test.YtcoiejmlpinpbaaProg
import Derived.Test.YtcoiejmlpinpbaaSlj
import Derived.Test.YtcoiejmlpinpbaaBtK
namespace Go.Proofs.Ytcoiejmlpinpbaa
open Go.SL Go.RowKit
set_option linter.unusedVariables false
set_option linter.unusedSimpArgs false
set_option maxRecDepth 100000
open BtA BtB BtC BtD BtE BtG BtH BtI BtF BtJ BtK
namespace BtL
theorem sz9 : (Try.prog.info? 9).map (·.size) = some 1 := by kernel_rfl
theorem sz67 : (Try.prog.info? 67).map (·.size) = some 1 := by kernel_rfl
theorem fo70_0 : FO Try.prog 70 0 0 1 false := FO.of Try.underlying70 rfl rfl (by kernel_rfl) Try.underlying22 rfl rfl
theorem fo70_1 : FO Try.prog 70 1 1 1 false := FO.of Try.underlying70 rfl rfl (by kernel_rfl) Try.underlying22 rfl rfl
theorem fo70_2 : FO Try.prog 70 2 2 1 false := FO.of Try.underlying70 rfl rfl (by kernel_rfl) Try.underlying68 rfl rfl
theorem fo72_0 : FO Try.prog 72 0 0 1 false := FO.of Try.underlying72 rfl rfl (by kernel_rfl) Try.underlying67 rfl rfl

set_option maxHeartbeats 1000000 in
theorem Get_ro (N d : Nat) (hN : N ≤ 90) (c : C) (tb : Nat) (n : Int) (fz : Nat × Nat) (k : Str8) (B : Frag) (hT : B tb = some (.cells [pt c, i64 n].toArray 72 fz)) (hR : TrB B (d + 1) c) (hok : Ok N (d + 1) c) (ho : Ord (io (d + 1) c)) : CtP Try.prog 17 [.pointer (some ⟨tb, 0, none⟩), str k] B (.tuple #[str (lkp k (io (d + 1) c)), .bool (decide (k ∈ (io (d + 1) c).map (·.1)))]) := by
  refine CtB.of_body Try.func17 rfl (nt := 45) rfl (by kernel_rfl) rfl ?_
  intro N0 w0 R
  refine Cx.seq (fun K1 k1 => ?_)
  refine Cx.region ?_
  refine Lx.y (asg rfl) rfl ?_
  refine Lx.y (asg rfl) rfl ?_
  refine Lx.nil ?_
  refine Xx.tn (k1 _ _ _ _ ?_)
  refine Cx.seq (fun K2 k2 => ?_)
  refine Cx.seq (fun K3 k3 => ?_)
  refine Cx.region ?_
  refine Lx.y (mv rfl) rfl ?_
  refine Lx.y (Yx.ff (eqNilP Try.underlying26 rfl rfl) rfl) rfl ?_
  refine Lx.nil ?_
  refine Xx.tn (k3 _ _ _ _ ?_)
  refine Cx.condF rfl ?_
  refine Cx.skip ?_
  refine Xx.tn (k2 _ _ _ _ ?_)
  refine Cx.seq (fun K4 k4 => ?_)
  refine Cx.region ?_
  refine Lx.y (mv rfl) rfl ?_
  refine Lx.y (nilc rfl) rfl ?_
  refine Lx.y (fa' fo72_0 rfl) rfl ?_
  refine Lx.y (ldB Try.underlying67 rfl rfl hT rfl) rfl ?_
  refine Lx.y (asg rfl) rfl ?_
  refine Lx.nil ?_
  refine Xx.tn (k4 _ _ _ _ ?_)
  refine Cx.block ?_
  refine Cx.loopK (Sub.cons (s := 0) rfl (Sub.cons (s := 1) rfl (Sub.cons (s := 9) rfl (Sub.cons (s := 10) rfl (Sub.cons (s := 11) rfl (Sub.cons (s := 12) rfl (Sub.cons (s := 13) rfl (Sub.cons (s := 14) rfl (Sub.nil _))))))))) (fun m ρ' B' H' => ∃ (q : Nat) (x : C), (TrB B (q + 1) x ∧ Ok 90 (q + 1) x ∧ Ord (io (q + 1) x) ∧ lkp k (io (d + 1) c) = lkp k (io (q + 1) x) ∧ (k ∈ (io (d + 1) c).map (·.1) ↔ k ∈ (io (q + 1) x).map (·.1))) ∧ m = q ∧ ρ' = [(6, .pointer (some ⟨x.b, 0, none⟩))] ∧ B = B' ∧ R = H') ⟨d, c, ⟨hR, hok.le hN, ho, rfl, Iff.rfl⟩, rfl, rfl, rfl, rfl⟩ (Sub.cons (s := 6) rfl (Sub.cons (s := 0) rfl (Sub.cons (s := 1) rfl (Sub.cons (s := 9) rfl (Sub.cons (s := 10) rfl (Sub.cons (s := 11) rfl (Sub.cons (s := 12) rfl (Sub.cons (s := 13) rfl (Sub.cons (s := 14) rfl (Sub.nil _)))))))))) ?_
  rintro m ρ' B' H' ⟨q, x, ⟨hRx, hokx, hox, hlk, hmem⟩, rfl, rfl, rfl, rfl⟩
  obtain ⟨⟨fz2, hBx⟩, hRk, hRv, hRc, hkids⟩ := hRx
  have hsx := srt_of hokx hox
  have hvl := hokx.1
  have h7 := hokx.2.1
  refine Cx.block ?_
  refine Cx.seq (fun K5 k5 => ?_)
  refine Cx.region ?_
  refine Lx.y (mv rfl) rfl ?_
  refine Lx.y (nilc rfl) rfl ?_
  refine Lx.y (fa' fo70_0 rfl) rfl ?_
  refine Lx.y (ldB Try.underlying22 rfl rfl hBx rfl) rfl ?_
  refine Lx.y (mv rfl) rfl ?_
  refine Lx.cp rfl rfl rfl (BS_ct x.ks k _ _ _ hRk hsx (by omega)) rfl ?_
  refine Lx.y (mv rfl) rfl ?_
  refine Lx.y (ext rfl rfl) rfl ?_
  refine Lx.y (ext rfl rfl) rfl ?_
  refine Lx.y (asg rfl) rfl ?_
  refine Lx.y (asg rfl) rfl ?_
  refine Lx.nil ?_
  refine Xx.tn (k5 _ _ _ _ ?_)
  refine Cx.seq (fun K6 k6 => ?_)
  refine Cx.seq (fun K7 k7 => ?_)
  refine Cx.region ?_
  refine Lx.y (mv rfl) rfl ?_
  refine Lx.nil ?_
  refine Xx.tn (k7 _ _ _ _ ?_)
  refine Cx.condB rfl (fun h8 => ?_) (fun h8 => ?_)
  · skip
    have hin : k ∈ x.ks := of_decide_eq_true h8
    obtain ⟨hlt, hat⟩ := lb_mem hsx hin
    have hlv : lb x.ks k < x.vs.length := by omega
    obtain ⟨g1, g2⟩ := lkp_here hokx hox hlt hat hlv
    obtain ⟨bv, ov, csv, etv, fzv, hAv, hBv, hvv⟩ := roe_str hRv hlv rfl
    refine Cx.seq (fun K9 k9 => ?_)
    refine Cx.region ?_
    refine Lx.y (mv rfl) rfl ?_
    refine Lx.y (nilc rfl) rfl ?_
    refine Lx.y (fa' fo70_1 rfl) rfl ?_
    refine Lx.y (Yx.val (ldB Try.underlying22 rfl rfl hBx rfl) (show _ = Value.slice (some ⟨bv, ov, none⟩) x.vs.length x.cv by rw [← hAv])) rfl ?_
    refine Lx.y (mv rfl) rfl ?_
    refine Lx.y (ia Try.underlying22 sz9 rfl rfl (by first | exact Int.toNat_natCast _ | rfl) (by omega) (by omega)) rfl ?_
    refine Lx.y (ldB Try.underlying9 rfl rfl hBv hvv) rfl ?_
    refine Lx.y (asg rfl) rfl ?_
    refine Lx.y (asg rfl) rfl ?_
    refine Lx.nil ?_
    refine Xx.tn (k9 _ _ _ _ ?_)
    refine Cx.ret ?_
    refine Xx.tr ?_
    refine Xx.br ?_
    refine Xx.tr ?_
    refine Xx.br ?_
    exact Xx.rB2 rfl rfl rfl ⟨by rw [hlk, g1, decide_eq_true (hmem.2 g2)], rfl⟩ (Frag.le_refl _) rfl
  · skip
    have hin : k ∉ x.ks := of_decide_eq_false h8
    refine Cx.skip ?_
    refine Xx.tn (k6 _ _ _ _ ?_)
    refine Cx.seq (fun K10 k10 => ?_)
    refine Cx.seq (fun K11 k11 => ?_)
    refine Cx.region ?_
    refine Lx.y (mv rfl) rfl ?_
    refine Lx.y (nilc rfl) rfl ?_
    refine Lx.y (fa' fo70_2 rfl) rfl ?_
    refine Lx.y (ldB Try.underlying68 rfl rfl hBx rfl) rfl ?_
    refine Lx.y (lenV (ty' := 0) Try.underlying68 rfl) rfl ?_
    refine Lx.y (eqI rfl rfl) rfl ?_
    refine Lx.nil ?_
    refine Xx.tn (k11 _ _ _ _ ?_)
    refine Cx.condD rfl (fun h12 => ?_) (fun h12 => ?_)
    · skip
      have hz := h12
      have hc0 : x.cs = [] := List.length_eq_zero_iff.1 (by omega)
      obtain ⟨g1, g2⟩ := lkp_leaf hokx hin hc0
      refine Cx.seq (fun K13 k13 => ?_)
      refine Cx.region ?_
      refine Lx.y (asg rfl) rfl ?_
      refine Lx.y (asg rfl) rfl ?_
      refine Lx.nil ?_
      refine Xx.tn (k13 _ _ _ _ ?_)
      refine Cx.ret ?_
      refine Xx.tr ?_
      refine Xx.br ?_
      refine Xx.tr ?_
      refine Xx.br ?_
      exact Xx.rB2 rfl rfl rfl ⟨by rw [hlk, g1, decide_eq_false (fun z => g2 (hmem.1 z))], rfl⟩ (Frag.le_refl _) rfl
    · skip
      have hz := h12
      have hcl : x.cs.length = x.ks.length + 1 := by rcases hokx.2.2.1 with z | z; exact absurd (by rw [z]; rfl) hz; exact z
      have hlb := lb_le x.ks k
      have hci : lb x.ks k < x.cs.length := by omega
      obtain ⟨q, rfl⟩ : ∃ m2, m = m2 + 1 := ⟨m - 1, by have hkk := hokx.2.2.2 _ (List.getElem_mem hci); cases m with | zero => exact hkk.elim | succ m => rfl⟩
      obtain ⟨g1, g2, g3, g4⟩ := lkp_kid hokx hox hin hci
      obtain ⟨bv, ov, csv, etv, fzv, hAv, hBv, hvv⟩ := hRc.at1 (k := lb x.ks k) hci
      rw [List.getElem?_map, List.getElem?_eq_getElem hci] at hvv
      refine Cx.skip ?_
      refine Xx.tn (k10 _ _ _ _ ?_)
      refine Cx.region ?_
      refine Lx.y (mv rfl) rfl ?_
      refine Lx.y (nilc rfl) rfl ?_
      refine Lx.y (fa' fo70_2 rfl) rfl ?_
      refine Lx.y (Yx.val (ldB Try.underlying68 rfl rfl hBx rfl) (show _ = Value.slice (some ⟨bv, ov, none⟩) x.cs.length x.cc by rw [← hAv])) rfl ?_
      refine Lx.y (mv rfl) rfl ?_
      refine Lx.y (ia Try.underlying68 sz67 rfl rfl (by first | exact Int.toNat_natCast _ | rfl) (by omega) (by omega)) rfl ?_
      refine Lx.y (ldB Try.underlying67 rfl rfl hBv hvv) rfl ?_
      refine Lx.y (asg rfl) rfl ?_
      refine Lx.nil ?_
      refine Xx.bn ?_
      exact Xx.againK ⟨q, x.cs[lb x.ks k], ⟨hkids _ (List.getElem_mem hci), (Ok.of1 g3).le (by decide), g4, hlk.trans g1, hmem.trans g2⟩, rfl, rfl, rfl, rfl⟩ (by omega) (Sub.consE (s := 6) rfl (rfl) (Sub.cons (s := 0) rfl (Sub.cons (s := 1) rfl (Sub.cons (s := 9) rfl (Sub.cons (s := 10) rfl (Sub.cons (s := 11) rfl (Sub.cons (s := 12) rfl (Sub.cons (s := 13) rfl (Sub.cons (s := 14) rfl (Sub.nil _))))))))))
end BtL
end Go.Proofs.Ytcoiejmlpinpbaa
