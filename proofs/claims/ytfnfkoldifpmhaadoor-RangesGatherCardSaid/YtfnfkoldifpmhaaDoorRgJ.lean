/-
  slices.DeleteFunc; a look added to a set.
-/
import Derived.Test.YtfnfkoldifpmhaaDoorProg
import Derived.Test.YtfnfkoldifpmhaaDoorSlj
import Derived.Test.YtfnfkoldifpmhaaDoorRgI
namespace Go.Proofs.YtfnfkoldifpmhaaDoor
open Go.SL Go.RowKit
set_option linter.unusedVariables false
set_option linter.unusedSimpArgs false
set_option maxRecDepth 100000
open Ke1 Ke3 Ke4 Ke5 Ke6 Ke7 Ke8 Ke9 KeA KeB KeC KeD KeE KeF KeG KeI RgA RgB RgC RgD RgE RgG RgI
namespace RgJ
theorem sz26 : (Tryd.prog.info? 26).map (·.size) = some 6 := by kernel_rfl
theorem sz30 : (Tryd.prog.info? 30).map (·.size) = some 16 := by kernel_rfl
theorem sz34 : (Tryd.prog.info? 34).map (·.size) = some 2 := by kernel_rfl
theorem sz36 : (Tryd.prog.info? 36).map (·.size) = some 4 := by kernel_rfl
theorem sz42 : (Tryd.prog.info? 42).map (·.size) = some 1 := by kernel_rfl
theorem ti30 : TI Tryd.prog 30 [str [], .bool false, .int .i64 0, .bool false, .int .i64 0, str [], .slice none 0 0, .slice none 0 0, .int .i64 0, .bool false, .int .i64 0, str [], .slice none 0 0, .slice none 0 0, .bool false, .bool false] 16 208 := TI.of (by kernel_rfl) rfl rfl
theorem ti36 : TI Tryd.prog 36 [str [], str [], str [], str []] 4 64 := TI.of (by kernel_rfl) rfl rfl

theorem IFo (l : List Rd) (p : Rd → Bool) (A : Option Addr) (c : Nat) (fi : FuncId) (caps : List Value) (own : HP) (B : Frag) (hn : l.length ≤ 1000) (hf : ∀ (B : Frag) x, x ∈ l → CtC Tryd.prog fi (.agg (rcs x).toArray :: caps) B own (.bool (p x)) own) : CtC Tryd.prog 47 [.slice A l.length c, .func (.func fi) #[] caps.toArray] B (sbuf 36 4 A l.length c (l.flatMap rcs) * own) (i64 (ixF p l)) (sbuf 36 4 A l.length c (l.flatMap rcs) * own) := by
  have h := Ct.lend (p := sbuf 36 4 A l.length c (l.flatMap rcs)) (q := own) (B := B) (args := [.slice A l.length c, .func (.func fi) #[] caps.toArray]) (Φ := fun v H0 => v = i64 (ixF p l) ∧ H0 = own) (Go.SL.enters_of Tryd.func47 rfl (by kernel_rfl)) (fun k hk ha => Ct.mono (IF_ct l p A c fi caps own _ (sbuf_ro hk ha).1 hn (fun x hx => hf _ x hx)) fun v B' H' ⟨e1, e2, e3⟩ => ⟨e2, e1, e3⟩)
  refine Ct.mono h ?_
  rintro v B' H' ⟨e1, H0, ⟨e2, e3⟩, e4⟩
  exact ⟨e2, e1, by rw [e4, e3]⟩

theorem CFo (l : List Rd) (p : Rd → Bool) (A : Option Addr) (c : Nat) (fi : FuncId) (caps : List Value) (own : HP) (B : Frag) (hn : l.length ≤ 1000) (hf : ∀ (B : Frag) x, x ∈ l → CtC Tryd.prog fi (.agg (rcs x).toArray :: caps) B own (.bool (p x)) own) : CtC Tryd.prog 30 [.slice A l.length c, .func (.func fi) #[] caps.toArray] B (sbuf 36 4 A l.length c (l.flatMap rcs) * own) (.bool (l.any p)) (sbuf 36 4 A l.length c (l.flatMap rcs) * own) := by
  have h := Ct.lend (p := sbuf 36 4 A l.length c (l.flatMap rcs)) (q := own) (B := B) (args := [.slice A l.length c, .func (.func fi) #[] caps.toArray]) (Φ := fun v H0 => v = .bool (l.any p) ∧ H0 = own) (Go.SL.enters_of Tryd.func30 rfl (by kernel_rfl)) (fun k hk ha => Ct.mono (CF_ct l p A c fi caps own _ (sbuf_ro hk ha).1 hn (fun x hx => hf _ x hx)) fun v B' H' ⟨e1, e2, e3⟩ => ⟨e2, e1, e3⟩)
  refine Ct.mono h ?_
  rintro v B' H' ⟨e1, H0, ⟨e2, e3⟩, e4⟩
  exact ⟨e2, e1, by rw [e4, e3]⟩

theorem rcs_len (x : Rd) : (rcs x).length = 4 := rfl
theorem rcs_one (x : Rd) : (rcs x).all (·.oneCell') = true := rfl
theorem keep_step {p : Rd → Bool} {l : List Rd} {j : Nat} (h : j < l.length) : (l.take (j + 1)).filter (fun x => !p x) = (l.take j).filter (fun x => !p x) ++ (if p l[j] = true then [] else [l[j]]) := by
  rw [List.take_succ_eq_append_getElem h, List.filter_append]
  congr 1
  cases hp : p l[j] <;> simp [hp]
theorem keep_start {p : Rd → Bool} {l : List Rd} {i : Nat} (h : i < l.length) (hp : p l[i] = true) (hall : ∀ k (hk : k < i), p (l[k]'(by omega)) = false) : (l.take (i + 1)).filter (fun x => !p x) = l.take i := by
  rw [keep_step h, if_pos hp, List.append_nil]
  refine List.filter_eq_self.2 fun x hx => ?_
  obtain ⟨k, hk, rfl⟩ := List.getElem_of_mem hx
  rw [List.length_take] at hk
  rw [List.getElem_take, hall k (by omega)]; rfl
theorem ix_found {p : Rd → Bool} {l : List Rd} (h : ¬ ixF p l = -1) : ∃ i, ∃ h : i < l.length, ixF p l = (i : Nat) ∧ p l[i] = true ∧ ∀ k (hk : k < i), p (l[k]'(by omega)) = false := by
  unfold ixF at h ⊢
  by_cases ha : l.any p = true
  · rw [if_pos ha]
    obtain ⟨x, hx, hp⟩ := List.any_eq_true.1 ha
    have hlt : l.findIdx p < l.length := List.findIdx_lt_length_of_exists ⟨x, hx, hp⟩
    exact ⟨_, hlt, rfl, List.findIdx_getElem, fun k hk => by simpa using List.not_of_lt_findIdx hk⟩
  · rw [if_neg ha] at h; exact absurd rfl h
theorem ix_none {p : Rd → Bool} {l : List Rd} (h : ixF p l = -1) : l.filter (fun x => !p x) = l := by
  refine List.filter_eq_self.2 fun x hx => ?_
  cases hp : p x with
  | false => rfl
  | true =>
    unfold ixF at h
    rw [if_pos (List.any_eq_true.2 ⟨x, hx, hp⟩)] at h
    omega

theorem flatG_drop {α : Type} {enc : α → List Value} {size : Nat} (he : ∀ x, (enc x).length = size) : ∀ (k : Nat) (l : List α), (l.flatMap enc).drop (k * size) = (l.drop k).flatMap enc := by
  intro k
  induction k with
  | zero => intro l; simp
  | succ k ih =>
    intro l
    cases l with
    | nil => simp
    | cons x l =>
      rw [List.flatMap_cons, List.drop_append, he, List.drop_of_length_le (by rw [he, Nat.succ_mul]; omega), List.nil_append, show (k + 1) * size - size = k * size by rw [Nat.succ_mul]; omega, ih]; rfl
theorem flatG_take {α : Type} {enc : α → List Value} {size : Nat} (he : ∀ x, (enc x).length = size) : ∀ (k : Nat) (l : List α), (l.flatMap enc).take (k * size) = (l.take k).flatMap enc := by
  intro k
  induction k with
  | zero => intro l; simp
  | succ k ih =>
    intro l
    cases l with
    | nil => simp
    | cons x l =>
      rw [List.flatMap_cons, List.take_append, he, List.take_of_length_le (l := enc x) (by rw [he, Nat.succ_mul]; omega), show (k + 1) * size - size = k * size by rw [Nat.succ_mul]; omega, ih]; rfl
theorem upd_take {cs : List Value} {ks ks' : List Rd} {x : Rd} {i c : Nat} (hk : ks' = ks ++ [x]) (ht : cs.take (i * 4) = ks.flatMap rcs) (hi : i = ks.length) (hc : cs.length = c * 4) (hle : i + 1 ≤ c) : (cs.take (0 + i * 4) ++ rcs x ++ cs.drop (0 + i * 4 + (rcs x).length)).take ((i + 1) * 4) = ks'.flatMap rcs := by
  rw [Nat.zero_add, ht, hk, List.flatMap_append]
  rw [List.take_append_of_le_length (by rw [List.length_append, flatG_len rcs_len, rcs_len]; omega), List.take_of_length_le (by rw [List.length_append, flatG_len rcs_len, rcs_len]; omega)]
  simp
theorem drop_next {cs sp : List Value} {l : List Rd} {j : Nat} (hd : cs.drop (j * 4) = (l.drop j).flatMap rcs ++ sp) (h : j < l.length) : cs.drop ((j + 1) * 4) = (l.drop (j + 1)).flatMap rcs ++ sp := by
  have e : cs.drop ((j + 1) * 4) = (cs.drop (j * 4)).drop 4 := by rw [List.drop_drop]; congr 1; omega
  rw [e, hd, List.drop_eq_getElem_cons h, List.flatMap_cons, List.append_assoc, List.drop_append, rcs_len, List.drop_of_length_le (by rw [rcs_len]; exact Nat.le_refl _)]
  simp
theorem upd_drop {cs sp : List Value} {l : List Rd} {i j c : Nat} {x : Rd} (hd : cs.drop (j * 4) = (l.drop j).flatMap rcs ++ sp) (h : j < l.length) (hij : i < j) (hc : cs.length = c * 4) : (cs.take (0 + i * 4) ++ rcs x ++ cs.drop (0 + i * 4 + (rcs x).length)).drop ((j + 1) * 4) = (l.drop (j + 1)).flatMap rcs ++ sp := by
  rw [← drop_next hd h]
  have hlen : j * 4 ≤ cs.length := by
    rcases Nat.le_total (j * 4) cs.length with h9 | h9
    · exact h9
    · rw [List.drop_of_length_le h9] at hd
      have := congrArg List.length hd
      rw [List.length_append, flatG_len rcs_len, List.length_drop] at this
      simp at this; omega
  rw [Nat.zero_add, rcs_len, List.drop_append, List.drop_of_length_le (by rw [List.length_append, List.length_take, rcs_len]; omega), List.nil_append, List.drop_drop, List.length_append, List.length_take, rcs_len]
  congr 1; omega
theorem upd_len {cs : List Value} {x : Rd} {i c : Nat} (hc : cs.length = c * 4) (hi : i + 1 ≤ c) : (cs.take (0 + i * 4) ++ rcs x ++ cs.drop (0 + i * 4 + (rcs x).length)).length = c * 4 := by
  rw [List.length_append, List.length_append, List.length_take, List.length_drop, rcs_len]; omega

set_option maxHeartbeats 2000000 in
theorem Del_ct (l : List Rd) (p : Rd → Bool) (A : Option Addr) (c : Nat) (fi : FuncId) (caps : List Value) (own : HP) (B : Frag) (hn : l.length ≤ 1000) (hf : ∀ (B : Frag) x, x ∈ l → CtC Tryd.prog fi (.agg (rcs x).toArray :: caps) B own (.bool (p x)) own) : Ct Tryd.prog 31 [.slice A l.length c, .func (.func fi) #[] caps.toArray] B (sbuf 36 4 A l.length c (l.flatMap rcs) * own) (fun v B' H' => B' = B ∧ v = .slice A (l.filter (fun x => !p x)).length c ∧ H' = sbuf 36 4 A (l.filter (fun x => !p x)).length c ((l.filter (fun x => !p x)).flatMap rcs) * own) := by
  have hix := IFo l p A c fi caps own B hn hf
  refine Ct.of_body Tryd.func31 rfl (nt := 42) rfl (by kernel_rfl) rfl ?_
  intro N0 w0 R
  refine Cx.seq (fun K1 k1 => ?_)
  refine Cx.region ?_
  refine Lx.y (asg rfl) rfl ?_
  refine Lx.nil ?_
  refine Xx.tn (k1 _ _ _ _ ?_)
  refine Cx.seq (fun K2 k2 => ?_)
  refine Cx.region ?_
  refine Lx.y (mv rfl) rfl ?_
  refine Lx.y (mv rfl) rfl ?_
  refine Lx.co rfl rfl rfl (hix) (rfl) rfl ?_
  refine Lx.y (asg rfl) rfl ?_
  refine Lx.nil ?_
  refine Xx.tn (k2 _ _ _ _ ?_)
  refine Cx.seq (fun K3 k3 => ?_)
  refine Cx.seq (fun K4 k4 => ?_)
  refine Cx.region ?_
  refine Lx.y (mv rfl) rfl ?_
  refine Lx.y (eqI rfl rfl) rfl ?_
  refine Lx.nil ?_
  refine Xx.tn (k4 _ _ _ _ ?_)
  refine Cx.condD rfl (fun h5 => ?_) (fun h5 => ?_)
  · skip
    have hno := ix_none h5
    refine Cx.seq (fun K6 k6 => ?_)
    refine Cx.region ?_
    refine Lx.y (mv rfl) rfl ?_
    refine Lx.y (asg rfl) rfl ?_
    refine Lx.nil ?_
    refine Xx.tn (k6 _ _ _ _ ?_)
    refine Cx.ret ?_
    refine Xx.tr ?_
    exact Xx.ret1 rfl rfl ⟨rfl, by rw [hno], by rw [hno]⟩ (Frag.le_refl _) rfl
  · skip
    obtain ⟨i0, hi0, hie, hp0, hall0⟩ := ix_found h5
    have hk0 := keep_start hi0 hp0 hall0
    refine Cx.skip ?_
    refine Xx.tn (k3 _ _ _ _ ?_)
    refine Cx.seq (fun K7 k7 => ?_)
    refine Cx.seq (fun K8 k8 => ?_)
    rw [hie, star_assoc]
    refine Xx.openT A (by omega) (fun b sp hA hxl hnc hcl => ?_)
    subst hA
    have hcl2 := hcl
    rw [List.length_append, hxl] at hcl2
    refine Cx.region ?_
    refine Lx.y (mv rfl) rfl ?_
    refine Lx.y (Yx.val (add rfl rfl (by first | exact wrap64 (by omega) (by omega) | rfl)) (show _ = i64 ((i0 + 1 : Nat) : Int) from rfl)) rfl ?_
    refine Lx.y (asg rfl) rfl ?_
    refine Lx.nil ?_
    refine Xx.tn (k8 _ _ _ _ ?_)
    refine Cx.block ?_
    refine Cx.loopK (Sub.cons (s := 0) rfl (Sub.cons (s := 1) rfl (Sub.cons (s := 4) rfl (Sub.cons (s := 8) rfl (Sub.cons (s := 9) rfl (Sub.cons (s := 10) rfl (Sub.cons (s := 11) rfl (Sub.cons (s := 12) rfl (Sub.cons (s := 14) rfl (Sub.cons (s := 15) rfl (Sub.nil _))))))))))) (fun m ρ' B' H' => ∃ (i j : Nat) (cs : List Value), (j ≤ l.length ∧ i = (l.take j |>.filter (fun x => !p x)).length ∧ i < j ∧ cs.take (i * 4) = (l.take j |>.filter (fun x => !p x)).flatMap rcs ∧ cs.drop (j * 4) = (l.drop j).flatMap rcs ++ sp ∧ cs.length = c * 4) ∧ m = l.length - j ∧ ρ' = [(5, i64 i), (6, i64 j)] ∧ B = B' ∧ row b 36 cs * (own * R) = H') ⟨i0, i0 + 1, _, ⟨by omega, by rw [hk0, List.length_take]; omega, by omega, by rw [hk0, List.take_append_of_le_length (by rw [flatG_len rcs_len]; omega)]; have := flatG_take rcs_len i0 l; exact this, by rw [List.drop_append_of_le_length (by rw [flatG_len rcs_len]; omega)]; rw [flatG_drop rcs_len], by rw [List.length_append, flatG_len rcs_len]; omega⟩, rfl, rfl, rfl, rfl⟩ (Sub.cons (s := 5) rfl (Sub.cons (s := 6) rfl (Sub.cons (s := 0) rfl (Sub.cons (s := 1) rfl (Sub.cons (s := 4) rfl (Sub.cons (s := 8) rfl (Sub.cons (s := 9) rfl (Sub.cons (s := 10) rfl (Sub.cons (s := 11) rfl (Sub.cons (s := 12) rfl (Sub.cons (s := 14) rfl (Sub.cons (s := 15) rfl (Sub.nil _))))))))))))) ?_
    rintro m ρ' B' H' ⟨i, j, cs, ⟨hj, hik, hij, htk, hdr, hcc⟩, rfl, rfl, rfl, rfl⟩
    refine Cx.seq (fun K9 k9 => ?_)
    refine Cx.seq (fun K10 k10 => ?_)
    refine Cx.region ?_
    refine Lx.y (mv rfl) rfl ?_
    refine Lx.y (mv rfl) rfl ?_
    refine Lx.y (lenV (ty' := 0) Tryd.underlying42 rfl) rfl ?_
    refine Lx.y (lss rfl rfl) rfl ?_
    refine Lx.nil ?_
    refine Xx.tn (k10 _ _ _ _ ?_)
    refine Cx.condD rfl (fun h11 => ?_) (fun h11 => ?_)
    · skip
      have hlt := h11
      have hlt : j < l.length := by omega
      have hld : (cs.drop (0 + j * 4)).take 4 = rcs l[j] := by rw [Nat.zero_add, hdr, List.drop_eq_getElem_cons hlt, List.flatMap_cons, List.append_assoc, List.take_append_of_le_length (by rw [rcs_len]; exact Nat.le_refl _), List.take_of_length_le (by rw [rcs_len]; exact Nat.le_refl _)]
      refine Cx.skip ?_
      refine Xx.tn (k9 _ _ _ _ ?_)
      refine Cx.seq (fun K12 k12 => ?_)
      refine Cx.block ?_
      refine Cx.seq (fun K13 k13 => ?_)
      refine Cx.region ?_
      refine Lx.y (mv rfl) rfl ?_
      refine Lx.y (mv rfl) rfl ?_
      refine Lx.y (ia Tryd.underlying42 sz36 rfl rfl (by first | exact Int.toNat_natCast _ | rfl) (by omega) (by omega)) rfl ?_
      refine Lx.y (ldA Tryd.underlying36 rfl sz36 rfl (Cells.own (n := 4) PickB.eq hld) rfl) rfl ?_
      refine Lx.new (allocO ti36) rfl (fun b7 => ?_)
      refine Lx.st (stA (d := .bool) sz36 rfl rfl rfl rfl (by show 0 + 4 ≤ 4; omega) rfl) ?_
      refine Lx.nil ?_
      refine Xx.tn (k13 _ _ _ _ ?_)
      refine Cx.seq (fun K14 k14 => ?_)
      refine Cx.region ?_
      refine Lx.y (mv rfl) rfl ?_
      refine Lx.y (ldA Tryd.underlying36 rfl sz36 rfl (Cells.own (n := 4) PickB.eq rfl) rfl) rfl ?_
      refine Lx.co rfl rfl rfl (hf _ _ (List.getElem_mem hlt)) (pick2 _ _ _ _) rfl ?_
      refine Lx.y (not' rfl) rfl ?_
      refine Lx.nil ?_
      refine Xx.tn (k14 _ _ _ _ ?_)
      refine Cx.condB rfl (fun h15 => ?_) (fun h15 => ?_)
      · skip
        have hpj : p l[j] = false := by simpa using h15
        have hkj := keep_step (p := p) hlt
        rw [if_neg (by rw [hpj]; decide)] at hkj
        refine Cx.seq (fun K16 k16 => ?_)
        refine Cx.region ?_
        refine Lx.y (mv rfl) rfl ?_
        refine Lx.y (mv rfl) rfl ?_
        refine Lx.y (ldA Tryd.underlying36 rfl sz36 rfl (Cells.own (n := 4) PickB.eq rfl) rfl) rfl ?_
        refine Lx.y (ia Tryd.underlying42 sz36 rfl rfl (by first | exact Int.toNat_natCast _ | rfl) (by omega) (by omega)) rfl ?_
        refine Lx.st (stA (d := .bool) sz36 rfl rfl rfl (rcs_one l[j]) (by show 0 + i * 4 + 4 ≤ cs.length; rw [hcc]; omega) (frc_gen _ _)) ?_
        refine Lx.nil ?_
        refine Xx.tn (k16 _ _ _ _ ?_)
        refine Cx.region ?_
        refine Lx.y (mv rfl) rfl ?_
        refine Lx.y (Yx.val (add rfl rfl (by first | exact wrap64 (by omega) (by omega) | rfl)) (show _ = i64 ((i + 1 : Nat) : Int) from rfl)) rfl ?_
        refine Lx.y (asg rfl) rfl ?_
        refine Lx.nil ?_
        refine Xx.bn ?_
        refine Xx.tn (k12 _ _ _ _ ?_)
        refine Cx.region ?_
        refine Lx.y (mv rfl) rfl ?_
        refine Lx.y (Yx.val (add rfl rfl (by first | exact wrap64 (by omega) (by omega) | rfl)) (show _ = i64 ((j + 1 : Nat) : Int) from rfl)) rfl ?_
        refine Lx.y (asg rfl) rfl ?_
        refine Lx.nil ?_
        refine Xx.dropB b7 ?_
        exact Xx.againK ⟨i + 1, j + 1, _, ⟨by omega, by rw [hkj, List.length_append, ← hik]; rfl, by omega, upd_take hkj htk (by rw [← hik]) hcc (by omega), upd_drop hdr hlt (by omega) hcc, upd_len hcc (by omega)⟩, rfl, rfl, rfl, (by rw [Nat.zero_add]; ac_rfl)⟩ (by omega) (Sub.cons (s := 5) rfl (Sub.cons (s := 6) rfl (Sub.cons (s := 0) rfl (Sub.cons (s := 1) rfl (Sub.cons (s := 4) rfl (Sub.cons (s := 8) rfl (Sub.cons (s := 9) rfl (Sub.cons (s := 10) rfl (Sub.cons (s := 11) rfl (Sub.cons (s := 12) rfl (Sub.cons (s := 14) rfl (Sub.cons (s := 15) rfl (Sub.nil _)))))))))))))
      · skip
        have hpj : p l[j] = true := by simpa using h15
        have hkj := keep_step (p := p) hlt
        rw [if_pos hpj, List.append_nil] at hkj
        refine Cx.skip ?_
        refine Xx.bn ?_
        refine Xx.tn (k12 _ _ _ _ ?_)
        refine Cx.region ?_
        refine Lx.y (mv rfl) rfl ?_
        refine Lx.y (Yx.val (add rfl rfl (by first | exact wrap64 (by omega) (by omega) | rfl)) (show _ = i64 ((j + 1 : Nat) : Int) from rfl)) rfl ?_
        refine Lx.y (asg rfl) rfl ?_
        refine Lx.nil ?_
        refine Xx.dropB b7 ?_
        exact Xx.againK ⟨i, j + 1, cs, ⟨by omega, by rw [hkj]; exact hik, by omega, by rw [hkj]; exact htk, drop_next hdr hlt, hcc⟩, rfl, rfl, rfl, (by ac_rfl)⟩ (by omega) (Sub.cons (s := 5) rfl (Sub.cons (s := 6) rfl (Sub.cons (s := 0) rfl (Sub.cons (s := 1) rfl (Sub.cons (s := 4) rfl (Sub.cons (s := 8) rfl (Sub.cons (s := 9) rfl (Sub.cons (s := 10) rfl (Sub.cons (s := 11) rfl (Sub.cons (s := 12) rfl (Sub.cons (s := 14) rfl (Sub.cons (s := 15) rfl (Sub.nil _)))))))))))))
    · skip
      obtain rfl : j = l.length := by have := h11; omega
      rw [List.take_length] at *
      refine Cx.exit ?_
      refine Xx.te ?_
      refine Xx.te ?_
      refine Xx.bh ?_
      refine Xx.tn (k7 _ _ _ _ ?_)
      refine Cx.seq (fun K17 k17 => ?_)
      refine Cx.region ?_
      refine Lx.y (mv rfl) rfl ?_
      refine Lx.y (mv rfl) rfl ?_
      refine Lx.y (sl1A i Tryd.underlying42 sz36 rfl rfl rfl (by omega) (by omega)) rfl ?_
      refine Lx.o0 (clO Tryd.underlying42 ti36 rfl (by omega) rfl (by rw [hcc]; omega)) (fun v B' H' hΦ hB => ?_)
      obtain ⟨rfl, hBB, zz, hzl, rfl⟩ := hΦ
      have hBB2 := hBB.symm
      subst hBB2
      clear hB
      refine Lx.nil ?_
      refine Xx.tn (k17 _ _ _ _ ?_)
      refine Cx.seq (fun K18 k18 => ?_)
      refine Cx.region ?_
      refine Lx.y (mv rfl) rfl ?_
      refine Lx.y (mv rfl) rfl ?_
      refine Lx.y (sl2V Tryd.underlying42 sz36 rfl rfl (Int.toNat_natCast _) (by omega) (by omega)) rfl ?_
      refine Lx.y (asg rfl) rfl ?_
      refine Lx.nil ?_
      refine Xx.tn (k18 _ _ _ _ ?_)
      refine Cx.ret ?_
      have hkl : (l.filter (fun x => !p x)).length = i := hik.symm
      refine Xx.closeT b ((l.filter (fun x => !p x)).flatMap rcs) (zz ++ cs.drop (0 + i * 4 + (l.length - i) * 4)) 4 i c (by rw [Nat.zero_add, htk, List.append_assoc]) (by rw [flatG_len rcs_len, hkl]) (by omega) (by simp only [List.length_append, List.length_drop, flatG_len rcs_len, hkl, hzl, hcc]; omega) ?_
      exact Xx.ret1 rfl rfl ⟨rfl, by rw [hkl], by rw [hkl]⟩ (Frag.le_refl _) (by ac_rfl)
end RgJ
end Go.Proofs.YtfnfkoldifpmhaaDoor
