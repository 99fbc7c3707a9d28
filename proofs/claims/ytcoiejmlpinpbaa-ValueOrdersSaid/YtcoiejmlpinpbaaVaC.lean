/-
  A value taken off a cursor.
-/
import Derived.Test.YtcoiejmlpinpbaaProg
import Derived.Test.YtcoiejmlpinpbaaSlj
import Derived.Test.YtcoiejmlpinpbaaVaB
namespace Go.Proofs.Ytcoiejmlpinpbaa
open Go.SL Go.RowKit
set_option linter.unusedVariables false
set_option linter.unusedSimpArgs false
set_option maxRecDepth 100000
open Ke5 Ke6 Ke7 Ke8 Ke9 KeA KeB KeE KeF KeG KeH VaA VaB
namespace VaC
theorem sz2 : (Try.prog.info? 2).map (·.size) = some 1 := by kernel_rfl
theorem sz4 : (Try.prog.info? 4).map (·.size) = some 1 := by kernel_rfl
theorem sz9 : (Try.prog.info? 9).map (·.size) = some 1 := by kernel_rfl
theorem sz22 : (Try.prog.info? 22).map (·.size) = some 1 := by kernel_rfl
theorem sz44 : (Try.prog.info? 44).map (·.size) = some 1 := by kernel_rfl
theorem sz46 : (Try.prog.info? 46).map (·.size) = some 6 := by kernel_rfl
theorem ti9 : TI Try.prog 9 [str []] 1 16 := TI.of (by kernel_rfl) rfl rfl
theorem ti46 : TI Try.prog 46 [.int .i64 0, .bool false, .int .i64 0, str [], .slice none 0 0, .slice none 0 0] 6 88 := TI.of (by kernel_rfl) rfl rfl
theorem fo46_0 : FO Try.prog 46 0 0 1 false := FO.of Try.underlying46 rfl rfl (by kernel_rfl) Try.underlying3 rfl rfl
theorem fo46_1 : FO Try.prog 46 1 1 1 false := FO.of Try.underlying46 rfl rfl (by kernel_rfl) Try.underlying4 rfl rfl
theorem fo46_2 : FO Try.prog 46 2 2 1 false := FO.of Try.underlying46 rfl rfl (by kernel_rfl) Try.underlying2 rfl rfl
theorem fo46_3 : FO Try.prog 46 3 3 1 false := FO.of Try.underlying46 rfl rfl (by kernel_rfl) Try.underlying9 rfl rfl
theorem fo46_4 : FO Try.prog 46 4 4 1 false := FO.of Try.underlying46 rfl rfl (by kernel_rfl) Try.underlying44 rfl rfl
theorem fo46_5 : FO Try.prog 46 5 5 1 false := FO.of Try.underlying46 rfl rfl (by kernel_rfl) Try.underlying22 rfl rfl
theorem pl46 : PL Try.prog 46 [(0, 1), (1, 1), (2, 1), (3, 1), (4, 1), (5, 1)] := PL.of Try.underlying46 (by kernel_rfl)

def V0 : V := .mk 0 false 0 [] [] []
def nameC (six : Bool) (c : Cu) : Cu := if six then (c.text 16).1 else c
def nameN (six : Bool) (c : Cu) (ns : List (List UInt8)) : List (List UInt8) := if six then ns ++ [(c.text 16).2] else ns
def partsF (f : Cu → Cu × V) (six : Bool) : Nat → Cu → List (List UInt8) → List V → Cu × List (List UInt8) × List V
  | 0, c, ns, ps => (c, ns, ps)
  | n + 1, c, ns, ps => if c.e ≠ 0 then (c, ns, ps) else partsF f six n (f (nameC six c)).1 (nameN six c ns) (ps ++ [(f (nameC six c)).2])
def takeK (f : Cu → Cu × V) (k : Nat) (a : Cu) : Cu × V :=
  if k = 0 then (a, V0) else if k = 1 then (a.bool.1, .mk 1 a.bool.2 0 [] [] []) else if k = 2 then (a.uint.1, .mk 2 false (zig a.uint.2) [] [] [])
  else if k = 3 ∨ k = 4 then ((a.text 1024).1, .mk (k : Nat) false 0 (a.text 1024).2 [] [])
  else if k = 5 ∨ k = 6 then ((partsF f (decide (k = 6)) (a.count 32).2 (a.count 32).1 [] []).1, .mk (k : Nat) false 0 [] (partsF f (decide (k = 6)) (a.count 32).2 (a.count 32).1 [] []).2.2 (partsF f (decide (k = 6)) (a.count 32).2 (a.count 32).1 [] []).2.1)
  else (a.stop 6, .mk (k : Nat) false 0 [] [] [])
def takeF : Nat → Int → Cu → Cu × V
  | 0, _, c => (c, V0)
  | d + 1, deep, c => if 8 < deep then (c.stop 30, V0) else if (c.bytes 1).1.e ≠ 0 then ((c.bytes 1).1, V0) else takeK (takeF d (deep + 1)) ((c.bytes 1).2.getD 0 0).toNat (c.bytes 1).1
theorem takeF_k {d : Nat} {deep : Int} {c : Cu} (h : ¬ 8 < deep) (he : (c.bytes 1).1.e = 0) : takeF (d + 1) deep c = takeK (takeF d (deep + 1)) ((c.bytes 1).2.getD 0 0).toNat (c.bytes 1).1 := by
  conv => lhs; unfold takeF
  rw [if_neg h, if_neg (by simpa using he)]
theorem nameN_yes {k : Nat} {c : Cu} {ns : List (List UInt8)} (h : k = 6) : nameN (decide (k = 6)) c ns = ns ++ [(c.text 16).2] := by unfold nameN; rw [decide_eq_true h]; rfl
theorem nameN_no {k : Nat} {c : Cu} {ns : List (List UInt8)} (h : ¬ k = 6) : nameN (decide (k = 6)) c ns = ns := by unfold nameN; rw [decide_eq_false h]; rfl
theorem nameC_yes {k : Nat} {c : Cu} (h : k = 6) : nameC (decide (k = 6)) c = (c.text 16).1 := by unfold nameC; rw [decide_eq_true h]; rfl
theorem nameC_no {k : Nat} {c : Cu} (h : ¬ k = 6) : nameC (decide (k = 6)) c = c := by unfold nameC; rw [decide_eq_false h]; rfl
theorem RoS.roe {B : Frag} {A : Option Addr} {n : Nat} {xs : List Value} (h : RoS B 1 A n xs) : RoE B A n xs := by
  refine ⟨by simpa using h.1, fun k hk => ?_⟩
  obtain ⟨b, o, l, et, fz, h1, h2, h3⟩ := RoS.part h hk
  refine ⟨b, o, l, et, fz, h1, h2, ?_⟩
  have h4 := congrArg (fun z : List Value => z[0]?) h3
  simpa [List.getElem?_take, List.getElem?_drop] using h4
theorem ValR.leaf {B : Frag} {d : Nat} {k : Int} {b : Bool} {n : Int} {s : List UInt8} (h : s.length ≤ 4611686018427387904 ∧ -9223372036854775808 ≤ n ∧ n ≤ 9223372036854775807) : ValR B (d + 1) (.mk k b n s [] []) (vcs (.mk k b n s [] []) none 0 none 0) :=
  ⟨none, 0, none, 0, rfl, ⟨h.1, h.2.1, h.2.2, Nat.le_refl _, Nat.le_refl _⟩, by show 0 ≤ _; omega, by show 0 ≤ _; omega, ⟨rfl, fun k hk => absurd hk (by show ¬ k < 0; omega)⟩, (fun x hx => (by cases hx)), fun i hi => absurd hi (by show ¬ i < 0; omega)⟩
theorem zig_range {n : Nat} (h : n < 18446744073709551616) : -9223372036854775808 ≤ zig n ∧ zig n ≤ 9223372036854775807 := by unfold zig; split <;> omega
theorem Cu.count_le (c : Cu) (m : Nat) : (c.count m).2 ≤ m := by
  unfold Cu.count
  split
  · show 0 ≤ _; omega
  · show (if _ then _ else _) ≤ _
    split
    · omega
    · rename_i h3; exact cnt_err (by simpa using h3)
theorem Cu.bytes_le (c : Cu) (k : Nat) : (c.bytes k).2.length ≤ k := by
  unfold Cu.bytes
  split
  · show 0 ≤ _; omega
  · split
    · show 0 ≤ _; omega
    · show ((c.s.drop c.at').take k).length ≤ k; simp; omega
theorem Cu.text_le (c : Cu) (m : Nat) : (c.text m).2.length ≤ m := Nat.le_trans (Cu.bytes_le _ _) (Cu.count_le c m)
theorem nameC_ok {six : Bool} {c : Cu} (h : c.ok) : (nameC six c).ok := by unfold nameC; split; exact Cu.text_ok h 16; exact h
theorem partsF_ok {f : Cu → Cu × V} {six : Bool} (hf : ∀ c, c.ok → (f c).1.ok) : ∀ (n : Nat) (c : Cu) (ns : List (List UInt8)) (ps : List V), c.ok → (partsF f six n c ns ps).1.ok := by
  intro n
  induction n with
  | zero => intro c ns ps h; exact h
  | succ n ih => intro c ns ps h; unfold partsF; split; exact h; exact ih _ _ _ (hf _ (nameC_ok h))
theorem takeF_ok : ∀ (d : Nat) (deep : Int) (c : Cu), c.ok → (takeF d deep c).1.ok := by
  intro d
  induction d with
  | zero => intro deep c h; exact h
  | succ d ih =>
    intro deep c h
    unfold takeF
    split
    · exact Cu.stop_ok h _
    · split
      · exact Cu.bytes_ok h _
      · have hb := Cu.bytes_ok h 1
        unfold takeK
        repeat' split
        all_goals first | exact hb | exact Cu.bool_ok hb | exact Cu.uint_ok hb | exact Cu.text_ok hb _ | exact Cu.stop_ok hb _ | exact partsF_ok (fun c hc => ih _ c hc) _ _ _ _ (Cu.count_ok hb _)
/-- names so far -/
def NmR (ns : List (List UInt8)) : Prop := ∀ x ∈ ns, x.length ≤ 16
theorem nameN_ok {six : Bool} {c : Cu} {ns : List (List UInt8)} (h : NmR ns) : NmR (nameN six c ns) := by
  unfold nameN
  split
  · intro x hx
    rcases List.mem_append.1 hx with hx | hx
    · exact h x hx
    · have : x = (c.text 16).2 := by simpa using hx
      subst this; exact Cu.text_le _ _
  · exact h
theorem nameN_len {six : Bool} {c : Cu} {ns : List (List UInt8)} {m : Nat} (h : ns.length ≤ m) : (nameN six c ns).length ≤ m + 1 := by unfold nameN; split; simp; omega; omega
theorem partsF_zero {f : Cu → Cu × V} {six : Bool} {n : Nat} {c : Cu} {ns : List (List UInt8)} {ps : List V} (h : n = 0 ∨ ¬ c.e = 0) : partsF f six n c ns ps = (c, ns, ps) := by
  cases n with
  | zero => rfl
  | succ n => unfold partsF; rw [if_pos (by omega)]
theorem partsF_step {f : Cu → Cu × V} {six : Bool} {n : Nat} {c : Cu} {ns : List (List UInt8)} {ps : List V} (h : c.e = 0) : partsF f six (n + 1) c ns ps = partsF f six n (f (nameC six c)).1 (nameN six c ns) (ps ++ [(f (nameC six c)).2]) := by
  conv => lhs; unfold partsF
  rw [if_neg (by simpa using h)]
theorem getD_app {ps : List V} {p : V} {k : Nat} (h : k < ps.length) : (ps ++ [p]).getD k default = ps.getD k default := by simp [List.getD, List.getElem?_append_left h]
theorem PartsR.at {B : Frag} {d : Nat} {ps : List V} {xs : List Value} (h : PartsR B d (fun k => ps.getD k default) ps.length xs) {k : Nat} (hk : k < ps.length) : ValR B d ps[k] ((xs.drop (k * 6)).take 6) := by
  have h1 : ValR B d (ps.getD k default) _ := h.2 k hk
  rw [getDp hk] at h1
  exact h1
theorem PartsR.push {B : Frag} {d : Nat} {ps : List V} {p : V} {xs cs : List Value} (h : PartsR B d (fun k => ps.getD k default) ps.length xs) (hl : cs.length = 6) (hv : ValR B d p cs) : PartsR B d (fun k => (ps ++ [p]).getD k default) (ps.length + 1) (xs ++ cs) := by
  have h2 : PartsR B d (fun k => (ps ++ [p]).getD k default) ps.length xs := ⟨h.1, fun k hk => by show ValR B d ((ps ++ [p]).getD k default) _; rw [getD_app hk]; exact h.2 k hk⟩
  refine h2.snoc hl ?_
  show ValR B d ((ps ++ [p]).getD ps.length default) cs
  simpa [List.getD] using hv

set_option maxHeartbeats 1000000 in
theorem None_ct (B : Frag) : CtP Try.prog 53 [] B (.agg (vcs V0 none 0 none 0).toArray) := by
  refine CtB.of_body Try.func53 rfl (nt := 2) rfl (by kernel_rfl) rfl ?_
  intro N0 w0 R
  refine Cx.seq (fun K1 k1 => ?_)
  refine Cx.region ?_
  refine Lx.new (allocO ti46) rfl (fun b => ?_)
  refine Lx.nil ?_
  refine Xx.tn (k1 _ _ _ _ ?_)
  refine Cx.seq (fun K2 k2 => ?_)
  refine Cx.region ?_
  refine Lx.y (bld ti46 pl46 rfl rfl) rfl ?_
  refine Lx.st (stA (d := .bool) sz46 rfl rfl rfl rfl (by show 0 + 6 ≤ 6; omega) rfl) ?_
  refine Lx.nil ?_
  refine Xx.tn (k2 _ _ _ _ ?_)
  refine Cx.ret ?_
  exact Xx.rBa rfl Try.underlying46 rfl sz46 rfl rfl ⟨rfl, rfl⟩ (Frag.le_refl _)

set_option maxHeartbeats 4000000 in
theorem take_step (d : Nat) (deep : Int) (hd : deep + (d + 1 : Nat) = 10) (hd1 : 1 ≤ deep) (b : Nat) (ih : ∀ (c : Cu) (B : Frag), deep ≤ 8 → c.ok → Ct Try.prog 51 [.pointer (some ⟨b, 0, none⟩), i64 (deep + 1)] B (crow b c) (fun v B' H' => ∃ cs', v = .agg cs'.toArray ∧ B.le B' ∧ ValR B' d (takeF d (deep + 1) c).2 cs' ∧ H' = crow b (takeF d (deep + 1) c).1)) (c : Cu) (B : Frag) (hc : c.ok) : Ct Try.prog 51 [.pointer (some ⟨b, 0, none⟩), i64 deep] B (crow b c) (fun v B' H' => ∃ cs', v = .agg cs'.toArray ∧ B.le B' ∧ ValR B' (d + 1) (takeF (d + 1) deep c).2 cs' ∧ H' = crow b (takeF (d + 1) deep c).1) := by
  have hc1 := Cu.bytes_ok hc 1
  refine Ct.of_body Try.func51 rfl (nt := 79) rfl (by kernel_rfl) rfl ?_
  intro N0 w0 R
  refine Cx.seq (fun K1 k1 => ?_)
  refine Cx.region ?_
  refine Lx.new (allocO ti46) rfl (fun b4 => ?_)
  refine Lx.nil ?_
  refine Xx.tn (k1 _ _ _ _ ?_)
  refine Cx.seq (fun K2 k2 => ?_)
  refine Cx.seq (fun K3 k3 => ?_)
  refine Cx.region ?_
  refine Lx.y (mv rfl) rfl ?_
  refine Lx.y (gtr rfl rfl) rfl ?_
  refine Lx.nil ?_
  refine Xx.tn (k3 _ _ _ _ ?_)
  refine Cx.condD rfl (fun h4 => ?_) (fun h4 => ?_)
  · skip
    have ht : takeF (d + 1) deep c = (c.stop 30, V0) := by unfold takeF; rw [if_pos h4]
    refine Cx.seq (fun K5 k5 => ?_)
    refine Cx.region ?_
    refine Lx.y (mv rfl) rfl ?_
    refine Lx.co rfl rfl rfl (Fail_ct c b B 30) (PickB.eq) rfl ?_
    refine Lx.nil ?_
    refine Xx.tn (k5 _ _ _ _ ?_)
    refine Cx.seq (fun K6 k6 => ?_)
    refine Cx.region ?_
    refine Lx.cp rfl rfl rfl (None_ct _) rfl ?_
    refine Lx.st (stA (d := .bool) sz46 rfl rfl rfl rfl (by show 0 + 6 ≤ 6; omega) rfl) ?_
    refine Lx.nil ?_
    refine Xx.tn (k6 _ _ _ _ ?_)
    refine Cx.ret ?_
    refine Xx.tr ?_
    exact Xx.retA rfl Try.underlying46 rfl sz46 rfl rfl ⟨_, rfl, Frag.le_refl _, by rw [ht]; exact ValR.leaf ⟨by decide, by decide, by decide⟩, rfl⟩ (Frag.le_refl _) (by rw [ht])
  · skip
    have hdeep : ¬ 8 < deep := h4
    refine Cx.skip ?_
    refine Xx.tn (k2 _ _ _ _ ?_)
    refine Cx.seq (fun K7 k7 => ?_)
    refine Cx.region ?_
    refine Lx.y (mv rfl) rfl ?_
    refine Lx.co rfl rfl rfl (Bytes_ct c b B 1 hc (by decide)) (PickB.eq) rfl ?_
    refine Lx.y (asg rfl) rfl ?_
    refine Lx.nil ?_
    refine Xx.tn (k7 _ _ _ _ ?_)
    refine Cx.seq (fun K8 k8 => ?_)
    refine Cx.seq (fun K9 k9 => ?_)
    refine Cx.region ?_
    refine Lx.y (mv rfl) rfl ?_
    refine Lx.co rfl rfl rfl (Err_ct _ b _) (PickB.eq) rfl ?_
    refine Lx.y (neI rfl rfl) rfl ?_
    refine Lx.nil ?_
    refine Xx.tn (k9 _ _ _ _ ?_)
    refine Cx.condN rfl (fun h10 => ?_) (fun h10 => ?_)
    · skip
      have ht : takeF (d + 1) deep c = ((c.bytes 1).1, V0) := by unfold takeF; rw [if_neg hdeep, if_pos h10]
      refine Cx.seq (fun K11 k11 => ?_)
      refine Cx.region ?_
      refine Lx.cp rfl rfl rfl (None_ct _) rfl ?_
      refine Lx.st (stA (d := .bool) sz46 rfl rfl rfl rfl (by show 0 + 6 ≤ 6; omega) rfl) ?_
      refine Lx.nil ?_
      refine Xx.tn (k11 _ _ _ _ ?_)
      refine Cx.ret ?_
      refine Xx.tr ?_
      exact Xx.retA rfl Try.underlying46 rfl sz46 rfl rfl ⟨_, rfl, Frag.le_refl _, by rw [ht]; exact ValR.leaf ⟨by decide, by decide, by decide⟩, rfl⟩ (Frag.le_refl _) (by rw [ht])
    · skip
      have he1 : (c.bytes 1).1.e = 0 := h10
      have hl1 := Cu.bytes_len he1
      have ht0 := takeF_k (d := d) hdeep he1
      have hk256 := ((c.bytes 1).2.getD 0 0).toNat_lt
      refine Cx.skip ?_
      refine Xx.tn (k8 _ _ _ _ ?_)
      refine Cx.seq (fun K12 k12 => ?_)
      refine Cx.region ?_
      refine Lx.y (mv rfl) rfl ?_
      refine Lx.y (ixS Try.underlying9 rfl rfl (show Int.toNat _ = 0 from rfl) (by omega) (by omega)) rfl ?_
      refine Lx.y (cvI rfl Try.underlying5 Try.underlying3 (by first | exact wrap64 (by omega) (by omega) | rfl)) rfl ?_
      refine Lx.y (bld ti46 pl46 rfl rfl) rfl ?_
      refine Lx.new (allocO ti46) rfl (fun b6 => ?_)
      refine Lx.st (stA (d := .bool) sz46 rfl rfl rfl rfl (by show 0 + 6 ≤ 6; omega) rfl) ?_
      generalize ((c.bytes 1).2.getD 0 0).toNat = kk at *
      refine Lx.nil ?_
      refine Xx.tn (k12 _ _ _ _ ?_)
      refine Cx.cutK (ds' := []) (Sub.cons (s := 0) rfl (Sub.cons (s := 1) rfl (Sub.cons (s := 4) rfl (Sub.cons (s := 5) rfl (Sub.cons (s := 6) rfl (Sub.cons (s := 8) rfl (Sub.cons (s := 9) rfl (Sub.cons (s := 13) rfl (Sub.cons (s := 14) rfl (Sub.cons (s := 15) rfl (Sub.cons (s := 16) rfl (Sub.cons (s := 17) rfl (Sub.cons (s := 19) rfl (Sub.cons (s := 20) rfl (Sub.cons (s := 21) rfl (Sub.cons (s := 22) rfl (Sub.nil _))))))))))))))))) (fun ρ' B' H' => ∃ Ap cp An cn, ρ' = [] ∧ B.le B' ∧ ValR B' (d + 1) (takeF (d + 1) deep c).2 (vcs (takeF (d + 1) deep c).2 Ap cp An cn) ∧ row b6 46 (vcs (takeF (d + 1) deep c).2 Ap cp An cn) * (crow b (takeF (d + 1) deep c).1 * (row b4 46 [i64 0, .bool false, i64 0, str [], .slice none 0 0, .slice none 0 0] * R)) = H') ?_ ?_
      · skip
        refine Cx.seq (fun K13 k13 => ?_)
        refine Cx.region ?_
        refine Lx.y (fa' fo46_0 rfl) rfl ?_
        refine Lx.y (ld Try.underlying3 rfl rfl rfl) rfl ?_
        refine Lx.nil ?_
        refine Xx.tn (k13 _ _ _ _ ?_)
        refine Cx.block ?_
        refine Cx.seq (fun K14 k14 => ?_)
        refine Cx.region ?_
        refine Lx.y (eqI rfl rfl) rfl ?_
        refine Lx.y (asg rfl) rfl ?_
        refine Lx.nil ?_
        refine Xx.tn (k14 _ _ _ _ ?_)
        refine Cx.condD rfl (fun h15 => ?_) (fun h15 => ?_)
        · skip
          have k0 : kk = 0 := by have := h15; omega
          have ht : takeF (d + 1) deep c = ((c.bytes 1).1, V0) := by rw [ht0]; unfold takeK; rw [if_pos k0]
          subst k0
          refine Cx.skip ?_
          refine Xx.bn ?_
          exact Xx.mkK (⟨none, 0, none, 0, rfl, Frag.le_refl _, (by rw [ht]; exact ValR.leaf ⟨by decide, by decide, by decide⟩), (by rw [ht]; rfl)⟩) (Sub.cons (s := 0) rfl (Sub.cons (s := 1) rfl (Sub.cons (s := 4) rfl (Sub.cons (s := 5) rfl (Sub.cons (s := 6) rfl (Sub.cons (s := 8) rfl (Sub.cons (s := 9) rfl (Sub.cons (s := 13) rfl (Sub.cons (s := 14) rfl (Sub.cons (s := 15) rfl (Sub.cons (s := 16) rfl (Sub.cons (s := 17) rfl (Sub.cons (s := 19) rfl (Sub.cons (s := 20) rfl (Sub.cons (s := 21) rfl (Sub.cons (s := 22) rfl (Sub.nil _)))))))))))))))))
        · skip
          have k0 : ¬ kk = 0 := by have := h15; omega
          refine Cx.seq (fun K16 k16 => ?_)
          refine Cx.region ?_
          refine Lx.y (eqI rfl rfl) rfl ?_
          refine Lx.y (asg rfl) rfl ?_
          refine Lx.nil ?_
          refine Xx.tn (k16 _ _ _ _ ?_)
          refine Cx.condD rfl (fun h17 => ?_) (fun h17 => ?_)
          · skip
            have k1 : kk = 1 := by have := h17; omega
            have ht : takeF (d + 1) deep c = ((c.bytes 1).1.bool.1, .mk 1 (c.bytes 1).1.bool.2 0 [] [] []) := by rw [ht0]; unfold takeK; rw [if_neg k0, if_pos k1]
            subst k1
            refine Cx.region ?_
            refine Lx.y (mv rfl) rfl ?_
            refine Lx.co rfl rfl rfl (Bool_ct2 _ b B hc1) (PickB.eq) rfl ?_
            refine Lx.y (fa' fo46_1 rfl) rfl ?_
            refine Lx.st (stO Try.underlying4 sz4 rfl rfl rfl (by simp) rfl) ?_
            refine Lx.nil ?_
            refine Xx.bn ?_
            exact Xx.mkK (⟨none, 0, none, 0, rfl, Frag.le_refl _, (by rw [ht]; exact ValR.leaf ⟨by decide, by decide, by decide⟩), (by rw [ht]; rfl)⟩) (Sub.cons (s := 0) rfl (Sub.cons (s := 1) rfl (Sub.cons (s := 4) rfl (Sub.cons (s := 5) rfl (Sub.cons (s := 6) rfl (Sub.cons (s := 8) rfl (Sub.cons (s := 9) rfl (Sub.cons (s := 13) rfl (Sub.cons (s := 14) rfl (Sub.cons (s := 15) rfl (Sub.cons (s := 16) rfl (Sub.cons (s := 17) rfl (Sub.cons (s := 19) rfl (Sub.cons (s := 20) rfl (Sub.cons (s := 21) rfl (Sub.cons (s := 22) rfl (Sub.nil _)))))))))))))))))
          · skip
            have k1 : ¬ kk = 1 := by have := h17; omega
            refine Cx.seq (fun K18 k18 => ?_)
            refine Cx.region ?_
            refine Lx.y (eqI rfl rfl) rfl ?_
            refine Lx.y (asg rfl) rfl ?_
            refine Lx.nil ?_
            refine Xx.tn (k18 _ _ _ _ ?_)
            refine Cx.condD rfl (fun h19 => ?_) (fun h19 => ?_)
            · skip
              have k2 : kk = 2 := by have := h19; omega
              have ht : takeF (d + 1) deep c = ((c.bytes 1).1.uint.1, .mk 2 false (zig (c.bytes 1).1.uint.2) [] [] []) := by rw [ht0]; unfold takeK; rw [if_neg k0, if_neg k1, if_pos k2]
              subst k2
              refine Cx.region ?_
              refine Lx.y (mv rfl) rfl ?_
              refine Lx.co rfl rfl rfl (Int_ct2 _ b B hc1) (PickB.eq) rfl ?_
              refine Lx.y (fa' fo46_2 rfl) rfl ?_
              refine Lx.st (stO Try.underlying2 sz2 rfl rfl rfl (by simp) rfl) ?_
              refine Lx.nil ?_
              refine Xx.bn ?_
              exact Xx.mkK (⟨none, 0, none, 0, rfl, Frag.le_refl _, (by rw [ht]; exact ValR.leaf ⟨by decide, zig_range (Cu.uint_lt _)⟩), (by rw [ht]; rfl)⟩) (Sub.cons (s := 0) rfl (Sub.cons (s := 1) rfl (Sub.cons (s := 4) rfl (Sub.cons (s := 5) rfl (Sub.cons (s := 6) rfl (Sub.cons (s := 8) rfl (Sub.cons (s := 9) rfl (Sub.cons (s := 13) rfl (Sub.cons (s := 14) rfl (Sub.cons (s := 15) rfl (Sub.cons (s := 16) rfl (Sub.cons (s := 17) rfl (Sub.cons (s := 19) rfl (Sub.cons (s := 20) rfl (Sub.cons (s := 21) rfl (Sub.cons (s := 22) rfl (Sub.nil _)))))))))))))))))
            · skip
              have k2 : ¬ kk = 2 := by have := h19; omega
              refine Cx.cutK (ds' := []) (Sub.cons (s := 0) rfl (Sub.cons (s := 1) rfl (Sub.cons (s := 4) rfl (Sub.cons (s := 5) rfl (Sub.cons (s := 6) rfl (Sub.cons (s := 8) rfl (Sub.cons (s := 9) rfl (Sub.cons (s := 13) rfl (Sub.cons (s := 14) rfl (Sub.cons (s := 15) rfl (Sub.cons (s := 16) rfl (Sub.cons (s := 17) rfl (Sub.cons (s := 19) rfl (Sub.cons (s := 20) rfl (Sub.cons (s := 21) rfl (Sub.cons (s := 22) rfl (Sub.cons (s := 23) rfl (Sub.cons (s := 24) rfl (Sub.cons (s := 27) rfl (Sub.cons (s := 28) rfl (Sub.cons (s := 29) rfl (Sub.cons (s := 30) rfl (Sub.cons (s := 34) rfl (Sub.cons (s := 35) rfl (Sub.nil _))))))))))))))))))))))))) (fun ρ' B' H' => ρ' = [(39, .bool (decide (kk = 3 ∨ kk = 4)))] ∧ B = B' ∧ row b6 46 [i64 (kk : Nat), .bool false, i64 0, str [], .slice none 0 0, .slice none 0 0] * (crow b (c.bytes 1).1 * (row b4 46 [i64 0, .bool false, i64 0, str [], .slice none 0 0, .slice none 0 0] * R)) = H') ?_ ?_
              · skip
                refine Cx.seq (fun K20 k20 => ?_)
                refine Cx.region ?_
                refine Lx.y (eqI rfl rfl) rfl ?_
                refine Lx.y (asg rfl) rfl ?_
                refine Lx.nil ?_
                refine Xx.tn (k20 _ _ _ _ ?_)
                refine Cx.condD rfl (fun h21 => ?_) (fun h21 => ?_)
                · skip
                  have k3 := h21
                  refine Cx.skip ?_
                  exact Xx.mkK (⟨rfl, rfl, by first | rfl | ac_rfl⟩) (Sub.consE (s := 39) rfl (by first | exact congrArg Value.bool (decide_eq_true (by omega)).symm | exact congrArg Value.bool (decide_eq_decide.2 (by omega))) (Sub.cons (s := 0) rfl (Sub.cons (s := 1) rfl (Sub.cons (s := 4) rfl (Sub.cons (s := 5) rfl (Sub.cons (s := 6) rfl (Sub.cons (s := 8) rfl (Sub.cons (s := 9) rfl (Sub.cons (s := 13) rfl (Sub.cons (s := 14) rfl (Sub.cons (s := 15) rfl (Sub.cons (s := 16) rfl (Sub.cons (s := 17) rfl (Sub.cons (s := 19) rfl (Sub.cons (s := 20) rfl (Sub.cons (s := 21) rfl (Sub.cons (s := 22) rfl (Sub.cons (s := 23) rfl (Sub.cons (s := 24) rfl (Sub.cons (s := 27) rfl (Sub.cons (s := 28) rfl (Sub.cons (s := 29) rfl (Sub.cons (s := 30) rfl (Sub.cons (s := 34) rfl (Sub.cons (s := 35) rfl (Sub.nil _))))))))))))))))))))))))))
                · skip
                  have k3 := h21
                  refine Cx.region ?_
                  refine Lx.y (eqI rfl rfl) rfl ?_
                  refine Lx.y (asg rfl) rfl ?_
                  refine Lx.nil ?_
                  exact Xx.mkK (⟨rfl, rfl, by first | rfl | ac_rfl⟩) (Sub.consE (s := 39) rfl (by first | exact congrArg Value.bool (decide_eq_true (by omega)).symm | exact congrArg Value.bool (decide_eq_decide.2 (by omega))) (Sub.cons (s := 0) rfl (Sub.cons (s := 1) rfl (Sub.cons (s := 4) rfl (Sub.cons (s := 5) rfl (Sub.cons (s := 6) rfl (Sub.cons (s := 8) rfl (Sub.cons (s := 9) rfl (Sub.cons (s := 13) rfl (Sub.cons (s := 14) rfl (Sub.cons (s := 15) rfl (Sub.cons (s := 16) rfl (Sub.cons (s := 17) rfl (Sub.cons (s := 19) rfl (Sub.cons (s := 20) rfl (Sub.cons (s := 21) rfl (Sub.cons (s := 22) rfl (Sub.cons (s := 23) rfl (Sub.cons (s := 24) rfl (Sub.cons (s := 27) rfl (Sub.cons (s := 28) rfl (Sub.cons (s := 29) rfl (Sub.cons (s := 30) rfl (Sub.cons (s := 34) rfl (Sub.cons (s := 35) rfl (Sub.nil _))))))))))))))))))))))))))
              · rintro ρ' B' H' ⟨rfl, rfl, rfl⟩
                refine Cx.condD rfl (fun h22 => ?_) (fun h22 => ?_)
                · skip
                  have k3 := h22
                  have ht : takeF (d + 1) deep c = (((c.bytes 1).1.text 1024).1, .mk (kk : Nat) false 0 ((c.bytes 1).1.text 1024).2 [] []) := by rw [ht0]; unfold takeK; rw [if_neg k0, if_neg k1, if_neg k2, if_pos k3]
                  have htl := Cu.text_le (c.bytes 1).1 1024
                  refine Cx.region ?_
                  refine Lx.y (mv rfl) rfl ?_
                  refine Lx.co rfl rfl rfl (Text_ct _ b B 1024 hc1 (by decide)) (PickB.eq) rfl ?_
                  refine Lx.y (fa' fo46_3 rfl) rfl ?_
                  refine Lx.st (stO Try.underlying9 sz9 rfl rfl rfl (by simp) rfl) ?_
                  refine Lx.nil ?_
                  refine Xx.bn ?_
                  exact Xx.mkK (⟨none, 0, none, 0, rfl, Frag.le_refl _, (by rw [ht]; exact ValR.leaf ⟨by omega, by decide, by decide⟩), (by rw [ht]; rfl)⟩) (Sub.cons (s := 0) rfl (Sub.cons (s := 1) rfl (Sub.cons (s := 4) rfl (Sub.cons (s := 5) rfl (Sub.cons (s := 6) rfl (Sub.cons (s := 8) rfl (Sub.cons (s := 9) rfl (Sub.cons (s := 13) rfl (Sub.cons (s := 14) rfl (Sub.cons (s := 15) rfl (Sub.cons (s := 16) rfl (Sub.cons (s := 17) rfl (Sub.cons (s := 19) rfl (Sub.cons (s := 20) rfl (Sub.cons (s := 21) rfl (Sub.cons (s := 22) rfl (Sub.nil _)))))))))))))))))
                · skip
                  have k3 := h22
                  refine Cx.cutK (ds' := []) (Sub.cons (s := 0) rfl (Sub.cons (s := 1) rfl (Sub.cons (s := 4) rfl (Sub.cons (s := 5) rfl (Sub.cons (s := 6) rfl (Sub.cons (s := 8) rfl (Sub.cons (s := 9) rfl (Sub.cons (s := 13) rfl (Sub.cons (s := 14) rfl (Sub.cons (s := 15) rfl (Sub.cons (s := 16) rfl (Sub.cons (s := 17) rfl (Sub.cons (s := 19) rfl (Sub.cons (s := 20) rfl (Sub.cons (s := 21) rfl (Sub.cons (s := 22) rfl (Sub.cons (s := 23) rfl (Sub.cons (s := 24) rfl (Sub.cons (s := 27) rfl (Sub.cons (s := 28) rfl (Sub.cons (s := 29) rfl (Sub.cons (s := 30) rfl (Sub.cons (s := 34) rfl (Sub.cons (s := 35) rfl (Sub.cons (s := 39) rfl (Sub.nil _)))))))))))))))))))))))))) (fun ρ' B' H' => ρ' = [(45, .bool (decide (kk = 5 ∨ kk = 6)))] ∧ B = B' ∧ row b6 46 [i64 (kk : Nat), .bool false, i64 0, str [], .slice none 0 0, .slice none 0 0] * (crow b (c.bytes 1).1 * (row b4 46 [i64 0, .bool false, i64 0, str [], .slice none 0 0, .slice none 0 0] * R)) = H') ?_ ?_
                  · skip
                    refine Cx.seq (fun K23 k23 => ?_)
                    refine Cx.region ?_
                    refine Lx.y (eqI rfl rfl) rfl ?_
                    refine Lx.y (asg rfl) rfl ?_
                    refine Lx.nil ?_
                    refine Xx.tn (k23 _ _ _ _ ?_)
                    refine Cx.condD rfl (fun h24 => ?_) (fun h24 => ?_)
                    · skip
                      have k5 := h24
                      refine Cx.skip ?_
                      exact Xx.mkK (⟨rfl, rfl, rfl⟩) (Sub.consE (s := 45) rfl (by first | exact congrArg Value.bool (decide_eq_true (by omega)).symm | exact congrArg Value.bool (decide_eq_decide.2 (by omega))) (Sub.cons (s := 0) rfl (Sub.cons (s := 1) rfl (Sub.cons (s := 4) rfl (Sub.cons (s := 5) rfl (Sub.cons (s := 6) rfl (Sub.cons (s := 8) rfl (Sub.cons (s := 9) rfl (Sub.cons (s := 13) rfl (Sub.cons (s := 14) rfl (Sub.cons (s := 15) rfl (Sub.cons (s := 16) rfl (Sub.cons (s := 17) rfl (Sub.cons (s := 19) rfl (Sub.cons (s := 20) rfl (Sub.cons (s := 21) rfl (Sub.cons (s := 22) rfl (Sub.cons (s := 23) rfl (Sub.cons (s := 24) rfl (Sub.cons (s := 27) rfl (Sub.cons (s := 28) rfl (Sub.cons (s := 29) rfl (Sub.cons (s := 30) rfl (Sub.cons (s := 34) rfl (Sub.cons (s := 35) rfl (Sub.cons (s := 39) rfl (Sub.nil _)))))))))))))))))))))))))))
                    · skip
                      have k5 := h24
                      refine Cx.region ?_
                      refine Lx.y (eqI rfl rfl) rfl ?_
                      refine Lx.y (asg rfl) rfl ?_
                      refine Lx.nil ?_
                      exact Xx.mkK (⟨rfl, rfl, rfl⟩) (Sub.consE (s := 45) rfl (by first | exact congrArg Value.bool (decide_eq_true (by omega)).symm | exact congrArg Value.bool (decide_eq_decide.2 (by omega))) (Sub.cons (s := 0) rfl (Sub.cons (s := 1) rfl (Sub.cons (s := 4) rfl (Sub.cons (s := 5) rfl (Sub.cons (s := 6) rfl (Sub.cons (s := 8) rfl (Sub.cons (s := 9) rfl (Sub.cons (s := 13) rfl (Sub.cons (s := 14) rfl (Sub.cons (s := 15) rfl (Sub.cons (s := 16) rfl (Sub.cons (s := 17) rfl (Sub.cons (s := 19) rfl (Sub.cons (s := 20) rfl (Sub.cons (s := 21) rfl (Sub.cons (s := 22) rfl (Sub.cons (s := 23) rfl (Sub.cons (s := 24) rfl (Sub.cons (s := 27) rfl (Sub.cons (s := 28) rfl (Sub.cons (s := 29) rfl (Sub.cons (s := 30) rfl (Sub.cons (s := 34) rfl (Sub.cons (s := 35) rfl (Sub.cons (s := 39) rfl (Sub.nil _)))))))))))))))))))))))))))
                  · rintro ρ' B' H' ⟨rfl, rfl, rfl⟩
                    refine Cx.condD rfl (fun h25 => ?_) (fun h25 => ?_)
                    · skip
                      have k5 := h25
                      refine Cx.seq (fun K26 k26 => ?_)
                      have ht := ht0.trans (show takeK _ kk _ = ((partsF (takeF d (deep + 1)) (decide (kk = 6)) ((c.bytes 1).1.count 32).2 ((c.bytes 1).1.count 32).1 [] []).1, V.mk (kk : Nat) false 0 [] (partsF (takeF d (deep + 1)) (decide (kk = 6)) ((c.bytes 1).1.count 32).2 ((c.bytes 1).1.count 32).1 [] []).2.2 (partsF (takeF d (deep + 1)) (decide (kk = 6)) ((c.bytes 1).1.count 32).2 ((c.bytes 1).1.count 32).1 [] []).2.1) by unfold takeK; rw [if_neg k0, if_neg k1, if_neg k2, if_neg k3, if_pos k5])
                      refine Cx.region ?_
                      refine Lx.y (mv rfl) rfl ?_
                      refine Lx.co rfl rfl rfl (Count_ct _ b B 32 hc1 (by decide)) (PickB.eq) rfl ?_
                      refine Lx.y (asg rfl) rfl ?_
                      refine Lx.nil ?_
                      refine Xx.tn (k26 _ _ _ _ ?_)
                      refine Cx.block ?_
                      refine Cx.loopK (Sub.cons (s := 0) rfl (Sub.cons (s := 1) rfl (Sub.cons (s := 4) rfl (Sub.cons (s := 5) rfl (Sub.cons (s := 6) rfl (Sub.cons (s := 8) rfl (Sub.cons (s := 9) rfl (Sub.cons (s := 13) rfl (Sub.cons (s := 14) rfl (Sub.cons (s := 15) rfl (Sub.cons (s := 16) rfl (Sub.cons (s := 17) rfl (Sub.cons (s := 19) rfl (Sub.cons (s := 20) rfl (Sub.cons (s := 21) rfl (Sub.cons (s := 22) rfl (Sub.cons (s := 23) rfl (Sub.cons (s := 24) rfl (Sub.cons (s := 27) rfl (Sub.cons (s := 28) rfl (Sub.cons (s := 29) rfl (Sub.cons (s := 30) rfl (Sub.cons (s := 34) rfl (Sub.cons (s := 35) rfl (Sub.cons (s := 39) rfl (Sub.cons (s := 45) rfl (Sub.cons (s := 48) rfl (Sub.cons (s := 49) rfl (Sub.nil _))))))))))))))))))))))))))))) (fun m ρ' B' H' => ∃ (n : Nat) (cu : Cu) (ns : List (List UInt8)) (ps : List V) (An : Option Addr) (cn : Nat) (Ap : Option Addr) (cp : Nat) (xs : List Value) (B2 : Frag), (partsF (takeF d (deep + 1)) (decide (kk = 6)) ((c.bytes 1).1.count 32).2 ((c.bytes 1).1.count 32).1 [] [] = partsF (takeF d (deep + 1)) (decide (kk = 6)) n cu ns ps ∧ cu.ok ∧ NmR ns ∧ ns.length ≤ ps.length ∧ ps.length + n ≤ 32 ∧ B.le B2 ∧ PartsR B2 d (fun k => ps.getD k default) ps.length xs) ∧ m = 1 + n ∧ ρ' = [(7, i64 n)] ∧ B2 = B' ∧ sbuf 46 6 Ap ps.length cp xs * (sbuf 9 1 An ns.length cn (ns.map str) * (crow b cu * (row b6 46 [i64 (kk : Nat), .bool false, i64 0, str [], .slice Ap ps.length cp, .slice An ns.length cn] * (row b4 46 [i64 0, .bool false, i64 0, str [], .slice none 0 0, .slice none 0 0] * R)))) = H') ⟨((c.bytes 1).1.count 32).2, ((c.bytes 1).1.count 32).1, [], [], none, 0, none, 0, [], _, ⟨rfl, Cu.count_ok hc1 32, (fun x hx => (by cases hx)), by show 0 ≤ 0; omega, by show 0 + _ ≤ 32; have := Cu.count_le (c.bytes 1).1 32; omega, Frag.le_refl _, rfl, fun k hk => absurd hk (by show ¬ k < 0; omega)⟩, rfl, rfl, rfl, by rw [show ([] : List (List UInt8)).length = 0 from rfl, show ([] : List V).length = 0 from rfl, show ([] : List (List UInt8)).map str = [] from rfl, sbuf_nil, sbuf_nil, one_star, one_star]⟩ (Sub.cons (s := 7) rfl (Sub.cons (s := 0) rfl (Sub.cons (s := 1) rfl (Sub.cons (s := 4) rfl (Sub.cons (s := 5) rfl (Sub.cons (s := 6) rfl (Sub.cons (s := 8) rfl (Sub.cons (s := 9) rfl (Sub.cons (s := 13) rfl (Sub.cons (s := 14) rfl (Sub.cons (s := 15) rfl (Sub.cons (s := 16) rfl (Sub.cons (s := 17) rfl (Sub.cons (s := 19) rfl (Sub.cons (s := 20) rfl (Sub.cons (s := 21) rfl (Sub.cons (s := 22) rfl (Sub.cons (s := 23) rfl (Sub.cons (s := 24) rfl (Sub.cons (s := 27) rfl (Sub.cons (s := 28) rfl (Sub.cons (s := 29) rfl (Sub.cons (s := 30) rfl (Sub.cons (s := 34) rfl (Sub.cons (s := 35) rfl (Sub.cons (s := 39) rfl (Sub.cons (s := 45) rfl (Sub.cons (s := 48) rfl (Sub.cons (s := 49) rfl (Sub.nil _)))))))))))))))))))))))))))))) ?_
                      rintro m ρ' B' H' ⟨n, cu, ns, ps, An, cn, Ap, cp, xs, B2, ⟨hpf, hcu, hnm, hnl, hpl, hB2, hpr⟩, rfl, rfl, rfl, rfl⟩
                      refine Cx.seq (fun K27 k27 => ?_)
                      refine Cx.seq (fun K28 k28 => ?_)
                      refine Cx.region ?_
                      refine Lx.y (mv rfl) rfl ?_
                      refine Lx.y (gtr rfl rfl) rfl ?_
                      refine Lx.y (mv rfl) rfl ?_
                      refine Xx.ifD (t := 52) rfl (fun h29 => ?_) (fun h29 => ?_)
                      · skip
                        have hn0 := h29
                        refine Lx.gT rfl rfl rfl ?_
                        refine Lx.y (mv rfl) rfl ?_
                        refine Lx.gT rfl rfl rfl ?_
                        refine Lx.co rfl rfl rfl (Err_ct cu b _) (PickB.eq) rfl ?_
                        refine Lx.gT rfl rfl rfl ?_
                        refine Lx.y (eqI rfl rfl) rfl ?_
                        refine Lx.y (pickT rfl rfl) rfl ?_
                        refine Lx.nil ?_
                        refine Xx.tn (k28 _ _ _ _ ?_)
                        refine Cx.condD rfl (fun h30 => ?_) (fun h30 => ?_)
                        · skip
                          have he2 : cu.e = 0 := h30
                          obtain ⟨n, rfl⟩ : ∃ m, n = m + 1 := ⟨n - 1, by omega⟩
                          refine Cx.skip ?_
                          refine Xx.tn (k27 _ _ _ _ ?_)
                          refine Cx.seq (fun K31 k31 => ?_)
                          refine Cx.block ?_
                          refine Cx.cutK (ds' := []) (Sub.cons (s := 0) rfl (Sub.cons (s := 1) rfl (Sub.cons (s := 4) rfl (Sub.cons (s := 5) rfl (Sub.cons (s := 6) rfl (Sub.cons (s := 7) rfl (Sub.cons (s := 8) rfl (Sub.cons (s := 9) rfl (Sub.cons (s := 13) rfl (Sub.cons (s := 14) rfl (Sub.cons (s := 15) rfl (Sub.cons (s := 16) rfl (Sub.cons (s := 17) rfl (Sub.cons (s := 19) rfl (Sub.cons (s := 20) rfl (Sub.cons (s := 21) rfl (Sub.cons (s := 22) rfl (Sub.cons (s := 23) rfl (Sub.cons (s := 24) rfl (Sub.cons (s := 27) rfl (Sub.cons (s := 28) rfl (Sub.cons (s := 29) rfl (Sub.cons (s := 30) rfl (Sub.cons (s := 34) rfl (Sub.cons (s := 35) rfl (Sub.cons (s := 39) rfl (Sub.cons (s := 45) rfl (Sub.cons (s := 48) rfl (Sub.cons (s := 49) rfl (Sub.cons (s := 50) rfl (Sub.cons (s := 51) rfl (Sub.cons (s := 52) rfl (Sub.cons (s := 53) rfl (Sub.cons (s := 54) rfl (Sub.cons (s := 55) rfl (Sub.cons (s := 56) rfl (Sub.nil _))))))))))))))))))))))))))))))))))))) (fun ρ' B' H' => ∃ An2 cn2, ρ' = [] ∧ B2 = B' ∧ sbuf 46 6 Ap ps.length cp xs * (sbuf 9 1 An2 (nameN (decide (kk = 6)) cu ns).length cn2 ((nameN (decide (kk = 6)) cu ns).map str) * (crow b (nameC (decide (kk = 6)) cu) * (row b6 46 [i64 (kk : Nat), .bool false, i64 0, str [], .slice Ap ps.length cp, .slice An2 (nameN (decide (kk = 6)) cu ns).length cn2] * (row b4 46 [i64 0, .bool false, i64 0, str [], .slice none 0 0, .slice none 0 0] * R)))) = H') ?_ ?_
                          · skip
                            refine Cx.seq (fun K32 k32 => ?_)
                            refine Cx.region ?_
                            refine Lx.y (fa' fo46_0 rfl) rfl ?_
                            refine Lx.y (ld Try.underlying3 rfl rfl rfl) rfl ?_
                            refine Lx.y (eqI rfl rfl) rfl ?_
                            refine Lx.nil ?_
                            refine Xx.tn (k32 _ _ _ _ ?_)
                            refine Cx.condD rfl (fun h33 => ?_) (fun h33 => ?_)
                            · skip
                              have k6 : kk = 6 := by have := h33; omega
                              refine Cx.drawn (by kernel_rfl) ?_
                              refine Dx.p (i := 0) rfl (by kernel_rfl) (fa' fo46_5 rfl) rfl ?_
                              refine Dx.r (i := 1) rfl (by kernel_rfl) (ld Try.underlying22 rfl rfl rfl) rfl ?_
                              refine Dx.p (i := 2) rfl (by kernel_rfl) (mv rfl) rfl ?_
                              refine Dx.one (i := 3) (by kernel_rfl) ?_
                              refine Dstep.o (i := 3) rfl (Ox.co rfl rfl rfl (Text_ct cu b _ 16 hcu (by decide)) (PickB.eq)) rfl (fun v B' H' hΦ hB => ?_)
                              obtain ⟨rfl, rfl, rfl⟩ := hΦ; clear hB
                              refine ⟨JOk.yes (JOk.top) (ld Try.underlying22 rfl rfl rfl), ?_⟩
                              refine Dx.one (i := 4) (by kernel_rfl) ?_
                              refine Dstep.o (i := 4) rfl (bsl1 Try.underlying22 ti9 rfl rfl rfl (by decide)) rfl (fun v B' H' hΦ hB => ?_)
                              obtain ⟨b11, rfl, rfl, rfl⟩ := hΦ; clear hB
                              refine ⟨JOk.yes (JOk.top) (ld Try.underlying22 rfl rfl rfl), ?_⟩
                              refine Dx.one (i := 5) (by kernel_rfl) ?_
                              refine Dstep.o (i := 5) rfl (appN (et := 9) (nameN (decide (kk = 6)) cu ns).length [str (cu.text 16).2] ((nameN (decide (kk = 6)) cu ns).map str) Try.underlying22 Try.underlying22 ti9 rfl rfl rfl rfl rfl (by omega) (by omega) (by rw [nameN_yes k6]; simp) (by rw [nameN_yes k6]; simp)) rfl (fun v B' H' hΦ hB => ?_)
                              obtain ⟨A3, c3, rfl, hA3, hl3, hc3, rfl, rfl⟩ := hΦ
                              refine ⟨JOk.edge (JOk.top) (by kernel_rfl), ?_⟩
                              refine Dx.p (i := 6) rfl (by kernel_rfl) (fa' fo46_5 rfl) rfl ?_
                              refine Dx.one (i := 7) (by kernel_rfl) ?_
                              refine Dstep.o0 (i := 7) rfl (stO Try.underlying22 sz22 rfl rfl rfl (by simp) rfl) (fun v B' H' hΦ hB => ?_)
                              obtain ⟨rfl, rfl⟩ := hΦ; clear hB v
                              refine ⟨JOk.edge (JOk.top) (by kernel_rfl), ?_⟩
                              refine Dx.done (by kernel_rfl) ?_
                              refine Xx.dropB b11 ?_
                              exact Xx.mkK (⟨A3, c3, rfl, rfl, by rw [nameC_yes k6]; ac_rfl⟩) (Sub.cons (s := 0) rfl (Sub.cons (s := 1) rfl (Sub.cons (s := 4) rfl (Sub.cons (s := 5) rfl (Sub.cons (s := 6) rfl (Sub.cons (s := 7) rfl (Sub.cons (s := 8) rfl (Sub.cons (s := 9) rfl (Sub.cons (s := 13) rfl (Sub.cons (s := 14) rfl (Sub.cons (s := 15) rfl (Sub.cons (s := 16) rfl (Sub.cons (s := 17) rfl (Sub.cons (s := 19) rfl (Sub.cons (s := 20) rfl (Sub.cons (s := 21) rfl (Sub.cons (s := 22) rfl (Sub.cons (s := 23) rfl (Sub.cons (s := 24) rfl (Sub.cons (s := 27) rfl (Sub.cons (s := 28) rfl (Sub.cons (s := 29) rfl (Sub.cons (s := 30) rfl (Sub.cons (s := 34) rfl (Sub.cons (s := 35) rfl (Sub.cons (s := 39) rfl (Sub.cons (s := 45) rfl (Sub.cons (s := 48) rfl (Sub.cons (s := 49) rfl (Sub.cons (s := 50) rfl (Sub.cons (s := 51) rfl (Sub.cons (s := 52) rfl (Sub.cons (s := 53) rfl (Sub.cons (s := 54) rfl (Sub.cons (s := 55) rfl (Sub.cons (s := 56) rfl (Sub.nil _)))))))))))))))))))))))))))))))))))))
                            · skip
                              have k6 : ¬ kk = 6 := by have := h33; omega
                              refine Cx.skip ?_
                              exact Xx.mkK (⟨An, cn, rfl, rfl, by rw [nameN_no k6, nameC_no k6]; ac_rfl⟩) (Sub.cons (s := 0) rfl (Sub.cons (s := 1) rfl (Sub.cons (s := 4) rfl (Sub.cons (s := 5) rfl (Sub.cons (s := 6) rfl (Sub.cons (s := 7) rfl (Sub.cons (s := 8) rfl (Sub.cons (s := 9) rfl (Sub.cons (s := 13) rfl (Sub.cons (s := 14) rfl (Sub.cons (s := 15) rfl (Sub.cons (s := 16) rfl (Sub.cons (s := 17) rfl (Sub.cons (s := 19) rfl (Sub.cons (s := 20) rfl (Sub.cons (s := 21) rfl (Sub.cons (s := 22) rfl (Sub.cons (s := 23) rfl (Sub.cons (s := 24) rfl (Sub.cons (s := 27) rfl (Sub.cons (s := 28) rfl (Sub.cons (s := 29) rfl (Sub.cons (s := 30) rfl (Sub.cons (s := 34) rfl (Sub.cons (s := 35) rfl (Sub.cons (s := 39) rfl (Sub.cons (s := 45) rfl (Sub.cons (s := 48) rfl (Sub.cons (s := 49) rfl (Sub.cons (s := 50) rfl (Sub.cons (s := 51) rfl (Sub.cons (s := 52) rfl (Sub.cons (s := 53) rfl (Sub.cons (s := 54) rfl (Sub.cons (s := 55) rfl (Sub.cons (s := 56) rfl (Sub.nil _)))))))))))))))))))))))))))))))))))))
                          · rintro ρ' B' H' ⟨An2, cn2, rfl, rfl, rfl⟩
                            refine Cx.drawn (by kernel_rfl) ?_
                            refine Dx.p (i := 0) rfl (by kernel_rfl) (fa' fo46_4 rfl) rfl ?_
                            refine Dx.r (i := 1) rfl (by kernel_rfl) (ld Try.underlying44 rfl rfl rfl) rfl ?_
                            refine Dx.p (i := 2) rfl (by kernel_rfl) (mv rfl) rfl ?_
                            refine Dx.p (i := 3) rfl (by kernel_rfl) (mv rfl) rfl ?_
                            refine Dx.p (i := 4) rfl (by kernel_rfl) (add rfl rfl (by first | exact wrap64 (by omega) (by omega) | rfl)) rfl ?_
                            refine Dx.one (i := 5) (by kernel_rfl) ?_
                            refine Dstep.o (i := 5) rfl (Ox.call rfl rfl rfl (ih (nameC (decide (kk = 6)) cu) _ (by omega) (nameC_ok hcu)) (PickB.eq)) rfl (fun v B' H' hΦ hB => ?_)
                            obtain ⟨_, rfl, hΦ⟩ := hΦ
                            obtain ⟨cs2, rfl, hBc, hv3, rfl⟩ := hΦ
                            clear hB
                            obtain ⟨Ap3, cp3, An3, cn3, rfl⟩ := ValR.shape hv3
                            refine ⟨JOk.yes (JOk.top) (ld Try.underlying44 rfl rfl rfl), ?_⟩
                            refine Dx.one (i := 6) (by kernel_rfl) ?_
                            refine Dstep.o (i := 6) rfl (bslA Try.underlying44 ti46 rfl rfl (by decide)) rfl (fun v B' H' hΦ hB => ?_)
                            obtain ⟨b12, rfl, rfl, rfl⟩ := hΦ; clear hB
                            refine ⟨JOk.yes (JOk.top) (ld Try.underlying44 rfl rfl rfl), ?_⟩
                            refine Dx.one (i := 7) (by kernel_rfl) ?_
                            refine Dstep.o (i := 7) rfl (appN (et := 46) (ps ++ [(takeF d (deep + 1) (nameC (decide (kk = 6)) cu)).2]).length (vcs (takeF d (deep + 1) (nameC (decide (kk = 6)) cu)).2 Ap3 cp3 An3 cn3) (xs ++ vcs (takeF d (deep + 1) (nameC (decide (kk = 6)) cu)).2 Ap3 cp3 An3 cn3) Try.underlying44 Try.underlying44 ti46 rfl rfl rfl rfl rfl (by omega) (by omega) (by simp) rfl) rfl (fun v B' H' hΦ hB => ?_)
                            obtain ⟨A2, c2, rfl, hA2, hl2, hc2, rfl, rfl⟩ := hΦ
                            refine ⟨JOk.edge (JOk.top) (by kernel_rfl), ?_⟩
                            refine Dx.p (i := 8) rfl (by kernel_rfl) (fa' fo46_4 rfl) rfl ?_
                            refine Dx.one (i := 9) (by kernel_rfl) ?_
                            refine Dstep.o0 (i := 9) rfl (stO Try.underlying44 sz44 rfl rfl rfl (by simp) rfl) (fun v B' H' hΦ hB => ?_)
                            obtain ⟨rfl, rfl⟩ := hΦ; clear hB v
                            refine ⟨JOk.edge (JOk.top) (by kernel_rfl), ?_⟩
                            refine Dx.done (by kernel_rfl) ?_
                            refine Xx.bn ?_
                            refine Xx.tn (k31 _ _ _ _ ?_)
                            refine Cx.region ?_
                            refine Lx.y (mv rfl) rfl ?_
                            refine Lx.y (sub rfl rfl (by first | exact wrap64 (by omega) (by omega) | rfl)) rfl ?_
                            refine Lx.y (asg rfl) rfl ?_
                            refine Lx.nil ?_
                            refine Xx.dropB b12 ?_
                            exact Xx.againK ⟨n, (takeF d (deep + 1) (nameC (decide (kk = 6)) cu)).1, nameN (decide (kk = 6)) cu ns, ps ++ [(takeF d (deep + 1) (nameC (decide (kk = 6)) cu)).2], An2, cn2, A2, c2, xs ++ vcs (takeF d (deep + 1) (nameC (decide (kk = 6)) cu)).2 Ap3 cp3 An3 cn3, _, ⟨hpf.trans (partsF_step he2), takeF_ok _ _ _ (nameC_ok hcu), nameN_ok hnm, by simp; have := nameN_len (six := decide (kk = 6)) (c := cu) hnl; omega, by simp; omega, Frag.le_trans hB2 hBc, by rw [List.length_append]; exact PartsR.push (hpr.mono hBc) rfl hv3⟩, rfl, rfl, rfl, by ac_rfl⟩ (by omega) (Sub.consE (s := 7) rfl (by show i64 _ = i64 _; congr 1; omega) (Sub.cons (s := 0) rfl (Sub.cons (s := 1) rfl (Sub.cons (s := 4) rfl (Sub.cons (s := 5) rfl (Sub.cons (s := 6) rfl (Sub.cons (s := 8) rfl (Sub.cons (s := 9) rfl (Sub.cons (s := 13) rfl (Sub.cons (s := 14) rfl (Sub.cons (s := 15) rfl (Sub.cons (s := 16) rfl (Sub.cons (s := 17) rfl (Sub.cons (s := 19) rfl (Sub.cons (s := 20) rfl (Sub.cons (s := 21) rfl (Sub.cons (s := 22) rfl (Sub.cons (s := 23) rfl (Sub.cons (s := 24) rfl (Sub.cons (s := 27) rfl (Sub.cons (s := 28) rfl (Sub.cons (s := 29) rfl (Sub.cons (s := 30) rfl (Sub.cons (s := 34) rfl (Sub.cons (s := 35) rfl (Sub.cons (s := 39) rfl (Sub.cons (s := 45) rfl (Sub.cons (s := 48) rfl (Sub.cons (s := 49) rfl (Sub.nil _))))))))))))))))))))))))))))))
                        · skip
                          have hexit : n = 0 ∨ ¬ cu.e = 0 := .inr h30
                          refine Cx.exit ?_
                          refine Xx.te ?_
                          refine Xx.te ?_
                          refine Xx.bh ?_
                          refine Xx.bn ?_
                          refine Xx.freezeT Ap fun B3 hB3 hRo hnc _ => ?_
                          refine Xx.freezeT An fun B4 hB4 hRo4 hnc4 _ => ?_
                          have hpz := hpf.trans (partsF_zero hexit)
                          rw [hpz] at ht
                          exact Xx.mkK (⟨Ap, cp, An, cn, rfl, Frag.le_trans hB2 (Frag.le_trans hB3 hB4), (by rw [ht]; exact ValR.mk ⟨by show 0 ≤ _; omega, by show _ ≤ (0:Int); omega, by show (0:Int) ≤ _; omega, hnc4, hnc⟩ (by show ps.length ≤ _; omega) (by show ns.length ≤ _; omega) (RoS.roe hRo4) (fun x hx => Nat.le_trans (hnm x hx) (by decide)) (hRo.mono hB4) (fun k hk => (PartsR.at (PartsR.mono hB4 (PartsR.mono hB3 hpr)) hk))), (by rw [ht]; ac_rfl)⟩) (Sub.cons (s := 0) rfl (Sub.cons (s := 1) rfl (Sub.cons (s := 4) rfl (Sub.cons (s := 5) rfl (Sub.cons (s := 6) rfl (Sub.cons (s := 8) rfl (Sub.cons (s := 9) rfl (Sub.cons (s := 13) rfl (Sub.cons (s := 14) rfl (Sub.cons (s := 15) rfl (Sub.cons (s := 16) rfl (Sub.cons (s := 17) rfl (Sub.cons (s := 19) rfl (Sub.cons (s := 20) rfl (Sub.cons (s := 21) rfl (Sub.cons (s := 22) rfl (Sub.nil _)))))))))))))))))
                      · skip
                        have hn0 := h29
                        have hexit : n = 0 ∨ ¬ cu.e = 0 := by omega
                        refine Lx.gF rfl rfl rfl rfl ?_
                        refine Lx.gF rfl rfl rfl rfl ?_
                        refine Lx.gF rfl rfl rfl rfl ?_
                        refine Lx.y (pickF rfl rfl) rfl ?_
                        refine Lx.nil ?_
                        refine Xx.tn (k28 _ _ _ _ ?_)
                        refine Cx.condF rfl ?_
                        refine Cx.exit ?_
                        refine Xx.te ?_
                        refine Xx.te ?_
                        refine Xx.bh ?_
                        refine Xx.bn ?_
                        refine Xx.freezeT Ap fun B3 hB3 hRo hnc _ => ?_
                        refine Xx.freezeT An fun B4 hB4 hRo4 hnc4 _ => ?_
                        have hpz := hpf.trans (partsF_zero hexit)
                        rw [hpz] at ht
                        exact Xx.mkK (⟨Ap, cp, An, cn, rfl, Frag.le_trans hB2 (Frag.le_trans hB3 hB4), (by rw [ht]; exact ValR.mk ⟨by show 0 ≤ _; omega, by show _ ≤ (0:Int); omega, by show (0:Int) ≤ _; omega, hnc4, hnc⟩ (by show ps.length ≤ _; omega) (by show ns.length ≤ _; omega) (RoS.roe hRo4) (fun x hx => Nat.le_trans (hnm x hx) (by decide)) (hRo.mono hB4) (fun k hk => (PartsR.at (PartsR.mono hB4 (PartsR.mono hB3 hpr)) hk))), (by rw [ht]; ac_rfl)⟩) (Sub.cons (s := 0) rfl (Sub.cons (s := 1) rfl (Sub.cons (s := 4) rfl (Sub.cons (s := 5) rfl (Sub.cons (s := 6) rfl (Sub.cons (s := 8) rfl (Sub.cons (s := 9) rfl (Sub.cons (s := 13) rfl (Sub.cons (s := 14) rfl (Sub.cons (s := 15) rfl (Sub.cons (s := 16) rfl (Sub.cons (s := 17) rfl (Sub.cons (s := 19) rfl (Sub.cons (s := 20) rfl (Sub.cons (s := 21) rfl (Sub.cons (s := 22) rfl (Sub.nil _)))))))))))))))))
                    · skip
                      have k5 := h25
                      have ht : takeF (d + 1) deep c = ((c.bytes 1).1.stop 6, .mk (kk : Nat) false 0 [] [] []) := by rw [ht0]; unfold takeK; rw [if_neg k0, if_neg k1, if_neg k2, if_neg k3, if_neg k5]
                      refine Cx.region ?_
                      refine Lx.y (mv rfl) rfl ?_
                      refine Lx.co rfl rfl rfl (Fail_ct _ b B 6) (PickB.eq) rfl ?_
                      refine Lx.nil ?_
                      refine Xx.bn ?_
                      exact Xx.mkK (⟨none, 0, none, 0, rfl, Frag.le_refl _, (by rw [ht]; exact ValR.leaf ⟨by decide, by decide, by decide⟩), (by rw [ht]; exact star_left _ _ _)⟩) (Sub.cons (s := 0) rfl (Sub.cons (s := 1) rfl (Sub.cons (s := 4) rfl (Sub.cons (s := 5) rfl (Sub.cons (s := 6) rfl (Sub.cons (s := 8) rfl (Sub.cons (s := 9) rfl (Sub.cons (s := 13) rfl (Sub.cons (s := 14) rfl (Sub.cons (s := 15) rfl (Sub.cons (s := 16) rfl (Sub.cons (s := 17) rfl (Sub.cons (s := 19) rfl (Sub.cons (s := 20) rfl (Sub.cons (s := 21) rfl (Sub.cons (s := 22) rfl (Sub.nil _)))))))))))))))))
      · rintro ρ' B' H' ⟨Ap, cp, An, cn, rfl, hBf, hvf, rfl⟩
        refine Cx.seq (fun K34 k34 => ?_)
        refine Cx.region ?_
        refine Lx.y (ldA Try.underlying46 rfl sz46 rfl (Cells.own (n := 6) PickB.eq rfl) rfl) rfl ?_
        refine Lx.st (stA (d := .bool) sz46 rfl rfl rfl rfl (by show 0 + 6 ≤ 6; omega) rfl) ?_
        refine Lx.nil ?_
        refine Xx.tn (k34 _ _ _ _ ?_)
        refine Cx.ret ?_
        refine Xx.dropB b6 ?_
        exact Xx.retA rfl Try.underlying46 rfl sz46 rfl rfl ⟨_, rfl, hBf, hvf, rfl⟩ hBf rfl
end VaC
end Go.Proofs.Ytcoiejmlpinpbaa
