/-
  ValueOrders: whatever the input, the law answers true, and the input reads as it did.
-/
import Derived.Test.YtcoiejmlpinpbaaRows
import Derived.Test.YtcoiejmlpinpbaaSlk
import Derived.SizedLaws
import Derived.Test.YtcoiejmlpinpbaaVaP
import Derived.Test.YtcoiejmlpinpbaaVaQ
namespace Go.Proofs.Ytcoiejmlpinpbaa.ValueOrdersLaw
open Go.ChangeShapes Go.WideShapes Go.ChangeAt Go.RowKit Go.SL
open VaQ
open Go.ChangeMaps (open_string shut_string)

theorem own : ownKnob Try.prog.godebug = none := by kernel_rfl
theorem laidOut : laidOutB Try.prog = true := by kernel_rfl

set_option maxRecDepth 100000 in
theorem contract (H : Type) (enc : TypeId × Value → H) (W : World) (base : Nat) (args : Array Value) (ds gs : List (DataW H)) (before : List MemPlace)
    (hval : ∀ (j : Nat) t v, Try.f8.params[j]? = some t → args[j]? = some v → Value.okWide Try.prog W .any base t v)
    (hW : DataW.Whole enc Try.prog Try.f8.params.toList Rows.valueOrdersSpec.vars false W args.toList ds gs before) (ts : List TypeId) (hwt : (DataW.weightsEach Try.prog (Try.f8.params.toList ++ ts) (ds ++ gs)).all (· ≤ reachBytes) = true) :
    Calls Try.prog 8 args W fun e W' => ∃ v, e = .returned v ∧ Rows.valueOrdersSpec.post enc Try.prog Try.f8 false true false false W args v W' := by
  have hW' := hW
  obtain ⟨p, q, hA0, hV, rfl, hfz, hnd⟩ := hW
  have hA : DataW.TrodAll enc Try.prog W 0 (fun _ => true) true Try.f8.params.toList args.toList ds p := hA0
  rw [Try.params8] at hA hval
  obtain ⟨v0, vs0, d0, ds0, p0, q0, hargs, rfl, rfl, h0, r0⟩ := trodAll_cons hA
  obtain ⟨v1, vs1, d1, ds1, p1, q1, rfl, rfl, rfl, h1, r1⟩ := trodAll_cons r0
  obtain ⟨v2, vs2, d2, ds2, p2, q2, rfl, rfl, rfl, h2, r2⟩ := trodAll_cons r1
  obtain ⟨rfl, rfl, rfl⟩ := trodAll_nil r2
  obtain rfl : args = #[v0, v1, v2] := by cases args; simp_all
  obtain ⟨a0, k0, l0, rfl, hv0⟩ := open_val (hval 0 46 v0 rfl rfl) h0 (weights_at hwt (j := 0) rfl rfl)
  obtain ⟨a1, k1, l1, rfl, hv1⟩ := open_val (hval 1 46 v1 rfl rfl) h1 (weights_at hwt (j := 1) rfl rfl)
  obtain ⟨a2, k2, l2, rfl, hv2⟩ := open_val (hval 2 46 v2 rfl rfl) h2 (weights_at hwt (j := 2) rfl rfl)
  obtain ⟨rfl, rfl⟩ := trodVars_none hV
  refine (law_calls (args := [.agg l0.toArray, .agg l1.toArray, .agg l2.toArray]) (VaP.ValueOrders_ct a0 a1 a2 l0 l1 l2 k0 k1 k2 _ hv0 hv1 hv2)).mono fun e W' ⟨he, hb⟩ => ?_
  exact ⟨_, he, law_post laidOut (by kernel_rfl) (by kernel_rfl) Try.underlying4 rfl hW' rfl hb⟩

set_option maxRecDepth 100000 in
theorem lifted (os : Os) (started : os.Started) (H : Type) (enc : TypeId × Value → H) :
    ReturnsInHanded {} Try.checked os 8 .any (Rows.valueOrdersSpec.pre6 enc Try.prog Try.f8 Rows.valueOrdersRow.domain false) (Rows.valueOrdersSpec.post enc Try.prog Try.f8 false true false false) := by
  refine returnsInHanded_of_change_sized (C := Try.checked) own started (by kernel_rfl) Try.func8
    (ChangeSpec.witness6 (enc := enc) (C := Try.checked) false ⟨#[], #[.agg #[.int .i64 0, .bool false, .int .i64 0, .string ⟨#[]⟩, .slice none 0 0, .slice none 0 0], .agg #[.int .i64 0, .bool false, .int .i64 0, .string ⟨#[]⟩, .slice none 0 0, .slice none 0 0], .agg #[.int .i64 0, .bool false, .int .i64 0, .string ⟨#[]⟩, .slice none 0 0, .slice none 0 0]], []⟩ 8 (by kernel_rfl) (by kernel_rfl) (by kernel_rfl) (by kernel_rfl)) ?_
  intro W base args ds gs before hval hW _ hwt _
  exact contract H enc W base args ds gs before hval hW _ hwt

theorem said : Rows.ValueOrdersSaid :=
  OpenClaim.holds_of_wide 8 Try.f8 rfl rfl rfl rfl rfl rfl rfl ⟨rfl, rfl, rfl, rfl, rfl⟩ rfl rfl rfl rfl rfl (by kernel_rfl) Try.func8 (by kernel_rfl)
    (of_decide_eq_true (by kernel_rfl)) (by unfold Func.isWrapper; first | (rw [if_pos (by decide +kernel)]; kernel_rfl) | (rw [if_neg (by decide +kernel)]; exact ⟨rfl, rfl⟩))
    (fun os started H enc _ => lifted os started H enc)
end Go.Proofs.Ytcoiejmlpinpbaa.ValueOrdersLaw
#print axioms Go.Proofs.Ytcoiejmlpinpbaa.ValueOrdersLaw.said
