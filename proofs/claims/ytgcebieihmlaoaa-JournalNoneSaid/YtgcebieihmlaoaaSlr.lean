/-
  For a region that draws: four that are ready.
-/
import Derived.Test.YtgcebieihmlaoaaSlq
namespace Go.SL
open Go.RowKit
set_option linter.unusedVariables false
section
variable {e : Env} {ds : List Deferred} {Q : Exit → Act → World → Prop} {ρ : Sl} {B : Frag} {H : HP} {ops : Array Oper} {J : Nat → World → Prop} {fuel : Nat} {listed : Array Bool}
theorem Dx.four {i j l m : Nat} (hr : Region.ready .any ops listed = [i, j, l, m]) (h : Dstep e ds ops Q J fuel listed ρ B H i) (h2 : Dstep e ds ops Q J fuel listed ρ B H j) (h3 : Dstep e ds ops Q J fuel listed ρ B H l) (h4 : Dstep e ds ops Q J fuel listed ρ B H m) : Dx e ds ops Q J (fuel + 1) listed ρ B H :=
  Dx.all hr (by simp) fun k hk => by
    simp at hk
    rcases hk with rfl | rfl | rfl | rfl
    · exact h
    · exact h2
    · exact h3
    · exact h4
end
end Go.SL
