/-
  More rules: a value in another spelling.
-/
import Derived.Test.YtgcebieihmlaoaaSlm
namespace Go.SL
open Go.RowKit
set_option linter.unusedVariables false
section
variable {P : Program} {ρ : Sl} {S : World → Prop} {ty : TypeId} {v v' : Value} {op : Op}
theorem Yx.val (h : Yx P op ty ρ S v) (e : v = v') : Yx P op ty ρ S v' := e ▸ h
theorem Yx.tt {b : Bool} (h : Yx P op ty ρ S (.bool b)) (e : b = true) : Yx P op ty ρ S (.bool true) := e ▸ h
theorem Yx.ff {b : Bool} (h : Yx P op ty ρ S (.bool b)) (e : b = false) : Yx P op ty ρ S (.bool false) := e ▸ h
end
end Go.SL
