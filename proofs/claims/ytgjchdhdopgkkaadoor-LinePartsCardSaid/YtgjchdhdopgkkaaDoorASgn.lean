/-
  Contracts on plain data: the signs of a text, what lies within bounds, first and last days. Conditions: those that each theorem names.
-/
import Derived.Test.YtgjchdhdopgkkaaDoorAbsE
import Derived.Test.YtgjchdhdopgkkaaDoorAPlain
set_option linter.unusedVariables false
set_option linter.unusedSimpArgs false
set_option maxRecDepth 100000
namespace Go.Proofs.YtgjchdhdopgkkaaDoor
open Go.Ab Civ
abbrev uv (n : Int) : AV := .v (.int .u8 n)
theorem bvx {a b : Bool} (h : a = b) : bv a = bv b := by rw [h]
end Go.Proofs.YtgjchdhdopgkkaaDoor
