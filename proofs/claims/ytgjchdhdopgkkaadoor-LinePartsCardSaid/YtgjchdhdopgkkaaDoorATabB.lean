/-
  Contract of table.Check on plain data. Conditions: names are no longer than a text may be.
-/
import Derived.Test.YtgjchdhdopgkkaaDoorATabA
import Derived.Test.YtgjchdhdopgkkaaDoorASgn
set_option linter.unusedVariables false
set_option linter.unusedSimpArgs false
set_option maxRecDepth 100000
namespace Go.Proofs.YtgjchdhdopgkkaaDoor
open Go.Ab Civ
end Go.Proofs.YtgjchdhdopgkkaaDoor
