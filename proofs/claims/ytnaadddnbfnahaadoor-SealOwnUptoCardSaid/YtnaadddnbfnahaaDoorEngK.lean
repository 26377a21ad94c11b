/- The eleventh part of the program logic: piles of blocks, of a number that is not known beforehand. -/
import Derived.Test.YtnaadddnbfnahaaDoorEngJ
set_option linter.unusedVariables false
set_option linter.unusedSimpArgs false
namespace Go.Proofs.YtnaadddnbfnahaaDoor
open Go Go.RowKit
section
variable {C : Cx} {F : Fx} {rs : List HP}
end
end Go.Proofs.YtnaadddnbfnahaaDoor
