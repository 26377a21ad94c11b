/- Walks: the texts under a digest, by the reference. Printed by gen.py. -/
import Derived.Test.YtnaadddnbfnahaaDoorD7
import Derived.Test.YtnaadddnbfnahaaDoorEngH
set_option linter.unusedVariables false
set_option linter.unusedSimpArgs false
set_option maxRecDepth 100000
namespace Go.Proofs.YtnaadddnbfnahaaDoor
open Go Go.RowKit Go.Proofs
end Go.Proofs.YtnaadddnbfnahaaDoor
