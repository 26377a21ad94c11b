/- Walks: what the laws share, and three laws. Printed by gen.py. -/
import Derived.Test.YtjhhpagcejgclaaDoorD8
import Derived.Test.YtjhhpagcejgclaaDoorEngH
set_option linter.unusedVariables false
set_option linter.unusedSimpArgs false
set_option maxRecDepth 100000
namespace Go.Proofs.YtjhhpagcejgclaaDoor
open Go Go.RowKit Go.Proofs
end Go.Proofs.YtjhhpagcejgclaaDoor
