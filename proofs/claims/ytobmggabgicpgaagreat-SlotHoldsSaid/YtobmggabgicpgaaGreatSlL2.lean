/- Slots: the document's Late, by contract. -/
import Derived.Test.YtobmggabgicpgaaGreatSlL1
namespace Go.Sx.Sl
set_option linter.unusedVariables false
set_option linter.unusedSimpArgs false
open Go Go.Sx Go.Sx.Ti Go.Proofs
end Go.Sx.Sl
