/- Slots: the document's Right, Acquire, Same, by contract. -/
import Derived.Test.YtobmggabgicpgaaGreatSlB
import Derived.Test.YtobmggabgicpgaaGreatSlN
namespace Go.Sx.Sl
set_option linter.unusedVariables false
set_option linter.unusedSimpArgs false
noncomputable section
open Go Go.Sx Go.Sx.Ti Go.Proofs
def chE:SB:=.eq (.ap 22 (.v 0) (.v 1) (.v 4) (.v 5) (.v 6) (.c 0)) (.c 0)
def gS2:List Gv:=[⟨0,.v 2,kS,0,.v 1⟩,⟨1,.v 6,kS,4,.v 5⟩]
def lS2:SV:=.sl (.k 1) (.v 6) (.v 5) (.v 7)
def bS2:List (Nat×Int×Int):=(5,0,64)::(6,0,-1)::bS
def fS2:List (SB×Bool):=(.le (.v 5) (.v 7),true)::(.le (.c 0) (.v 7),true)::fS
end
end Go.Sx.Sl
