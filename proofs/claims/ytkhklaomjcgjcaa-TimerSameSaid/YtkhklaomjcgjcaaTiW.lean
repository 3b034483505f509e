/- Timers: TimerPlays, by contract. -/
import Derived.Test.YtkhklaomjcgjcaaTiV
import Derived.Test.YtkhklaomjcgjcaaTiR
import Derived.Test.YtkhklaomjcgjcaaTiX
namespace Go.Sx.Ti
set_option linter.unusedVariables false
set_option linter.unusedSimpArgs false
noncomputable section
open Go Go.Sx Go.Proofs
def kA:List Kd:=[.nt .i64,.nt .i64,.nt .i64]
def lA:SV:=.sl (.k 0) (.v 2) (.v 1) (.v 3)
def gA:List Gv:=[⟨0,.v 2,kA,0,.v 1⟩]
def bA:List (Nat×Int×Int):=[(1,0,9223372036854775807),(2,0,-1)]
def bA4:List (Nat×Int×Int):=i64b 4::bA
end
end Go.Sx.Ti
