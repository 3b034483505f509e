/- Timers: a map's keys in order, by contract. -/
import Derived.Test.YtobmggabgicpgaaGreatSlM
namespace Go.Sx.Sl
set_option linter.unusedVariables false
set_option linter.unusedSimpArgs false
open Go Go.Sx Go.Sx.Ti Go.Proofs
noncomputable def ap1 (f:Nat):SI:=.ap f (.v 0) (.c 0) (.c 0) (.c 0) (.c 0) (.c 0)
noncomputable def pb1 (f:Nat):SB:=.ap f (.v 0) (.c 0) (.c 0) (.c 0) (.c 0) (.c 0)
noncomputable def lnS:SI:=.ap 8 (.v 0) (.c 0) (.c 0) (.c 0) (.c 2) (.c 0)
noncomputable def mK:List (Nat×Bk):=[(0,.mapc .i64 .i64 (.v 0)),(1,.cells [.mp (.n 0)] 113)]
end Go.Sx.Sl
