/- Timers: TimerNone, TimerLong, by contract. -/
import Derived.Test.YtkhklaomjcgjcaaTiQ
namespace Go.Sx.Ti
set_option linter.unusedVariables false
set_option linter.unusedSimpArgs false
open Go Go.Sx Go.Proofs
end Go.Sx.Ti
