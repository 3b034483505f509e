/- The pool: what is computed (plain). -/
import Derived.Test.YtbcbpicfnfkdeaaSxSt
namespace Go.Sx.Pk
set_option linter.unusedVariables false
set_option linter.unusedSimpArgs false
open Go Go.Sx
noncomputable def fl (c:Int) (j f:Nat):Int:=IntKind.i64.wrap (gt c j f)
noncomputable def by8 (c:Int) (j f:Nat):Int:=IntKind.u8.wrap (gt c j f)
end Go.Sx.Pk
