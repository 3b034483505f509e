/- The pool: the document's answers. -/
import Derived.Test.YtbcbpicfnfkdeaaPkO
namespace Go.Sx.Pk
set_option linter.unusedVariables false
set_option linter.unusedSimpArgs false
open Go Go.Sx Go.Proofs
noncomputable def wP (i:Nat):SV:=.ag [.it .i64 (.v i),.fs 2 (.v (i+1))]
noncomputable def pk0:SV:=.ag [.it .i64 (.c 0),.it .i64 (.c 0),.fs 0 (.c 0)]
noncomputable def pkAt (c j:SI):SV:=.ag [.it .i64 (.ap 3 c j (.c 0) (.c 0) (.c 0) (.c 0)),.it .i64 (.ap 3 c j (.c 1) (.c 0) (.c 0) (.c 0)),.fs 0 (.ap 8 c j (.c 2) (.c 0) (.c 10) (.c 0))]
noncomputable def mayO (k:SI):List Out:=o1 (.it .i64 (.ap 20 (.v 0) (.v 2) (.v 3) (SI.fl (.v 4)) k (.c 0)))
end Go.Sx.Pk
