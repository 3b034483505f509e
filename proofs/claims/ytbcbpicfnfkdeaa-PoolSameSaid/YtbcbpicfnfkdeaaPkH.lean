/- The seat: what its program is like. -/
import Derived.Test.YtbcbpicfnfkdeaaSxSt
import Derived.Test.YtbcbpicfnfkdeaaProg
import Derived.Test.YtbcbpicfnfkdeaaChecked
import Derived.Lib.SmallJoins
namespace Go.Proofs.Ytbcbpicfnfkdeaa
set_option linter.unusedVariables false
set_option linter.unusedSimpArgs false
open Go Go.ChangeShapes Go.WideShapes Go.ChangeAt Go.RowKit Go.Joins
theorem own:ownKnob Try.prog.godebug=none:=by kernel_rfl
theorem laid:laidOutB Try.prog=true:=by kernel_rfl
theorem rowed:mapsRowed Try.prog=true:=by kernel_rfl
theorem full:((List.range Try.prog.types.size).all fun t=>match Try.prog.underlying t with | some (.slice e)=>decide (0 < Try.prog.cellsOf e) | _=>true)=true:=by kernel_rfl
theorem kids:Kids Try.prog (· < Try.prog.types.size):=kids_rows laid rowed
end Go.Proofs.Ytbcbpicfnfkdeaa
