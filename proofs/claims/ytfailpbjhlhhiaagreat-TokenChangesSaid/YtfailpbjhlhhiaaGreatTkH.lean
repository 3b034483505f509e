/- The seat: what its program is like. -/
import Derived.Test.YtfailpbjhlhhiaaGreatSxSt
import Derived.Test.YtfailpbjhlhhiaaGreatProg
import Derived.Test.YtfailpbjhlhhiaaGreatChecked
import Derived.Lib.SmallJoins
namespace Go.Proofs.YtfailpbjhlhhiaaGreat
set_option linter.unusedVariables false
set_option linter.unusedSimpArgs false
open Go Go.ChangeShapes Go.WideShapes Go.ChangeAt Go.RowKit Go.Joins
theorem own:ownKnob Tryz.prog.godebug=none:=by kernel_rfl
theorem laid:laidOutB Tryz.prog=true:=by kernel_rfl
theorem rowed:mapsRowed Tryz.prog=true:=by kernel_rfl
theorem full:((List.range Tryz.prog.types.size).all fun t=>match Tryz.prog.underlying t with | some (.slice e)=>decide (0 < Tryz.prog.cellsOf e) | _=>true)=true:=by kernel_rfl
theorem kids:Kids Tryz.prog (· < Tryz.prog.types.size):=kids_rows laid rowed
end Go.Proofs.YtfailpbjhlhhiaaGreat
