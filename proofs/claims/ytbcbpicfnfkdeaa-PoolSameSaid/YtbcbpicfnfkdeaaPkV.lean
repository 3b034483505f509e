/- The pool: plain laws of PoolHolds. -/
import Derived.Test.YtbcbpicfnfkdeaaPkU
namespace Go.Sx.Pk
set_option linter.unusedVariables false
set_option linter.unusedSimpArgs false
open Go Go.Sx
theorem eqN_refl (c n:Int):eqN c c n:=fun j _=>Rw.refl c j
theorem row_new {x y z d:Int} {i:Nat} (hx:x=fl d i 0) (hy:y=fl d i 1):fl (setC (setC (setC 0 0 0 x) 0 1 y) 0 2 z) 0 0=x∧fl (setC (setC (setC 0 0 0 x) 0 1 y) 0 2 z) 0 1=y∧gt (setC (setC (setC 0 0 0 x) 0 1 y) 0 2 z) 0 2=z:=by
 subst hx hy
 unfold fl;simp only [gt_setI];simp [w64]
end Go.Sx.Pk
