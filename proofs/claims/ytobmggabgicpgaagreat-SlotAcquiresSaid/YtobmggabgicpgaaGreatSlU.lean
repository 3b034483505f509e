/- Slots: those that are late, plain. -/
import Derived.Test.YtobmggabgicpgaaGreatSlS
namespace Go.Sx.Sl
set_option linter.unusedSimpArgs false
set_option linter.unusedVariables false
open Go Go.Sx Go.Sx.Ti
def outI (c o:Int) (g:Nat→Int) (j:Int):Prop:=∀ k:Nat,(∀ f:Nat,f < 7→fl o k f=@ite _ (∃ t:Nat,(t:Int) < j∧g t=k) (Classical.propDecidable _) (if f=0 then fl c k 0 else if f=1 then 5 else 0) (fl c k f))∧flu o k 7=@ite _ (∃ t:Nat,(t:Int) < j∧g t=k) (Classical.propDecidable _) 0 (flu c k 7)
def rowL (c o i now:Int):Prop:=∀ k:Nat,(∀ f:Nat,f < 7→fl o k f=@ite _ ((k:Int) < i∧lateP c now k) (Classical.propDecidable _) (if f=0 then fl c k 0 else if f=1 then 5 else 0) (fl c k f))∧flu o k 7=@ite _ ((k:Int) < i∧lateP c now k) (Classical.propDecidable _) 0 (flu c k 7)
end Go.Sx.Sl
