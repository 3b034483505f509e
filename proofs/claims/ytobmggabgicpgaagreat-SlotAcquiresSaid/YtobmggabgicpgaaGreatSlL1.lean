/- Slots: Late, by contract. -/
import Derived.Test.YtobmggabgicpgaaGreatSlC
import Derived.Test.YtobmggabgicpgaaGreatSlU
namespace Go.Sx.Sl
set_option linter.unusedVariables false
set_option linter.unusedSimpArgs false
noncomputable section
open Go Go.Sx Go.Sx.Ti Go.Proofs
def laS:SI:=.ap 24 (.v 0) (.v 1) (.v 7) (.c 0) (.c 0) (.c 0)
def lwS:SI:=.ap 25 (.v 0) (.v 1) (.v 7) (.c 0) (.c 0) (.c 0)
def lcS:SI:=.ap 23 (.v 0) (.v 1) (.v 7) (.c 0) (.c 0) (.c 0)
def kI1:List Kd:=[.nt .i64]
def nwB:SB:=.and chS.1 (.and (.le (.c 0) (.v 7)) (.le (.v 7) (.c 1099511627776)))
def oLat:List Out:=[⟨[(nwB,false)],.tp [.sn,.sn,.it .i64 (.c 2)],[],0,0,[]⟩,
 ⟨[(nwB,true),(.lt (.c 0) laS,false)],.tp [.sl (.n 0) (.c 0) (.v 1) (.d 0),.sn,.it .i64 (.c 0)],[(0,.arr kS lcS (.v 1) 55 (.d 0))],1,1,[(.le (.v 1) (.d 0),true)]⟩,
 ⟨[(nwB,true),(.lt (.c 0) laS,true)],.tp [.sl (.n 0) (.c 0) (.v 1) (.d 0),.sl (.n 1) (.c 0) laS (.d 1),.it .i64 (.c 0)],[(0,.arr kS lcS (.v 1) 55 (.d 0)),(1,.arr kI1 lwS laS 3 (.d 1))],2,2,[(.le (.v 1) (.d 0),true),(.le laS (.d 1),true)]⟩]
theorem eqR_row {c d n:Int} (h:eqR c d n) {j:Nat} (hj:(j:Int) < n):fl c j 0=fl d j 0∧fl c j 1=fl d j 1∧fl c j 2=fl d j 2∧fl c j 3=fl d j 3∧fl c j 4=fl d j 4∧fl c j 5=fl d j 5∧fl c j 6=fl d j 6∧flu c j 7=flu d j 7:=by
 obtain ⟨h1,h2⟩:=h j hj
 exact ⟨h1 0 (by omega),h1 1 (by omega),h1 2 (by omega),h1 3 (by omega),h1 4 (by omega),h1 5 (by omega),h1 6 (by omega),h2⟩
end
end Go.Sx.Sl
