/- Slots: the first that is free, by contract. -/
import Derived.Test.YtobmggabgicpgaaGreatSlA
namespace Go.Sx.Sl
set_option linter.unusedVariables false
set_option linter.unusedSimpArgs false
noncomputable section
open Go Go.Sx Go.Sx.Ti Go.Proofs
def frS:SI:=.ap 21 (.v 0) (.v 1) (.c 0) (.c 0) (.c 0) (.c 0)
def stS (c i f x:SI):SI:=.ap 8 c i f x (.c 0) (.c 0)
def chS:SB×Bool:=(.eq (.ap 22 (.v 0) (.v 1) (.v 4) (.v 5) (.v 6) (.c 0)) (.c 0),true)
def mAS:SB:=.ap 20 (.c 1) (.c 1) (.v 7) (.v 8) (.v 9) (.c 0)
def usS:SI:=.wk .i64 (.op .add (.ap 3 (.v 0) frS (.c 0) (.c 0) (.c 0) (.c 0)) (.c 1))
def acS:SI:=stS (stS (stS (stS (stS (stS (stS (stS (.v 0) frS (.c 0) usS) frS (.c 1) (.c 1)) frS (.c 2) (.v 7)) frS (.c 3) (.v 8)) frS (.c 4) (.v 9)) frS (.c 5) (.c 0)) frS (.c 6) (.c 0)) frS (.c 7) (.c 0)
def erS (cs:List (SB×Bool)) (n:Int):Out:=⟨cs,.tp [.sn,.it .i64 (.c 0),.it .i64 (.c n)],[],0,0,[]⟩
def sAcq:Con:=⟨9,[0,1,2,3,4,5,6,7,8,9],[shV,lS,.it .i64 (.v 7),.it .i64 (.v 8),.it .i64 (.v 9)],gS,i64b 4::i64b 5::i64b 6::i64b 7::i64b 8::i64b 9::bS,fS,
 [erS [(.and chS.1 mAS,false)] 2,erS [(.and chS.1 mAS,true),(.le (.c 0) frS,false)] 300,
  ⟨[(.and chS.1 mAS,true),(.le (.c 0) frS,true)],.tp [.sl (.n 0) (.c 0) (.v 1) (.d 0),.it .i64 frS,.it .i64 (.c 0)],[(0,.arr kS acS (.v 1) 55 (.d 0))],1,1,[(.le (.v 1) (.d 0),true),(.lt frS (.v 1),true)]⟩]⟩
end
end Go.Sx.Sl
