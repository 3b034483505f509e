/- Tokens: Change, Value, by contract. -/
import Derived.Test.YtfailpbjhlhhiaaGreatTkG
import Derived.Test.YtfailpbjhlhhiaaGreatTkN
namespace Go.Sx.Tk
set_option linter.unusedVariables false
set_option linter.unusedSimpArgs false
set_option maxRecDepth 100000
set_option maxHeartbeats 0
noncomputable section
open Go Go.Sx Go.Proofs
def tChg:Con:=⟨15,[0,1,2,3,4,5,6,7,8,9,10,11],[.ag [.it .i64 (.v 7),.it .i64 (.v 8),.it .i64 (.v 9)],.ag [.it .i64 (.v 0),.fs 1 (.v 1),.fs 3 (.v 2),.fs 4 (.v 3),.it .i64 (.v 4),.it .i64 (.v 5),.it .u64 (.v 6)],.it .i64 (.v 10),.it .i64 (.v 11)],[],i64b 10::i64b 11::i64b 0::i64b 4::i64b 5::u64b 6::i64b 7::i64b 8::i64b 9::[],flF 1 300::flF 2 300::flF 3 300::[],[⟨[(.eq (.ap 77 (.v 4) (.v 5) (.v 6) (.v 11) (.c 0) (.c 0)) (.c 0),true),(.eq (.ap 78 (.ap 64 (.ap 65 (.ap 63 (.c 1) (.v 7) (.v 8) (.v 9) (.v 1) (.v 0)) (.v 4) (.v 5) (.v 6) (.c 0) (.c 0)) (.v 1) (.v 2) (.v 3) (.c 0) (.c 0)) (.v 1) (.v 3) (.v 10) (.ap 77 (.v 4) (.v 5) (.v 6) (.v 11) (.c 0) (.c 0)) (.c 0)) (.c 0),true)],.tp [.ag [.it .i64 (.v 0),.fs 1 (.v 1),.fs 3 (.v 2),.fs 4 (.v 3),.it .i64 (.ap 74 (.v 4) (.v 5) (.v 6) (.v 11) (.c 0) (.c 0)),.it .i64 (.ap 75 (.v 4) (.v 5) (.v 6) (.v 11) (.c 0) (.c 0)),.it .u64 (.ap 76 (.v 4) (.v 5) (.v 6) (.v 11) (.c 0) (.c 0))],.it .i64 (.c 0)],[],0,0,[]⟩,⟨[(.eq (.ap 78 (.ap 64 (.ap 65 (.ap 63 (.c 1) (.v 7) (.v 8) (.v 9) (.v 1) (.v 0)) (.v 4) (.v 5) (.v 6) (.c 0) (.c 0)) (.v 1) (.v 2) (.v 3) (.c 0) (.c 0)) (.v 1) (.v 3) (.v 10) (.ap 77 (.v 4) (.v 5) (.v 6) (.v 11) (.c 0) (.c 0)) (.c 0)) (.c 0),false)],.tp [.ag [.it .i64 (.c 0),.sn,.sn,.sn,.it .i64 (.c 0),.it .i64 (.c 0),.it .u64 (.c 0)],.it .i64 (.ap 78 (.ap 64 (.ap 65 (.ap 63 (.c 1) (.v 7) (.v 8) (.v 9) (.v 1) (.v 0)) (.v 4) (.v 5) (.v 6) (.c 0) (.c 0)) (.v 1) (.v 2) (.v 3) (.c 0) (.c 0)) (.v 1) (.v 3) (.v 10) (.ap 77 (.v 4) (.v 5) (.v 6) (.v 11) (.c 0) (.c 0)) (.c 0))],[],0,0,[(.eq (.ap 78 (.ap 64 (.ap 65 (.ap 63 (.c 1) (.v 7) (.v 8) (.v 9) (.v 1) (.v 0)) (.v 4) (.v 5) (.v 6) (.c 0) (.c 0)) (.v 1) (.v 2) (.v 3) (.c 0) (.c 0)) (.v 1) (.v 3) (.v 10) (.ap 77 (.v 4) (.v 5) (.v 6) (.v 11) (.c 0) (.c 0)) (.c 0)) (.c 0),false)]⟩],[]⟩
def rChg:Con:=⟨16,[0,1,2,3,4,5,6,7,8,9,10,11],[.ag [.it .i64 (.v 7),.it .i64 (.v 8),.it .i64 (.v 9)],.ag [.it .i64 (.v 0),.fs 1 (.v 1),.fs 3 (.v 2),.fs 4 (.v 3),.it .i64 (.v 4),.it .i64 (.v 5),.it .u64 (.v 6)],.it .i64 (.v 10),.it .i64 (.v 11)],[],i64b 10::i64b 11::i64b 0::i64b 4::i64b 5::u64b 6::i64b 7::i64b 8::i64b 9::[],flF 1 300::flF 2 300::flF 3 300::[],[⟨[(.eq (.ap 77 (.v 4) (.v 5) (.v 6) (.v 11) (.c 0) (.c 0)) (.c 0),true),(.eq (.ap 78 (.ap 64 (.ap 65 (.ap 63 (.c 1) (.v 7) (.v 8) (.v 9) (.v 1) (.v 0)) (.v 4) (.v 5) (.v 6) (.c 0) (.c 0)) (.v 1) (.v 2) (.v 3) (.c 0) (.c 0)) (.v 1) (.v 3) (.v 10) (.ap 77 (.v 4) (.v 5) (.v 6) (.v 11) (.c 0) (.c 0)) (.c 0)) (.c 0),true)],.tp [.ag [.it .i64 (.v 0),.fs 1 (.v 1),.fs 3 (.v 2),.fs 4 (.v 3),.it .i64 (.ap 74 (.v 4) (.v 5) (.v 6) (.v 11) (.c 0) (.c 0)),.it .i64 (.ap 75 (.v 4) (.v 5) (.v 6) (.v 11) (.c 0) (.c 0)),.it .u64 (.ap 76 (.v 4) (.v 5) (.v 6) (.v 11) (.c 0) (.c 0))],.it .i64 (.c 0)],[],0,0,[]⟩,⟨[(.eq (.ap 78 (.ap 64 (.ap 65 (.ap 63 (.c 1) (.v 7) (.v 8) (.v 9) (.v 1) (.v 0)) (.v 4) (.v 5) (.v 6) (.c 0) (.c 0)) (.v 1) (.v 2) (.v 3) (.c 0) (.c 0)) (.v 1) (.v 3) (.v 10) (.ap 77 (.v 4) (.v 5) (.v 6) (.v 11) (.c 0) (.c 0)) (.c 0)) (.c 0),false)],.tp [.ag [.it .i64 (.c 0),.sn,.sn,.sn,.it .i64 (.c 0),.it .i64 (.c 0),.it .u64 (.c 0)],.it .i64 (.ap 78 (.ap 64 (.ap 65 (.ap 63 (.c 1) (.v 7) (.v 8) (.v 9) (.v 1) (.v 0)) (.v 4) (.v 5) (.v 6) (.c 0) (.c 0)) (.v 1) (.v 2) (.v 3) (.c 0) (.c 0)) (.v 1) (.v 3) (.v 10) (.ap 77 (.v 4) (.v 5) (.v 6) (.v 11) (.c 0) (.c 0)) (.c 0))],[],0,0,[(.eq (.ap 78 (.ap 64 (.ap 65 (.ap 63 (.c 1) (.v 7) (.v 8) (.v 9) (.v 1) (.v 0)) (.v 4) (.v 5) (.v 6) (.c 0) (.c 0)) (.v 1) (.v 2) (.v 3) (.c 0) (.c 0)) (.v 1) (.v 3) (.v 10) (.ap 77 (.v 4) (.v 5) (.v 6) (.v 11) (.c 0) (.c 0)) (.c 0)) (.c 0),false)]⟩],[]⟩
def tVal:Con:=⟨17,[0,1,2,3,4,5,6,7,8,9,10],[.ag [.it .i64 (.v 7),.it .i64 (.v 8),.it .i64 (.v 9)],.ag [.it .i64 (.v 0),.fs 1 (.v 1),.fs 3 (.v 2),.fs 4 (.v 3),.it .i64 (.v 4),.it .i64 (.v 5),.it .u64 (.v 6)],.it .i64 (.v 10)],[],i64b 10::i64b 0::i64b 4::i64b 5::u64b 6::i64b 7::i64b 8::i64b 9::[],flF 1 300::flF 2 300::flF 3 300::[],[⟨[(.eq (.ap 79 (.ap 64 (.ap 65 (.ap 63 (.c 1) (.v 7) (.v 8) (.v 9) (.v 1) (.v 0)) (.v 4) (.v 5) (.v 6) (.c 0) (.c 0)) (.v 1) (.v 2) (.v 3) (.c 0) (.c 0)) (.v 1) (.v 3) (.v 10) (.c 0) (.c 0)) (.c 0),true)],.tp [.it .i64 (.v 4),.it .i64 (.c 0)],[],0,0,[]⟩,⟨[(.eq (.ap 79 (.ap 64 (.ap 65 (.ap 63 (.c 1) (.v 7) (.v 8) (.v 9) (.v 1) (.v 0)) (.v 4) (.v 5) (.v 6) (.c 0) (.c 0)) (.v 1) (.v 2) (.v 3) (.c 0) (.c 0)) (.v 1) (.v 3) (.v 10) (.c 0) (.c 0)) (.c 0),false)],.tp [.it .i64 (.c 0),.it .i64 (.ap 79 (.ap 64 (.ap 65 (.ap 63 (.c 1) (.v 7) (.v 8) (.v 9) (.v 1) (.v 0)) (.v 4) (.v 5) (.v 6) (.c 0) (.c 0)) (.v 1) (.v 2) (.v 3) (.c 0) (.c 0)) (.v 1) (.v 3) (.v 10) (.c 0) (.c 0))],[],0,0,[(.eq (.ap 79 (.ap 64 (.ap 65 (.ap 63 (.c 1) (.v 7) (.v 8) (.v 9) (.v 1) (.v 0)) (.v 4) (.v 5) (.v 6) (.c 0) (.c 0)) (.v 1) (.v 2) (.v 3) (.c 0) (.c 0)) (.v 1) (.v 3) (.v 10) (.c 0) (.c 0)) (.c 0),false)]⟩],[]⟩
def rVal:Con:=⟨18,[0,1,2,3,4,5,6,7,8,9,10],[.ag [.it .i64 (.v 7),.it .i64 (.v 8),.it .i64 (.v 9)],.ag [.it .i64 (.v 0),.fs 1 (.v 1),.fs 3 (.v 2),.fs 4 (.v 3),.it .i64 (.v 4),.it .i64 (.v 5),.it .u64 (.v 6)],.it .i64 (.v 10)],[],i64b 10::i64b 0::i64b 4::i64b 5::u64b 6::i64b 7::i64b 8::i64b 9::[],flF 1 300::flF 2 300::flF 3 300::[],[⟨[(.eq (.ap 79 (.ap 64 (.ap 65 (.ap 63 (.c 1) (.v 7) (.v 8) (.v 9) (.v 1) (.v 0)) (.v 4) (.v 5) (.v 6) (.c 0) (.c 0)) (.v 1) (.v 2) (.v 3) (.c 0) (.c 0)) (.v 1) (.v 3) (.v 10) (.c 0) (.c 0)) (.c 0),true)],.tp [.it .i64 (.v 4),.it .i64 (.c 0)],[],0,0,[]⟩,⟨[(.eq (.ap 79 (.ap 64 (.ap 65 (.ap 63 (.c 1) (.v 7) (.v 8) (.v 9) (.v 1) (.v 0)) (.v 4) (.v 5) (.v 6) (.c 0) (.c 0)) (.v 1) (.v 2) (.v 3) (.c 0) (.c 0)) (.v 1) (.v 3) (.v 10) (.c 0) (.c 0)) (.c 0),false)],.tp [.it .i64 (.c 0),.it .i64 (.ap 79 (.ap 64 (.ap 65 (.ap 63 (.c 1) (.v 7) (.v 8) (.v 9) (.v 1) (.v 0)) (.v 4) (.v 5) (.v 6) (.c 0) (.c 0)) (.v 1) (.v 2) (.v 3) (.c 0) (.c 0)) (.v 1) (.v 3) (.v 10) (.c 0) (.c 0))],[],0,0,[(.eq (.ap 79 (.ap 64 (.ap 65 (.ap 63 (.c 1) (.v 7) (.v 8) (.v 9) (.v 1) (.v 0)) (.v 4) (.v 5) (.v 6) (.c 0) (.c 0)) (.v 1) (.v 2) (.v 3) (.c 0) (.c 0)) (.v 1) (.v 3) (.v 10) (.c 0) (.c 0)) (.c 0),false)]⟩],[]⟩
def tChg_L0:List Lf:=
 let x0_:SI:=(.ap 200 (.v 1) (.c 0) (.c 0) (.c 0) (.c 0) (.c 0))
 let x1_:SI:=(.ap 200 (.v 2) (.c 0) (.c 0) (.c 0) (.c 0) (.c 0))
 let x2_:SI:=(.ap 200 (.v 3) (.c 0) (.c 0) (.c 0) (.c 0) (.c 0))
 let x3_:SI:=(.ap 77 (.v 4) (.v 5) (.v 6) (.v 11) (.c 0) (.c 0))
 let x4_:SI:=(.wk .i64 (.op .add x0_ (.c (-1))))
 let x5_:SI:=(.ap 21 (.v 3) x2_ (.v 10) (.c 0) (.c 0) (.c 0))
 let x6_:SI:=(.ap 64 (.ap 65 (.ap 63 (.c 1) (.v 7) (.v 8) (.v 9) (.v 1) (.v 0)) (.v 4) (.v 5) (.v 6) (.c 0) (.c 0)) (.v 1) (.v 2) (.v 3) (.c 0) (.c 0))
 let x7_:SI:=(.ap 3 (.v 3) x5_ (.c 2) (.c 0) (.c 0) (.c 0))
 let x8_:SI:=(.ap 78 x6_ (.v 1) (.v 3) (.v 10) x3_ (.c 0))
 let f0_:List (SB×Bool):=[((.le x0_ (.c 300)),.true),((.le x1_ (.c 300)),.true),((.le x2_ (.c 300)),.true)]
 let f1_:List (SB×Bool):=((.le (.c 1) (.v 7)),.true)::((.le (.v 7) (.c 64)),.true)::((.le (.c 1) (.v 8)),.true)::((.le (.v 8) (.c 8)),.true)::((.le (.c 1) (.v 9)),.true)::((.le (.v 9) (.c 4)),.true)::((.eq x0_ (.op .mul (.v 7) (.v 9))),.true)::((.le (.c 0) (.v 0)),.true)::((.le (.v 0) (.c 1099511627776)),.true)::((.ap 42 (.v 7) (.v 8) (.v 9) (.v 1) (.v 0) (.c 0)),.true)::f0_
 let f2_:List (SB×Bool):=((.le (.v 5) (.v 4)),.true)::f1_
 let f3_:List (SB×Bool):=((.le (.v 6) (.c 4611686018427387904)),.true)::f2_
 let f4_:List (SB×Bool):=((.ap 30 (.v 2) x1_ (.c 0) (.c 0) (.c 0) (.c 0)),.true)::((.ap 20 (.v 3) x2_ (.c 0) (.c 0) (.c 0) (.c 0)),.true)::((.le x1_ (.c 256)),.true)::((.le x2_ (.c 256)),.true)::((.ap 43 (.v 1) (.v 2) (.v 3) (.c 0) (.c 0) (.c 0)),.true)::f3_
 let f5_:List (SB×Bool):=((.le (.c 0) (.v 10)),.true)::f4_
 let f6_:List (SB×Bool):=((.le (.v 10) x4_),.true)::f5_
 let f7_:List (SB×Bool):=((.lt x5_ x2_),.true)::((.le (.c 0) x5_),.true)::((.ap 25 (.v 3) x2_ (.v 10) (.c 0) (.c 0) (.c 0)),.true)::f6_
 let f8_:List (SB×Bool):=((.eq x7_ (.c 5)),.true)::f7_
 [(.fin (((.eq x3_ (.c 0)),.true)::f8_) 0 ⟨⟨[],[]⟩,[],[],[]⟩ [] []),
  (.fin (((.eq x3_ (.c 0)),.false)::f8_) 1 ⟨⟨[],[]⟩,[],[],[]⟩ [(.ei (.ap 78 x6_ (.v 1) (.v 3) (.v 10) x3_ (.c 0)) (.ap 77 (.v 4) (.v 5) (.v 6) (.v 11) (.c 0) (.c 0))),(.fa (.eq x8_ (.c 0)) .false)] []),
  (.fin (((.eq x7_ (.c 5)),.false)::f7_) 1 ⟨⟨[],[]⟩,[],[],[]⟩ [(.ei (.ap 78 x6_ (.v 1) (.v 3) (.v 10) x3_ (.c 0)) (.c 240)),(.fa (.eq x8_ (.c 0)) .false)] []),
  (.fin (((.ap 25 (.v 3) x2_ (.v 10) (.c 0) (.c 0) (.c 0)),.false)::f6_) 1 ⟨⟨[],[]⟩,[],[],[]⟩ [(.ei (.ap 78 x6_ (.v 1) (.v 3) (.v 10) x3_ (.c 0)) (.c 240)),(.fa (.eq x8_ (.c 0)) .false)] []),
  (.fin (((.le (.v 10) x4_),.false)::f5_) 1 ⟨⟨[],[]⟩,[],[],[]⟩ [(.ei (.ap 78 x6_ (.v 1) (.v 3) (.v 10) x3_ (.c 0)) (.c 2)),(.fa (.eq x8_ (.c 0)) .false)] []),
  (.fin (((.le (.c 0) (.v 10)),.false)::f4_) 1 ⟨⟨[],[]⟩,[],[],[]⟩ [(.ei (.ap 78 x6_ (.v 1) (.v 3) (.v 10) x3_ (.c 0)) (.c 2)),(.fa (.eq x8_ (.c 0)) .false)] []),
  (.fin (((.ap 43 (.v 1) (.v 2) (.v 3) (.c 0) (.c 0) (.c 0)),.false)::f3_) 1 ⟨⟨[],[]⟩,[],[],[]⟩ [(.ei (.ap 78 x6_ (.v 1) (.v 3) (.v 10) x3_ (.c 0)) (.c 2)),(.fa (.eq x8_ (.c 0)) .false)] []),
  (.fin (((.le (.v 6) (.c 4611686018427387904)),.false)::f2_) 1 ⟨⟨[],[]⟩,[],[],[]⟩ [(.ei (.ap 78 x6_ (.v 1) (.v 3) (.v 10) x3_ (.c 0)) (.c 2)),(.fa (.eq x8_ (.c 0)) .false)] []),
  (.fin (((.le (.v 5) (.v 4)),.false)::f1_) 1 ⟨⟨[],[]⟩,[],[],[]⟩ [(.ei (.ap 78 x6_ (.v 1) (.v 3) (.v 10) x3_ (.c 0)) (.c 2)),(.fa (.eq x8_ (.c 0)) .false)] []),
  (.fin (((.ap 42 (.v 7) (.v 8) (.v 9) (.v 1) (.v 0) (.c 0)),.false)::f0_) 1 ⟨⟨[],[]⟩,[],[],[]⟩ [(.ei (.ap 78 x6_ (.v 1) (.v 3) (.v 10) x3_ (.c 0)) (.c 2)),(.fa (.eq x8_ (.c 0)) .false)] [])]
def tChg_run (T:Tm):=(ex (ccOf Tryz.prog BF [29,73,75,100] tChg) ((fun cc=>[cC1.ent cc,cC3.ent cc,cC4.ent cc,tSites.ent cc,tLists.ent cc,hFind.ent cc,eX.ent cc]) (ccOf Tryz.prog BF [29,73,75,100] tChg)) (dw (ccOf Tryz.prog BF [29,73,75,100] tChg) ((fun cc=>[cC1.ent cc,cC3.ent cc,cC4.ent cc,tSites.ent cc,tLists.ent cc,hFind.ent cc,eX.ent cc]) (ccOf Tryz.prog BF [29,73,75,100] tChg)) 2000 12) (stopX [0,1,2,3,4,5,6,7,8,9,10,11,12,13,14,15,16,17,18,19,20,21,22,23,24,25,26,27,28,29,30,31,32,33,34,35,36,37,38,39,40,41,42,43,44,45,46,47,48,49,50,51,52,53,54,55,56,57,58,59,60,61,62,63,64,65,66,67,68,69,70,71,72,73,74,75,76,77,78,79,80,81,82,83,84,85,86,87,88,89,90,91,92,93,94,95,96,97,98,99,100,101,102,103,104,105,106,107,108,109,110,111,112,113,114,115,116,117,118,119,120,121,122,123,124,125,126,127,128,129,130,131,132,133,134,135,136,137,138,139,140,141,142,143,144,145,146,147,148,149,150,151,152,153,154,155,156,157,158,159,160,161,162,163,164,165,166,167,168,169,170,171,172,173,174,175,176,177,178,179,180,181,182,183,184,185,186,187,188,189,190,191,192,193,194,195,196,197,198,199,200,201,202,203,204,205,206,207,208,209,210,211,212,213,214,215,216,217,218,219,220,221,222,223,224,225,226,227,228,229,230,231,232,233,234,235,236,237,238,239,240,241,242,243,244,245,246,247,248,249,250,251,252,253,254,255,256,257,258,259,260,261,262,263,264,265,266,267,268,269,270,271,272,273,274,275,276,277,278,279,280,281,282,283,284,285,286,287,288,289,290,291,292,293,294,295,296,297,298,299,300,301,302,303,304,305,306,307,308,309,310,311,312,313,314,315,316,317,318,319,320,321,322,323,324,325,326,327,328,329,330,331,332,333,334,335,336,337,338,339,340,341,342,343,344,345,346,347,348,349,350,351,352,353,354,355,356,357,358,359,360,361,362,363,364,365,366,367,368,369,370,371,372,373,374,375,376,377,378,379,380,381,382,383,384,385,386,387,388,389,390,391,392,393,394,395,396,397,398,399]) 20000 T.f T.fs T.H).lfs (ccOf Tryz.prog BF [29,73,75,100] tChg) ((tm0 tChg Tryz.f15 (Tryz.f15.body.getD .skip))::[]) tChg.os
theorem tChg_h0:tChg_run (tm0 tChg Tryz.f15 (Tryz.f15.body.getD .skip))=some tChg_L0:=by kernel_rfl
def tChg_inv:(Nat→Int)→(Nat→Bool)→Nat→(Nat→Int)→(Nat→Bool)→Prop:=fun _ _ _ _ _=>True
def tChg_mu:(Nat→Int)→(Nat→Bool)→Nat→(Nat→Int)→(Nat→Bool)→Nat:=fun _ _ _ _ _=>0
theorem tChg_b {iv0:Nat→Int} (hin:InB tChg.B iv0):((-9223372036854775808)≤iv0 4∧iv0 4≤9223372036854775807)∧((-9223372036854775808)≤iv0 5∧iv0 5≤9223372036854775807)∧((-9223372036854775808)≤iv0 7∧iv0 7≤9223372036854775807)∧((-9223372036854775808)≤iv0 8∧iv0 8≤9223372036854775807)∧((-9223372036854775808)≤iv0 9∧iv0 9≤9223372036854775807)∧((-9223372036854775808)≤iv0 10∧iv0 10≤9223372036854775807)∧((-9223372036854775808)≤iv0 11∧iv0 11≤9223372036854775807)∧(0≤iv0 6∧iv0 6≤18446744073709551615):=by
 have b4:=hin 4 (-9223372036854775808) 9223372036854775807 (by simp [tChg,o1,u64b,liF,flF,fH,lH,apN,pbN,apM,pbM,oMo,rowV,zeroV,i64b,SI.fl,flay,flayL,lW,mayV,ints,i64s,lmap])
 simp only [Int.reduceLE,reduceIte,Int.reduceNeg] at b4
 have b5:=hin 5 (-9223372036854775808) 9223372036854775807 (by simp [tChg,o1,u64b,liF,flF,fH,lH,apN,pbN,apM,pbM,oMo,rowV,zeroV,i64b,SI.fl,flay,flayL,lW,mayV,ints,i64s,lmap])
 simp only [Int.reduceLE,reduceIte,Int.reduceNeg] at b5
 have b7:=hin 7 (-9223372036854775808) 9223372036854775807 (by simp [tChg,o1,u64b,liF,flF,fH,lH,apN,pbN,apM,pbM,oMo,rowV,zeroV,i64b,SI.fl,flay,flayL,lW,mayV,ints,i64s,lmap])
 simp only [Int.reduceLE,reduceIte,Int.reduceNeg] at b7
 have b8:=hin 8 (-9223372036854775808) 9223372036854775807 (by simp [tChg,o1,u64b,liF,flF,fH,lH,apN,pbN,apM,pbM,oMo,rowV,zeroV,i64b,SI.fl,flay,flayL,lW,mayV,ints,i64s,lmap])
 simp only [Int.reduceLE,reduceIte,Int.reduceNeg] at b8
 have b9:=hin 9 (-9223372036854775808) 9223372036854775807 (by simp [tChg,o1,u64b,liF,flF,fH,lH,apN,pbN,apM,pbM,oMo,rowV,zeroV,i64b,SI.fl,flay,flayL,lW,mayV,ints,i64s,lmap])
 simp only [Int.reduceLE,reduceIte,Int.reduceNeg] at b9
 have b10:=hin 10 (-9223372036854775808) 9223372036854775807 (by simp [tChg,o1,u64b,liF,flF,fH,lH,apN,pbN,apM,pbM,oMo,rowV,zeroV,i64b,SI.fl,flay,flayL,lW,mayV,ints,i64s,lmap])
 simp only [Int.reduceLE,reduceIte,Int.reduceNeg] at b10
 have b11:=hin 11 (-9223372036854775808) 9223372036854775807 (by simp [tChg,o1,u64b,liF,flF,fH,lH,apN,pbN,apM,pbM,oMo,rowV,zeroV,i64b,SI.fl,flay,flayL,lW,mayV,ints,i64s,lmap])
 simp only [Int.reduceLE,reduceIte,Int.reduceNeg] at b11
 have b6:=hin 6 0 18446744073709551615 (by simp [tChg,o1,u64b,liF,flF,fH,lH,apN,pbN,apM,pbM,oMo,rowV,zeroV,i64b,SI.fl,flay,flayL,lW,mayV,ints,i64s,lmap])
 simp only [Int.reduceLE,reduceIte,Int.reduceNeg] at b6
 exact ⟨b4,b5,b7,b8,b9,b10,b11,b6⟩
def tChg_ob (k:Nat) (l:List Lf):Prop:=∀ (kv:Kv) (iv0:Nat→Int) (bv0:Nat→Bool),InB tChg.B iv0→FT (sta FI FB kv iv0 bv0) (dlt dyn0) tChg.F→∀ (iv:Nat→Int) (bv:Nat→Bool),Agr 12 iv0 bv0 iv bv→tChg_inv iv0 bv0 k iv bv→∀ lf∈l,LfT (sta FI FB kv) tChg.os (tChg_inv iv0 bv0) (tChg_mu iv0 bv0) k iv bv lf
theorem tChg_o0:tChg_ob 0 tChg_L0:=by
 intro kv iv0 bv0 hin hF iv bv ha hi
 unfold tChg_L0
 refine List.forall_mem_cons.2 ⟨?_,List.forall_mem_cons.2 ⟨?_,List.forall_mem_cons.2 ⟨?_,List.forall_mem_cons.2 ⟨?_,List.forall_mem_cons.2 ⟨?_,List.forall_mem_cons.2 ⟨?_,List.forall_mem_cons.2 ⟨?_,List.forall_mem_cons.2 ⟨?_,List.forall_mem_cons.2 ⟨?_,List.forall_mem_cons.2 ⟨?_,List.forall_mem_nil _⟩⟩⟩⟩⟩⟩⟩⟩⟩⟩
 all_goals
  intro δ hf
 all_goals
  obtain ⟨b4,b5,b7,b8,b9,b10,b11,b6⟩:=tChg_b hin
 all_goals
  have a0:=ha.1 0 (by omega)
  have a1:=ha.1 1 (by omega)
  have a2:=ha.1 2 (by omega)
  have a3:=ha.1 3 (by omega)
  have a4:=ha.1 4 (by omega)
  have a5:=ha.1 5 (by omega)
  have a6:=ha.1 6 (by omega)
  have a7:=ha.1 7 (by omega)
  have a8:=ha.1 8 (by omega)
  have a9:=ha.1 9 (by omega)
  have a10:=ha.1 10 (by omega)
  have a11:=ha.1 11 (by omega)
 all_goals
  simp only [FT,TP,SB.tp,SI.tv,sta,IB.eval,and_true,true_and,ObsT,Ob.Tv,rowT,kix,In.tiv,↓tbvT,In.tbv,get_cons,get_nil,reduceIte,Nat.reduceEqDiff,Int.reduceToNat,Int.reduceAdd,Int.reduceSub,Int.reduceLE,Int.reduceLT,Int.reduceEq,ne_eq,Bool.false_eq_true,not_true_eq_false,not_false_eq_true,true_iff,false_iff,iff_true,iff_false,false_implies,implies_true,decT,decide_true,decide_false,Bool.decide_eq_true,ap2,pb2,FI_3,FI_3g,FI_4,FI_8,FI_8m,FI_9,FI_8c,FI_8z,FI_200,FB_0,FB_2,Int.toNat_natCast,Int.toNat_zero,FI_10,FI_20,FI_21,FI_63,FI_64,FI_65,FI_74,FI_75,FI_76,FI_77,FI_78,FB_10,FB_20,FB_25,FB_30,FB_42,FB_43,tChg_inv,tChg_mu,tChg,o1,othT,o1,u64b,liF,flF,fH,lH,apN,pbN,apM,pbM,oMo,rowV,zeroV,i64b,SI.fl,flay,flayL,lW,mayV,ints,i64s,lmap,a0,a1,a2,a3,a4,a5,a6,a7,a8,a9,a10,a11] at hf hi ⊢
 all_goals
  have n1:=flenC_nn (iv0 1)
 all_goals
  have n2:=flenC_nn (iv0 2)
 all_goals
  have n3:=flenC_nn (iv0 3)
 all_goals
  have hz:((andT (andC (andS 1 (iv0 7) (iv0 8) (iv0 9) (iv0 1) (iv0 0)) (iv0 4) (iv0 5) (iv0 6)) (iv0 1) (iv0 2) (iv0 3))=1)=(((True∧sitR (iv0 7) (iv0 8) (iv0 9) (iv0 1) (iv0 0))∧iv0 5≤iv0 4∧iv0 6≤4611686018427387904)∧lisR (iv0 1) (iv0 2) (iv0 3)):=by rw [andT_one,andC_one,andS_one,eq_self_iff_true]
 all_goals
  have w9:flenC (iv0 1)≤300→IntKind.i64.wrap (flenC (iv0 1)+-1)=flenC (iv0 1)+-1:=fun _=>by rw [wrap_i64];omega
 all_goals
  have m1:=@modA_is (iv0 3) (iv0 10)
 all_goals
  have m2:=@modA_no (iv0 3) (iv0 10)
 all_goals
  have k0:=@chgE_ok (andT (andC (andS 1 (iv0 7) (iv0 8) (iv0 9) (iv0 1) (iv0 0)) (iv0 4) (iv0 5) (iv0 6)) (iv0 1) (iv0 2) (iv0 3)) (iv0 1) (iv0 3) (iv0 10) (xE (iv0 4) (iv0 5) (iv0 6) (iv0 11))
 all_goals
  have k1:=@chgE_2 (andT (andC (andS 1 (iv0 7) (iv0 8) (iv0 9) (iv0 1) (iv0 0)) (iv0 4) (iv0 5) (iv0 6)) (iv0 1) (iv0 2) (iv0 3)) (iv0 1) (iv0 3) (iv0 10) (xE (iv0 4) (iv0 5) (iv0 6) (iv0 11))
 all_goals
  have k2:=@chgE_w (andT (andC (andS 1 (iv0 7) (iv0 8) (iv0 9) (iv0 1) (iv0 0)) (iv0 4) (iv0 5) (iv0 6)) (iv0 1) (iv0 2) (iv0 3)) (iv0 1) (iv0 3) (iv0 10) (xE (iv0 4) (iv0 5) (iv0 6) (iv0 11))
 all_goals
  have x0:=xE_in (iv0 4) (iv0 5) (iv0 6) (iv0 11)
 all_goals
  try simp only [hasP] at hf ⊢
 all_goals
  (repeat' (with_reducible apply And.intro))<;>first
  | omega
  | assumption
  | (unfold inM;omega)
  | exact trivial
  | (clear hin hF ha;grind)
theorem tChg_c:LsC ((tm0 tChg Tryz.f15 (Tryz.f15.body.getD .skip))::[]) tChg.os [tChg_L0]:=by
 unfold tChg_L0
 exact ⟨List.forall_mem_cons.2 ⟨⟨⟨_,rfl,rfl⟩,by kernel_rfl⟩,List.forall_mem_cons.2 ⟨⟨⟨_,rfl,rfl⟩,by kernel_rfl⟩,List.forall_mem_cons.2 ⟨⟨⟨_,rfl,rfl⟩,by kernel_rfl⟩,List.forall_mem_cons.2 ⟨⟨⟨_,rfl,rfl⟩,by kernel_rfl⟩,List.forall_mem_cons.2 ⟨⟨⟨_,rfl,rfl⟩,by kernel_rfl⟩,List.forall_mem_cons.2 ⟨⟨⟨_,rfl,rfl⟩,by kernel_rfl⟩,List.forall_mem_cons.2 ⟨⟨⟨_,rfl,rfl⟩,by kernel_rfl⟩,List.forall_mem_cons.2 ⟨⟨⟨_,rfl,rfl⟩,by kernel_rfl⟩,List.forall_mem_cons.2 ⟨⟨⟨_,rfl,rfl⟩,by kernel_rfl⟩,List.forall_mem_cons.2 ⟨⟨⟨_,rfl,rfl⟩,by kernel_rfl⟩,List.forall_mem_nil _⟩⟩⟩⟩⟩⟩⟩⟩⟩⟩,trivial⟩
theorem tChg_ok:tChg.Ok Tryz.prog FI FB:=
 Con.of_plain (body:=Tryz.f15.body.getD .skip) pok fiok (EntsFor.cons cC1_ok (EntsFor.cons cC3_ok (EntsFor.cons cC4_ok (EntsFor.cons tSites_ok (EntsFor.cons tLists_ok (EntsFor.cons hFind_ok (EntsFor.cons eX_ok EntsFor.nil))))))) tChg Tryz.func15 (by kernel_rfl) 12 [] (by kernel_rfl) [tChg_L0] ⟨tChg_h0,trivial⟩ tChg_c
  tChg_inv tChg_mu (fun _ _ _=>trivial) fun kv iv0 bv0 hin hF k l iv bv hk ha hi=>match k,hk,hi with
  | 0,hk,hi=>by
    cases hk
    exact tChg_o0 kv iv0 bv0 hin hF iv bv ha hi
  | k+1,hk,_=>by simp at hk
def rChg_L0:List Lf:=
 let x0_:SI:=(.ap 200 (.v 1) (.c 0) (.c 0) (.c 0) (.c 0) (.c 0))
 let x1_:SI:=(.ap 200 (.v 3) (.c 0) (.c 0) (.c 0) (.c 0) (.c 0))
 let x2_:SI:=(.ap 77 (.v 4) (.v 5) (.v 6) (.v 11) (.c 0) (.c 0))
 let x3_:SI:=(.ap 21 (.v 3) x1_ (.v 10) (.c 0) (.c 0) (.c 0))
 let x4_:SI:=(.ap 64 (.ap 65 (.ap 63 (.c 1) (.v 7) (.v 8) (.v 9) (.v 1) (.v 0)) (.v 4) (.v 5) (.v 6) (.c 0) (.c 0)) (.v 1) (.v 2) (.v 3) (.c 0) (.c 0))
 let x5_:SI:=(.ap 3 (.v 3) x3_ (.c 2) (.c 0) (.c 0) (.c 0))
 let x6_:SI:=(.ap 78 x4_ (.v 1) (.v 3) (.v 10) x2_ (.c 0))
 let f0_:List (SB×Bool):=[((.le x0_ (.c 300)),.true),((.le (.ap 200 (.v 2) (.c 0) (.c 0) (.c 0) (.c 0) (.c 0)) (.c 300)),.true),((.le x1_ (.c 300)),.true)]
 let f1_:List (SB×Bool):=((.eq x4_ (.c 1)),.true)::f0_
 let f2_:List (SB×Bool):=((.lt (.v 10) (.c 0)),.false)::f1_
 let f3_:List (SB×Bool):=((.lt x3_ x1_),.true)::((.le (.c (-1)) x3_),.true)::((.le x0_ (.v 10)),.false)::f2_
 let f4_:List (SB×Bool):=((.le (.c 0) x3_),.true)::f3_
 let f5_:List (SB×Bool):=((.eq x5_ (.c 5)),.true)::f4_
 [(.fin (((.lt (.v 10) (.c 0)),.true)::f1_) 1 ⟨⟨[],[]⟩,[],[],[]⟩ [(.ei (.ap 78 x4_ (.v 1) (.v 3) (.v 10) x2_ (.c 0)) (.c 2)),(.fa (.eq x6_ (.c 0)) .false)] []),
  (.fin (((.le x0_ (.v 10)),.true)::f2_) 1 ⟨⟨[],[]⟩,[],[],[]⟩ [(.ei (.ap 78 x4_ (.v 1) (.v 3) (.v 10) x2_ (.c 0)) (.c 2)),(.fa (.eq x6_ (.c 0)) .false)] []),
  (.fin (((.eq x2_ (.c 0)),.true)::f5_) 0 ⟨⟨[],[]⟩,[],[],[]⟩ [] []),
  (.fin (((.eq x2_ (.c 0)),.false)::f5_) 1 ⟨⟨[],[]⟩,[],[],[]⟩ [(.ei (.ap 78 x4_ (.v 1) (.v 3) (.v 10) x2_ (.c 0)) (.ap 77 (.v 4) (.v 5) (.v 6) (.v 11) (.c 0) (.c 0))),(.fa (.eq x6_ (.c 0)) .false)] []),
  (.fin (((.eq x5_ (.c 5)),.false)::f4_) 1 ⟨⟨[],[]⟩,[],[],[]⟩ [(.ei (.ap 78 x4_ (.v 1) (.v 3) (.v 10) x2_ (.c 0)) (.c 240)),(.fa (.eq x6_ (.c 0)) .false)] []),
  (.fin (((.le (.c 0) x3_),.false)::f3_) 1 ⟨⟨[],[]⟩,[],[],[]⟩ [(.ei (.ap 78 x4_ (.v 1) (.v 3) (.v 10) x2_ (.c 0)) (.c 240)),(.fa (.eq x6_ (.c 0)) .false)] []),
  (.fin (((.eq x4_ (.c 1)),.false)::f0_) 1 ⟨⟨[],[]⟩,[],[],[]⟩ [(.ei (.ap 78 x4_ (.v 1) (.v 3) (.v 10) x2_ (.c 0)) (.c 2)),(.fa (.eq x6_ (.c 0)) .false)] [])]
def rChg_run (T:Tm):=(ex (ccOf Tryz.prog BF [29,73,75,100] rChg) ((fun cc=>[rRt.ent cc,rFind.ent cc,rX.ent cc,rCopy.ent cc]) (ccOf Tryz.prog BF [29,73,75,100] rChg)) (dw (ccOf Tryz.prog BF [29,73,75,100] rChg) ((fun cc=>[rRt.ent cc,rFind.ent cc,rX.ent cc,rCopy.ent cc]) (ccOf Tryz.prog BF [29,73,75,100] rChg)) 2000 12) (stopX [0,1,2,3,4,5,6,7,8,9,10,11,12,13,14,15,16,17,18,19,20,21,22,23,24,25,26,27,28,29,30,31,32,33,34,35,36,37,38,39,40,41,42,43,44,45,46,47,48,49,50,51,52,53,54,55,56,57,58,59,60,61,62,63,64,65,66,67,68,69,70,71,72,73,74,75,76,77,78,79,80,81,82,83,84,85,86,87,88,89,90,91,92,93,94,95,96,97,98,99,100,101,102,103,104,105,106,107,108,109,110,111,112,113,114,115,116,117,118,119,120,121,122,123,124,125,126,127,128,129,130,131,132,133,134,135,136,137,138,139,140,141,142,143,144,145,146,147,148,149,150,151,152,153,154,155,156,157,158,159,160,161,162,163,164,165,166,167,168,169,170,171,172,173,174,175,176,177,178,179,180,181,182,183,184,185,186,187,188,189,190,191,192,193,194,195,196,197,198,199,200,201,202,203,204,205,206,207,208,209,210,211,212,213,214,215,216,217,218,219,220,221,222,223,224,225,226,227,228,229,230,231,232,233,234,235,236,237,238,239,240,241,242,243,244,245,246,247,248,249,250,251,252,253,254,255,256,257,258,259,260,261,262,263,264,265,266,267,268,269,270,271,272,273,274,275,276,277,278,279,280,281,282,283,284,285,286,287,288,289,290,291,292,293,294,295,296,297,298,299,300,301,302,303,304,305,306,307,308,309,310,311,312,313,314,315,316,317,318,319,320,321,322,323,324,325,326,327,328,329,330,331,332,333,334,335,336,337,338,339,340,341,342,343,344,345,346,347,348,349,350,351,352,353,354,355,356,357,358,359,360,361,362,363,364,365,366,367,368,369,370,371,372,373,374,375,376,377,378,379,380,381,382,383,384,385,386,387,388,389,390,391,392,393,394,395,396,397,398,399]) 20000 T.f T.fs T.H).lfs (ccOf Tryz.prog BF [29,73,75,100] rChg) ((tm0 rChg Tryz.f16 (Tryz.f16.body.getD .skip))::[]) rChg.os
theorem rChg_h0:rChg_run (tm0 rChg Tryz.f16 (Tryz.f16.body.getD .skip))=some rChg_L0:=by kernel_rfl
def rChg_inv:(Nat→Int)→(Nat→Bool)→Nat→(Nat→Int)→(Nat→Bool)→Prop:=fun _ _ _ _ _=>True
def rChg_mu:(Nat→Int)→(Nat→Bool)→Nat→(Nat→Int)→(Nat→Bool)→Nat:=fun _ _ _ _ _=>0
theorem rChg_b {iv0:Nat→Int} (hin:InB rChg.B iv0):((-9223372036854775808)≤iv0 4∧iv0 4≤9223372036854775807)∧((-9223372036854775808)≤iv0 5∧iv0 5≤9223372036854775807)∧((-9223372036854775808)≤iv0 7∧iv0 7≤9223372036854775807)∧((-9223372036854775808)≤iv0 8∧iv0 8≤9223372036854775807)∧((-9223372036854775808)≤iv0 9∧iv0 9≤9223372036854775807)∧((-9223372036854775808)≤iv0 10∧iv0 10≤9223372036854775807)∧((-9223372036854775808)≤iv0 11∧iv0 11≤9223372036854775807)∧(0≤iv0 6∧iv0 6≤18446744073709551615):=by
 have b4:=hin 4 (-9223372036854775808) 9223372036854775807 (by simp [rChg,o1,u64b,liF,flF,fH,lH,apN,pbN,apM,pbM,oMo,rowV,zeroV,i64b,SI.fl,flay,flayL,lW,mayV,ints,i64s,lmap])
 simp only [Int.reduceLE,reduceIte,Int.reduceNeg] at b4
 have b5:=hin 5 (-9223372036854775808) 9223372036854775807 (by simp [rChg,o1,u64b,liF,flF,fH,lH,apN,pbN,apM,pbM,oMo,rowV,zeroV,i64b,SI.fl,flay,flayL,lW,mayV,ints,i64s,lmap])
 simp only [Int.reduceLE,reduceIte,Int.reduceNeg] at b5
 have b7:=hin 7 (-9223372036854775808) 9223372036854775807 (by simp [rChg,o1,u64b,liF,flF,fH,lH,apN,pbN,apM,pbM,oMo,rowV,zeroV,i64b,SI.fl,flay,flayL,lW,mayV,ints,i64s,lmap])
 simp only [Int.reduceLE,reduceIte,Int.reduceNeg] at b7
 have b8:=hin 8 (-9223372036854775808) 9223372036854775807 (by simp [rChg,o1,u64b,liF,flF,fH,lH,apN,pbN,apM,pbM,oMo,rowV,zeroV,i64b,SI.fl,flay,flayL,lW,mayV,ints,i64s,lmap])
 simp only [Int.reduceLE,reduceIte,Int.reduceNeg] at b8
 have b9:=hin 9 (-9223372036854775808) 9223372036854775807 (by simp [rChg,o1,u64b,liF,flF,fH,lH,apN,pbN,apM,pbM,oMo,rowV,zeroV,i64b,SI.fl,flay,flayL,lW,mayV,ints,i64s,lmap])
 simp only [Int.reduceLE,reduceIte,Int.reduceNeg] at b9
 have b10:=hin 10 (-9223372036854775808) 9223372036854775807 (by simp [rChg,o1,u64b,liF,flF,fH,lH,apN,pbN,apM,pbM,oMo,rowV,zeroV,i64b,SI.fl,flay,flayL,lW,mayV,ints,i64s,lmap])
 simp only [Int.reduceLE,reduceIte,Int.reduceNeg] at b10
 have b11:=hin 11 (-9223372036854775808) 9223372036854775807 (by simp [rChg,o1,u64b,liF,flF,fH,lH,apN,pbN,apM,pbM,oMo,rowV,zeroV,i64b,SI.fl,flay,flayL,lW,mayV,ints,i64s,lmap])
 simp only [Int.reduceLE,reduceIte,Int.reduceNeg] at b11
 have b6:=hin 6 0 18446744073709551615 (by simp [rChg,o1,u64b,liF,flF,fH,lH,apN,pbN,apM,pbM,oMo,rowV,zeroV,i64b,SI.fl,flay,flayL,lW,mayV,ints,i64s,lmap])
 simp only [Int.reduceLE,reduceIte,Int.reduceNeg] at b6
 exact ⟨b4,b5,b7,b8,b9,b10,b11,b6⟩
def rChg_ob (k:Nat) (l:List Lf):Prop:=∀ (kv:Kv) (iv0:Nat→Int) (bv0:Nat→Bool),InB rChg.B iv0→FT (sta FI FB kv iv0 bv0) (dlt dyn0) rChg.F→∀ (iv:Nat→Int) (bv:Nat→Bool),Agr 12 iv0 bv0 iv bv→rChg_inv iv0 bv0 k iv bv→∀ lf∈l,LfT (sta FI FB kv) rChg.os (rChg_inv iv0 bv0) (rChg_mu iv0 bv0) k iv bv lf
theorem rChg_o0:rChg_ob 0 rChg_L0:=by
 intro kv iv0 bv0 hin hF iv bv ha hi
 unfold rChg_L0
 refine List.forall_mem_cons.2 ⟨?_,List.forall_mem_cons.2 ⟨?_,List.forall_mem_cons.2 ⟨?_,List.forall_mem_cons.2 ⟨?_,List.forall_mem_cons.2 ⟨?_,List.forall_mem_cons.2 ⟨?_,List.forall_mem_cons.2 ⟨?_,List.forall_mem_nil _⟩⟩⟩⟩⟩⟩⟩
 all_goals
  intro δ hf
 all_goals
  obtain ⟨b4,b5,b7,b8,b9,b10,b11,b6⟩:=rChg_b hin
 all_goals
  have a0:=ha.1 0 (by omega)
  have a1:=ha.1 1 (by omega)
  have a2:=ha.1 2 (by omega)
  have a3:=ha.1 3 (by omega)
  have a4:=ha.1 4 (by omega)
  have a5:=ha.1 5 (by omega)
  have a6:=ha.1 6 (by omega)
  have a7:=ha.1 7 (by omega)
  have a8:=ha.1 8 (by omega)
  have a9:=ha.1 9 (by omega)
  have a10:=ha.1 10 (by omega)
  have a11:=ha.1 11 (by omega)
 all_goals
  simp only [FT,TP,SB.tp,SI.tv,sta,IB.eval,and_true,true_and,ObsT,Ob.Tv,rowT,kix,In.tiv,↓tbvT,In.tbv,get_cons,get_nil,reduceIte,Nat.reduceEqDiff,Int.reduceToNat,Int.reduceAdd,Int.reduceSub,Int.reduceLE,Int.reduceLT,Int.reduceEq,ne_eq,Bool.false_eq_true,not_true_eq_false,not_false_eq_true,true_iff,false_iff,iff_true,iff_false,false_implies,implies_true,decT,decide_true,decide_false,Bool.decide_eq_true,ap2,pb2,FI_3,FI_3g,FI_4,FI_8,FI_8m,FI_9,FI_8c,FI_8z,FI_200,FB_0,FB_2,Int.toNat_natCast,Int.toNat_zero,FI_10,FI_21,FI_63,FI_64,FI_65,FI_74,FI_75,FI_76,FI_77,FI_78,FB_10,FB_16,rChg_inv,rChg_mu,rChg,o1,othT,o1,u64b,liF,flF,fH,lH,apN,pbN,apM,pbM,oMo,rowV,zeroV,i64b,SI.fl,flay,flayL,lW,mayV,ints,i64s,lmap,a0,a1,a2,a3,a4,a5,a6,a7,a8,a9,a10,a11] at hf hi ⊢
 all_goals
  have n1:=flenC_nn (iv0 1)
 all_goals
  have n2:=flenC_nn (iv0 2)
 all_goals
  have n3:=flenC_nn (iv0 3)
 all_goals
  have hz:((andT (andC (andS 1 (iv0 7) (iv0 8) (iv0 9) (iv0 1) (iv0 0)) (iv0 4) (iv0 5) (iv0 6)) (iv0 1) (iv0 2) (iv0 3))=1)=(((True∧sitR (iv0 7) (iv0 8) (iv0 9) (iv0 1) (iv0 0))∧iv0 5≤iv0 4∧iv0 6≤4611686018427387904)∧lisR (iv0 1) (iv0 2) (iv0 3)):=by rw [andT_one,andC_one,andS_one,eq_self_iff_true]
 all_goals
  have w9:flenC (iv0 1)≤300→IntKind.i64.wrap (flenC (iv0 1)+-1)=flenC (iv0 1)+-1:=fun _=>by rw [wrap_i64];omega
 all_goals
  have m1:=@modA_is (iv0 3) (iv0 10)
 all_goals
  have m2:=@modA_no (iv0 3) (iv0 10)
 all_goals
  have k0:=@chgE_ok (andT (andC (andS 1 (iv0 7) (iv0 8) (iv0 9) (iv0 1) (iv0 0)) (iv0 4) (iv0 5) (iv0 6)) (iv0 1) (iv0 2) (iv0 3)) (iv0 1) (iv0 3) (iv0 10) (xE (iv0 4) (iv0 5) (iv0 6) (iv0 11))
 all_goals
  have k1:=@chgE_2 (andT (andC (andS 1 (iv0 7) (iv0 8) (iv0 9) (iv0 1) (iv0 0)) (iv0 4) (iv0 5) (iv0 6)) (iv0 1) (iv0 2) (iv0 3)) (iv0 1) (iv0 3) (iv0 10) (xE (iv0 4) (iv0 5) (iv0 6) (iv0 11))
 all_goals
  have k2:=@chgE_w (andT (andC (andS 1 (iv0 7) (iv0 8) (iv0 9) (iv0 1) (iv0 0)) (iv0 4) (iv0 5) (iv0 6)) (iv0 1) (iv0 2) (iv0 3)) (iv0 1) (iv0 3) (iv0 10) (xE (iv0 4) (iv0 5) (iv0 6) (iv0 11))
 all_goals
  have x0:=xE_in (iv0 4) (iv0 5) (iv0 6) (iv0 11)
 all_goals
  try simp only [hasP] at hf ⊢
 all_goals
  (repeat' (with_reducible apply And.intro))<;>first
  | omega
  | assumption
  | (unfold inM;omega)
  | exact trivial
  | (clear hin hF ha;grind)
theorem rChg_c:LsC ((tm0 rChg Tryz.f16 (Tryz.f16.body.getD .skip))::[]) rChg.os [rChg_L0]:=by
 unfold rChg_L0
 exact ⟨List.forall_mem_cons.2 ⟨⟨⟨_,rfl,rfl⟩,by kernel_rfl⟩,List.forall_mem_cons.2 ⟨⟨⟨_,rfl,rfl⟩,by kernel_rfl⟩,List.forall_mem_cons.2 ⟨⟨⟨_,rfl,rfl⟩,by kernel_rfl⟩,List.forall_mem_cons.2 ⟨⟨⟨_,rfl,rfl⟩,by kernel_rfl⟩,List.forall_mem_cons.2 ⟨⟨⟨_,rfl,rfl⟩,by kernel_rfl⟩,List.forall_mem_cons.2 ⟨⟨⟨_,rfl,rfl⟩,by kernel_rfl⟩,List.forall_mem_cons.2 ⟨⟨⟨_,rfl,rfl⟩,by kernel_rfl⟩,List.forall_mem_nil _⟩⟩⟩⟩⟩⟩⟩,trivial⟩
theorem rChg_ok:rChg.Ok Tryz.prog FI FB:=
 Con.of_plain (body:=Tryz.f16.body.getD .skip) pok fiok (EntsFor.cons rRt_ok (EntsFor.cons rFind_ok (EntsFor.cons rX_ok (EntsFor.cons rCopy_ok EntsFor.nil)))) rChg Tryz.func16 (by kernel_rfl) 12 [] (by kernel_rfl) [rChg_L0] ⟨rChg_h0,trivial⟩ rChg_c
  rChg_inv rChg_mu (fun _ _ _=>trivial) fun kv iv0 bv0 hin hF k l iv bv hk ha hi=>match k,hk,hi with
  | 0,hk,hi=>by
    cases hk
    exact rChg_o0 kv iv0 bv0 hin hF iv bv ha hi
  | k+1,hk,_=>by simp at hk
def tVal_L0:List Lf:=
 let x0_:SI:=(.ap 200 (.v 1) (.c 0) (.c 0) (.c 0) (.c 0) (.c 0))
 let x1_:SI:=(.ap 200 (.v 2) (.c 0) (.c 0) (.c 0) (.c 0) (.c 0))
 let x2_:SI:=(.ap 200 (.v 3) (.c 0) (.c 0) (.c 0) (.c 0) (.c 0))
 let x3_:SI:=(.wk .i64 (.op .add x0_ (.c (-1))))
 let x4_:SI:=(.ap 21 (.v 3) x2_ (.v 10) (.c 0) (.c 0) (.c 0))
 let x5_:SI:=(.ap 64 (.ap 65 (.ap 63 (.c 1) (.v 7) (.v 8) (.v 9) (.v 1) (.v 0)) (.v 4) (.v 5) (.v 6) (.c 0) (.c 0)) (.v 1) (.v 2) (.v 3) (.c 0) (.c 0))
 let x6_:SI:=(.ap 3 (.v 3) x4_ (.c 2) (.c 0) (.c 0) (.c 0))
 let x7_:SI:=(.ap 79 x5_ (.v 1) (.v 3) (.v 10) (.c 0) (.c 0))
 let f0_:List (SB×Bool):=[((.le x0_ (.c 300)),.true),((.le x1_ (.c 300)),.true),((.le x2_ (.c 300)),.true)]
 let f1_:List (SB×Bool):=((.le (.c 1) (.v 7)),.true)::((.le (.v 7) (.c 64)),.true)::((.le (.c 1) (.v 8)),.true)::((.le (.v 8) (.c 8)),.true)::((.le (.c 1) (.v 9)),.true)::((.le (.v 9) (.c 4)),.true)::((.eq x0_ (.op .mul (.v 7) (.v 9))),.true)::((.le (.c 0) (.v 0)),.true)::((.le (.v 0) (.c 1099511627776)),.true)::((.ap 42 (.v 7) (.v 8) (.v 9) (.v 1) (.v 0) (.c 0)),.true)::f0_
 let f2_:List (SB×Bool):=((.le (.v 5) (.v 4)),.true)::f1_
 let f3_:List (SB×Bool):=((.le (.v 6) (.c 4611686018427387904)),.true)::f2_
 let f4_:List (SB×Bool):=((.ap 30 (.v 2) x1_ (.c 0) (.c 0) (.c 0) (.c 0)),.true)::((.ap 20 (.v 3) x2_ (.c 0) (.c 0) (.c 0) (.c 0)),.true)::((.le x1_ (.c 256)),.true)::((.le x2_ (.c 256)),.true)::((.ap 43 (.v 1) (.v 2) (.v 3) (.c 0) (.c 0) (.c 0)),.true)::f3_
 let f5_:List (SB×Bool):=((.le (.c 0) (.v 10)),.true)::f4_
 let f6_:List (SB×Bool):=((.le (.v 10) x3_),.true)::f5_
 let f7_:List (SB×Bool):=((.lt x4_ x2_),.true)::((.le (.c 0) x4_),.true)::((.ap 25 (.v 3) x2_ (.v 10) (.c 0) (.c 0) (.c 0)),.true)::f6_
 let f8_:List (SB×Bool):=((.le (.c 0) x6_),.true)::f7_
 let f9_:List (SB×Bool):=((.lt x6_ (.c 6)),.true)::f8_
 let f10_:List (SB×Bool):=((.eq x6_ (.c 0)),.false)::f9_
 let f11_:List (SB×Bool):=((.eq x6_ (.c 1)),.false)::f10_
 let f12_:List (SB×Bool):=((.eq x6_ (.c 2)),.false)::f11_
 let f13_:List (SB×Bool):=((.eq x6_ (.c 3)),.false)::f12_
 [(.fin (((.eq x6_ (.c 0)),.true)::f9_) 1 ⟨⟨[],[]⟩,[],[],[]⟩ [(.ei (.ap 79 x5_ (.v 1) (.v 3) (.v 10) (.c 0) (.c 0)) (.c 240)),(.fa (.eq x7_ (.c 0)) .false)] []),
  (.fin (((.eq x6_ (.c 1)),.true)::f10_) 1 ⟨⟨[],[]⟩,[],[],[]⟩ [(.ei (.ap 79 x5_ (.v 1) (.v 3) (.v 10) (.c 0) (.c 0)) (.c 240)),(.fa (.eq x7_ (.c 0)) .false)] []),
  (.fin (((.eq x6_ (.c 2)),.true)::f11_) 1 ⟨⟨[],[]⟩,[],[],[]⟩ [(.ei (.ap 79 x5_ (.v 1) (.v 3) (.v 10) (.c 0) (.c 0)) (.c 240)),(.fa (.eq x7_ (.c 0)) .false)] []),
  (.fin (((.eq x6_ (.c 3)),.true)::f12_) 0 ⟨⟨[],[]⟩,[],[],[]⟩ [] []),
  (.fin (((.eq x6_ (.c 4)),.true)::f13_) 0 ⟨⟨[],[]⟩,[],[],[]⟩ [] []),
  (.fin (((.eq x6_ (.c 4)),.false)::f13_) 0 ⟨⟨[],[]⟩,[],[],[]⟩ [] []),
  (.fin (((.lt x6_ (.c 6)),.false)::f8_) 1 ⟨⟨[],[]⟩,[],[],[]⟩ [(.ei (.ap 79 x5_ (.v 1) (.v 3) (.v 10) (.c 0) (.c 0)) (.c 240)),(.fa (.eq x7_ (.c 0)) .false)] []),
  (.fin (((.le (.c 0) x6_),.false)::f7_) 1 ⟨⟨[],[]⟩,[],[],[]⟩ [(.ei (.ap 79 x5_ (.v 1) (.v 3) (.v 10) (.c 0) (.c 0)) (.c 240)),(.fa (.eq x7_ (.c 0)) .false)] []),
  (.fin (((.ap 25 (.v 3) x2_ (.v 10) (.c 0) (.c 0) (.c 0)),.false)::f6_) 1 ⟨⟨[],[]⟩,[],[],[]⟩ [(.ei (.ap 79 x5_ (.v 1) (.v 3) (.v 10) (.c 0) (.c 0)) (.c 240)),(.fa (.eq x7_ (.c 0)) .false)] []),
  (.fin (((.le (.v 10) x3_),.false)::f5_) 1 ⟨⟨[],[]⟩,[],[],[]⟩ [(.ei (.ap 79 x5_ (.v 1) (.v 3) (.v 10) (.c 0) (.c 0)) (.c 2)),(.fa (.eq x7_ (.c 0)) .false)] []),
  (.fin (((.le (.c 0) (.v 10)),.false)::f4_) 1 ⟨⟨[],[]⟩,[],[],[]⟩ [(.ei (.ap 79 x5_ (.v 1) (.v 3) (.v 10) (.c 0) (.c 0)) (.c 2)),(.fa (.eq x7_ (.c 0)) .false)] []),
  (.fin (((.ap 43 (.v 1) (.v 2) (.v 3) (.c 0) (.c 0) (.c 0)),.false)::f3_) 1 ⟨⟨[],[]⟩,[],[],[]⟩ [(.ei (.ap 79 x5_ (.v 1) (.v 3) (.v 10) (.c 0) (.c 0)) (.c 2)),(.fa (.eq x7_ (.c 0)) .false)] []),
  (.fin (((.le (.v 6) (.c 4611686018427387904)),.false)::f2_) 1 ⟨⟨[],[]⟩,[],[],[]⟩ [(.ei (.ap 79 x5_ (.v 1) (.v 3) (.v 10) (.c 0) (.c 0)) (.c 2)),(.fa (.eq x7_ (.c 0)) .false)] []),
  (.fin (((.le (.v 5) (.v 4)),.false)::f1_) 1 ⟨⟨[],[]⟩,[],[],[]⟩ [(.ei (.ap 79 x5_ (.v 1) (.v 3) (.v 10) (.c 0) (.c 0)) (.c 2)),(.fa (.eq x7_ (.c 0)) .false)] []),
  (.fin (((.ap 42 (.v 7) (.v 8) (.v 9) (.v 1) (.v 0) (.c 0)),.false)::f0_) 1 ⟨⟨[],[]⟩,[],[],[]⟩ [(.ei (.ap 79 x5_ (.v 1) (.v 3) (.v 10) (.c 0) (.c 0)) (.c 2)),(.fa (.eq x7_ (.c 0)) .false)] [])]
def tVal_run (T:Tm):=(ex (ccOf Tryz.prog BF [29,73,75,100] tVal) ((fun cc=>[cC1.ent cc,cC3.ent cc,cC4.ent cc,tSites.ent cc,tLists.ent cc,hFind.ent cc,eX.ent cc]) (ccOf Tryz.prog BF [29,73,75,100] tVal)) (dw (ccOf Tryz.prog BF [29,73,75,100] tVal) ((fun cc=>[cC1.ent cc,cC3.ent cc,cC4.ent cc,tSites.ent cc,tLists.ent cc,hFind.ent cc,eX.ent cc]) (ccOf Tryz.prog BF [29,73,75,100] tVal)) 2000 12) (stopX [0,1,2,3,4,5,6,7,8,9,10,11,12,13,14,15,16,17,18,19,20,21,22,23,24,25,26,27,28,29,30,31,32,33,34,35,36,37,38,39,40,41,42,43,44,45,46,47,48,49,50,51,52,53,54,55,56,57,58,59,60,61,62,63,64,65,66,67,68,69,70,71,72,73,74,75,76,77,78,79,80,81,82,83,84,85,86,87,88,89,90,91,92,93,94,95,96,97,98,99,100,101,102,103,104,105,106,107,108,109,110,111,112,113,114,115,116,117,118,119,120,121,122,123,124,125,126,127,128,129,130,131,132,133,134,135,136,137,138,139,140,141,142,143,144,145,146,147,148,149,150,151,152,153,154,155,156,157,158,159,160,161,162,163,164,165,166,167,168,169,170,171,172,173,174,175,176,177,178,179,180,181,182,183,184,185,186,187,188,189,190,191,192,193,194,195,196,197,198,199,200,201,202,203,204,205,206,207,208,209,210,211,212,213,214,215,216,217,218,219,220,221,222,223,224,225,226,227,228,229,230,231,232,233,234,235,236,237,238,239,240,241,242,243,244,245,246,247,248,249,250,251,252,253,254,255,256,257,258,259,260,261,262,263,264,265,266,267,268,269,270,271,272,273,274,275,276,277,278,279,280,281,282,283,284,285,286,287,288,289,290,291,292,293,294,295,296,297,298,299,300,301,302,303,304,305,306,307,308,309,310,311,312,313,314,315,316,317,318,319,320,321,322,323,324,325,326,327,328,329,330,331,332,333,334,335,336,337,338,339,340,341,342,343,344,345,346,347,348,349,350,351,352,353,354,355,356,357,358,359,360,361,362,363,364,365,366,367,368,369,370,371,372,373,374,375,376,377,378,379,380,381,382,383,384,385,386,387,388,389,390,391,392,393,394,395,396,397,398,399]) 20000 T.f T.fs T.H).lfs (ccOf Tryz.prog BF [29,73,75,100] tVal) ((tm0 tVal Tryz.f17 (Tryz.f17.body.getD .skip))::[]) tVal.os
theorem tVal_h0:tVal_run (tm0 tVal Tryz.f17 (Tryz.f17.body.getD .skip))=some tVal_L0:=by kernel_rfl
def tVal_inv:(Nat→Int)→(Nat→Bool)→Nat→(Nat→Int)→(Nat→Bool)→Prop:=fun _ _ _ _ _=>True
def tVal_mu:(Nat→Int)→(Nat→Bool)→Nat→(Nat→Int)→(Nat→Bool)→Nat:=fun _ _ _ _ _=>0
theorem tVal_b {iv0:Nat→Int} (hin:InB tVal.B iv0):((-9223372036854775808)≤iv0 4∧iv0 4≤9223372036854775807)∧((-9223372036854775808)≤iv0 5∧iv0 5≤9223372036854775807)∧((-9223372036854775808)≤iv0 7∧iv0 7≤9223372036854775807)∧((-9223372036854775808)≤iv0 8∧iv0 8≤9223372036854775807)∧((-9223372036854775808)≤iv0 9∧iv0 9≤9223372036854775807)∧((-9223372036854775808)≤iv0 10∧iv0 10≤9223372036854775807)∧(0≤iv0 6∧iv0 6≤18446744073709551615):=by
 have b4:=hin 4 (-9223372036854775808) 9223372036854775807 (by simp [tVal,o1,u64b,liF,flF,fH,lH,apN,pbN,apM,pbM,oMo,rowV,zeroV,i64b,SI.fl,flay,flayL,lW,mayV,ints,i64s,lmap])
 simp only [Int.reduceLE,reduceIte,Int.reduceNeg] at b4
 have b5:=hin 5 (-9223372036854775808) 9223372036854775807 (by simp [tVal,o1,u64b,liF,flF,fH,lH,apN,pbN,apM,pbM,oMo,rowV,zeroV,i64b,SI.fl,flay,flayL,lW,mayV,ints,i64s,lmap])
 simp only [Int.reduceLE,reduceIte,Int.reduceNeg] at b5
 have b7:=hin 7 (-9223372036854775808) 9223372036854775807 (by simp [tVal,o1,u64b,liF,flF,fH,lH,apN,pbN,apM,pbM,oMo,rowV,zeroV,i64b,SI.fl,flay,flayL,lW,mayV,ints,i64s,lmap])
 simp only [Int.reduceLE,reduceIte,Int.reduceNeg] at b7
 have b8:=hin 8 (-9223372036854775808) 9223372036854775807 (by simp [tVal,o1,u64b,liF,flF,fH,lH,apN,pbN,apM,pbM,oMo,rowV,zeroV,i64b,SI.fl,flay,flayL,lW,mayV,ints,i64s,lmap])
 simp only [Int.reduceLE,reduceIte,Int.reduceNeg] at b8
 have b9:=hin 9 (-9223372036854775808) 9223372036854775807 (by simp [tVal,o1,u64b,liF,flF,fH,lH,apN,pbN,apM,pbM,oMo,rowV,zeroV,i64b,SI.fl,flay,flayL,lW,mayV,ints,i64s,lmap])
 simp only [Int.reduceLE,reduceIte,Int.reduceNeg] at b9
 have b10:=hin 10 (-9223372036854775808) 9223372036854775807 (by simp [tVal,o1,u64b,liF,flF,fH,lH,apN,pbN,apM,pbM,oMo,rowV,zeroV,i64b,SI.fl,flay,flayL,lW,mayV,ints,i64s,lmap])
 simp only [Int.reduceLE,reduceIte,Int.reduceNeg] at b10
 have b6:=hin 6 0 18446744073709551615 (by simp [tVal,o1,u64b,liF,flF,fH,lH,apN,pbN,apM,pbM,oMo,rowV,zeroV,i64b,SI.fl,flay,flayL,lW,mayV,ints,i64s,lmap])
 simp only [Int.reduceLE,reduceIte,Int.reduceNeg] at b6
 exact ⟨b4,b5,b7,b8,b9,b10,b6⟩
def tVal_ob (k:Nat) (l:List Lf):Prop:=∀ (kv:Kv) (iv0:Nat→Int) (bv0:Nat→Bool),InB tVal.B iv0→FT (sta FI FB kv iv0 bv0) (dlt dyn0) tVal.F→∀ (iv:Nat→Int) (bv:Nat→Bool),Agr 11 iv0 bv0 iv bv→tVal_inv iv0 bv0 k iv bv→∀ lf∈l,LfT (sta FI FB kv) tVal.os (tVal_inv iv0 bv0) (tVal_mu iv0 bv0) k iv bv lf
theorem tVal_o0:tVal_ob 0 tVal_L0:=by
 intro kv iv0 bv0 hin hF iv bv ha hi
 unfold tVal_L0
 refine List.forall_mem_cons.2 ⟨?_,List.forall_mem_cons.2 ⟨?_,List.forall_mem_cons.2 ⟨?_,List.forall_mem_cons.2 ⟨?_,List.forall_mem_cons.2 ⟨?_,List.forall_mem_cons.2 ⟨?_,List.forall_mem_cons.2 ⟨?_,List.forall_mem_cons.2 ⟨?_,List.forall_mem_cons.2 ⟨?_,List.forall_mem_cons.2 ⟨?_,List.forall_mem_cons.2 ⟨?_,List.forall_mem_cons.2 ⟨?_,List.forall_mem_cons.2 ⟨?_,List.forall_mem_cons.2 ⟨?_,List.forall_mem_cons.2 ⟨?_,List.forall_mem_nil _⟩⟩⟩⟩⟩⟩⟩⟩⟩⟩⟩⟩⟩⟩⟩
 all_goals
  intro δ hf
 all_goals
  obtain ⟨b4,b5,b7,b8,b9,b10,b6⟩:=tVal_b hin
 all_goals
  have a0:=ha.1 0 (by omega)
  have a1:=ha.1 1 (by omega)
  have a2:=ha.1 2 (by omega)
  have a3:=ha.1 3 (by omega)
  have a4:=ha.1 4 (by omega)
  have a5:=ha.1 5 (by omega)
  have a6:=ha.1 6 (by omega)
  have a7:=ha.1 7 (by omega)
  have a8:=ha.1 8 (by omega)
  have a9:=ha.1 9 (by omega)
  have a10:=ha.1 10 (by omega)
 all_goals
  simp only [FT,TP,SB.tp,SI.tv,sta,IB.eval,and_true,true_and,ObsT,Ob.Tv,rowT,kix,In.tiv,↓tbvT,In.tbv,get_cons,get_nil,reduceIte,Nat.reduceEqDiff,Int.reduceToNat,Int.reduceAdd,Int.reduceSub,Int.reduceLE,Int.reduceLT,Int.reduceEq,ne_eq,Bool.false_eq_true,not_true_eq_false,not_false_eq_true,true_iff,false_iff,iff_true,iff_false,false_implies,implies_true,decT,decide_true,decide_false,Bool.decide_eq_true,ap2,pb2,FI_3,FI_3g,FI_4,FI_8,FI_8m,FI_9,FI_8c,FI_8z,FI_200,FB_0,FB_2,Int.toNat_natCast,Int.toNat_zero,FI_10,FI_20,FI_21,FI_63,FI_64,FI_65,FI_79,FB_10,FB_20,FB_25,FB_30,FB_42,FB_43,tVal_inv,tVal_mu,tVal,o1,othT,o1,u64b,liF,flF,fH,lH,apN,pbN,apM,pbM,oMo,rowV,zeroV,i64b,SI.fl,flay,flayL,lW,mayV,ints,i64s,lmap,a0,a1,a2,a3,a4,a5,a6,a7,a8,a9,a10] at hf hi ⊢
 all_goals
  have n1:=flenC_nn (iv0 1)
 all_goals
  have n2:=flenC_nn (iv0 2)
 all_goals
  have n3:=flenC_nn (iv0 3)
 all_goals
  have hz:((andT (andC (andS 1 (iv0 7) (iv0 8) (iv0 9) (iv0 1) (iv0 0)) (iv0 4) (iv0 5) (iv0 6)) (iv0 1) (iv0 2) (iv0 3))=1)=(((True∧sitR (iv0 7) (iv0 8) (iv0 9) (iv0 1) (iv0 0))∧iv0 5≤iv0 4∧iv0 6≤4611686018427387904)∧lisR (iv0 1) (iv0 2) (iv0 3)):=by rw [andT_one,andC_one,andS_one,eq_self_iff_true]
 all_goals
  have w9:flenC (iv0 1)≤300→IntKind.i64.wrap (flenC (iv0 1)+-1)=flenC (iv0 1)+-1:=fun _=>by rw [wrap_i64];omega
 all_goals
  have m1:=@modA_is (iv0 3) (iv0 10)
 all_goals
  have m2:=@modA_no (iv0 3) (iv0 10)
 all_goals
  have k0:=@valE_ok (andT (andC (andS 1 (iv0 7) (iv0 8) (iv0 9) (iv0 1) (iv0 0)) (iv0 4) (iv0 5) (iv0 6)) (iv0 1) (iv0 2) (iv0 3)) (iv0 1) (iv0 3) (iv0 10)
 all_goals
  have k1:=@valE_2 (andT (andC (andS 1 (iv0 7) (iv0 8) (iv0 9) (iv0 1) (iv0 0)) (iv0 4) (iv0 5) (iv0 6)) (iv0 1) (iv0 2) (iv0 3)) (iv0 1) (iv0 3) (iv0 10)
 all_goals
  have k2:=@valE_w (andT (andC (andS 1 (iv0 7) (iv0 8) (iv0 9) (iv0 1) (iv0 0)) (iv0 4) (iv0 5) (iv0 6)) (iv0 1) (iv0 2) (iv0 3)) (iv0 1) (iv0 3) (iv0 10)
 all_goals
  try simp only [hasP] at hf ⊢
 all_goals
  (repeat' (with_reducible apply And.intro))<;>first
  | omega
  | assumption
  | (unfold inM;omega)
  | exact trivial
  | (clear hin hF ha;grind)
theorem tVal_c:LsC ((tm0 tVal Tryz.f17 (Tryz.f17.body.getD .skip))::[]) tVal.os [tVal_L0]:=by
 unfold tVal_L0
 exact ⟨List.forall_mem_cons.2 ⟨⟨⟨_,rfl,rfl⟩,by kernel_rfl⟩,List.forall_mem_cons.2 ⟨⟨⟨_,rfl,rfl⟩,by kernel_rfl⟩,List.forall_mem_cons.2 ⟨⟨⟨_,rfl,rfl⟩,by kernel_rfl⟩,List.forall_mem_cons.2 ⟨⟨⟨_,rfl,rfl⟩,by kernel_rfl⟩,List.forall_mem_cons.2 ⟨⟨⟨_,rfl,rfl⟩,by kernel_rfl⟩,List.forall_mem_cons.2 ⟨⟨⟨_,rfl,rfl⟩,by kernel_rfl⟩,List.forall_mem_cons.2 ⟨⟨⟨_,rfl,rfl⟩,by kernel_rfl⟩,List.forall_mem_cons.2 ⟨⟨⟨_,rfl,rfl⟩,by kernel_rfl⟩,List.forall_mem_cons.2 ⟨⟨⟨_,rfl,rfl⟩,by kernel_rfl⟩,List.forall_mem_cons.2 ⟨⟨⟨_,rfl,rfl⟩,by kernel_rfl⟩,List.forall_mem_cons.2 ⟨⟨⟨_,rfl,rfl⟩,by kernel_rfl⟩,List.forall_mem_cons.2 ⟨⟨⟨_,rfl,rfl⟩,by kernel_rfl⟩,List.forall_mem_cons.2 ⟨⟨⟨_,rfl,rfl⟩,by kernel_rfl⟩,List.forall_mem_cons.2 ⟨⟨⟨_,rfl,rfl⟩,by kernel_rfl⟩,List.forall_mem_cons.2 ⟨⟨⟨_,rfl,rfl⟩,by kernel_rfl⟩,List.forall_mem_nil _⟩⟩⟩⟩⟩⟩⟩⟩⟩⟩⟩⟩⟩⟩⟩,trivial⟩
theorem tVal_ok:tVal.Ok Tryz.prog FI FB:=
 Con.of_plain (body:=Tryz.f17.body.getD .skip) pok fiok (EntsFor.cons cC1_ok (EntsFor.cons cC3_ok (EntsFor.cons cC4_ok (EntsFor.cons tSites_ok (EntsFor.cons tLists_ok (EntsFor.cons hFind_ok (EntsFor.cons eX_ok EntsFor.nil))))))) tVal Tryz.func17 (by kernel_rfl) 11 [] (by kernel_rfl) [tVal_L0] ⟨tVal_h0,trivial⟩ tVal_c
  tVal_inv tVal_mu (fun _ _ _=>trivial) fun kv iv0 bv0 hin hF k l iv bv hk ha hi=>match k,hk,hi with
  | 0,hk,hi=>by
    cases hk
    exact tVal_o0 kv iv0 bv0 hin hF iv bv ha hi
  | k+1,hk,_=>by simp at hk
def rVal_L0:List Lf:=
 let x0_:SI:=(.ap 200 (.v 1) (.c 0) (.c 0) (.c 0) (.c 0) (.c 0))
 let x1_:SI:=(.ap 200 (.v 3) (.c 0) (.c 0) (.c 0) (.c 0) (.c 0))
 let x2_:SI:=(.ap 21 (.v 3) x1_ (.v 10) (.c 0) (.c 0) (.c 0))
 let x3_:SI:=(.ap 64 (.ap 65 (.ap 63 (.c 1) (.v 7) (.v 8) (.v 9) (.v 1) (.v 0)) (.v 4) (.v 5) (.v 6) (.c 0) (.c 0)) (.v 1) (.v 2) (.v 3) (.c 0) (.c 0))
 let x4_:SI:=(.ap 3 (.v 3) x2_ (.c 2) (.c 0) (.c 0) (.c 0))
 let x5_:SI:=(.ap 79 x3_ (.v 1) (.v 3) (.v 10) (.c 0) (.c 0))
 let f0_:List (SB×Bool):=[((.le x0_ (.c 300)),.true),((.le (.ap 200 (.v 2) (.c 0) (.c 0) (.c 0) (.c 0) (.c 0)) (.c 300)),.true),((.le x1_ (.c 300)),.true)]
 let f1_:List (SB×Bool):=((.eq x3_ (.c 1)),.true)::f0_
 let f2_:List (SB×Bool):=((.lt (.v 10) (.c 0)),.false)::f1_
 let f3_:List (SB×Bool):=((.lt x2_ x1_),.true)::((.le (.c (-1)) x2_),.true)::((.le x0_ (.v 10)),.false)::f2_
 let f4_:List (SB×Bool):=((.le (.c 0) x2_),.true)::f3_
 let f5_:List (SB×Bool):=((.le (.c 3) x4_),.true)::f4_
 [(.fin (((.lt (.v 10) (.c 0)),.true)::f1_) 1 ⟨⟨[],[]⟩,[],[],[]⟩ [(.ei (.ap 79 x3_ (.v 1) (.v 3) (.v 10) (.c 0) (.c 0)) (.c 2)),(.fa (.eq x5_ (.c 0)) .false)] []),
  (.fin (((.le x0_ (.v 10)),.true)::f2_) 1 ⟨⟨[],[]⟩,[],[],[]⟩ [(.ei (.ap 79 x3_ (.v 1) (.v 3) (.v 10) (.c 0) (.c 0)) (.c 2)),(.fa (.eq x5_ (.c 0)) .false)] []),
  (.fin (((.le x4_ (.c 5)),.true)::f5_) 0 ⟨⟨[],[]⟩,[],[],[]⟩ [] []),
  (.fin (((.le x4_ (.c 5)),.false)::f5_) 1 ⟨⟨[],[]⟩,[],[],[]⟩ [(.ei (.ap 79 x3_ (.v 1) (.v 3) (.v 10) (.c 0) (.c 0)) (.c 240)),(.fa (.eq x5_ (.c 0)) .false)] []),
  (.fin (((.le (.c 3) x4_),.false)::f4_) 1 ⟨⟨[],[]⟩,[],[],[]⟩ [(.ei (.ap 79 x3_ (.v 1) (.v 3) (.v 10) (.c 0) (.c 0)) (.c 240)),(.fa (.eq x5_ (.c 0)) .false)] []),
  (.fin (((.le (.c 0) x2_),.false)::f3_) 1 ⟨⟨[],[]⟩,[],[],[]⟩ [(.ei (.ap 79 x3_ (.v 1) (.v 3) (.v 10) (.c 0) (.c 0)) (.c 240)),(.fa (.eq x5_ (.c 0)) .false)] []),
  (.fin (((.eq x3_ (.c 1)),.false)::f0_) 1 ⟨⟨[],[]⟩,[],[],[]⟩ [(.ei (.ap 79 x3_ (.v 1) (.v 3) (.v 10) (.c 0) (.c 0)) (.c 2)),(.fa (.eq x5_ (.c 0)) .false)] [])]
def rVal_run (T:Tm):=(ex (ccOf Tryz.prog BF [29,73,75,100] rVal) ((fun cc=>[rRt.ent cc,rFind.ent cc,rX.ent cc,rCopy.ent cc]) (ccOf Tryz.prog BF [29,73,75,100] rVal)) (dw (ccOf Tryz.prog BF [29,73,75,100] rVal) ((fun cc=>[rRt.ent cc,rFind.ent cc,rX.ent cc,rCopy.ent cc]) (ccOf Tryz.prog BF [29,73,75,100] rVal)) 2000 12) (stopX [0,1,2,3,4,5,6,7,8,9,10,11,12,13,14,15,16,17,18,19,20,21,22,23,24,25,26,27,28,29,30,31,32,33,34,35,36,37,38,39,40,41,42,43,44,45,46,47,48,49,50,51,52,53,54,55,56,57,58,59,60,61,62,63,64,65,66,67,68,69,70,71,72,73,74,75,76,77,78,79,80,81,82,83,84,85,86,87,88,89,90,91,92,93,94,95,96,97,98,99,100,101,102,103,104,105,106,107,108,109,110,111,112,113,114,115,116,117,118,119,120,121,122,123,124,125,126,127,128,129,130,131,132,133,134,135,136,137,138,139,140,141,142,143,144,145,146,147,148,149,150,151,152,153,154,155,156,157,158,159,160,161,162,163,164,165,166,167,168,169,170,171,172,173,174,175,176,177,178,179,180,181,182,183,184,185,186,187,188,189,190,191,192,193,194,195,196,197,198,199,200,201,202,203,204,205,206,207,208,209,210,211,212,213,214,215,216,217,218,219,220,221,222,223,224,225,226,227,228,229,230,231,232,233,234,235,236,237,238,239,240,241,242,243,244,245,246,247,248,249,250,251,252,253,254,255,256,257,258,259,260,261,262,263,264,265,266,267,268,269,270,271,272,273,274,275,276,277,278,279,280,281,282,283,284,285,286,287,288,289,290,291,292,293,294,295,296,297,298,299,300,301,302,303,304,305,306,307,308,309,310,311,312,313,314,315,316,317,318,319,320,321,322,323,324,325,326,327,328,329,330,331,332,333,334,335,336,337,338,339,340,341,342,343,344,345,346,347,348,349,350,351,352,353,354,355,356,357,358,359,360,361,362,363,364,365,366,367,368,369,370,371,372,373,374,375,376,377,378,379,380,381,382,383,384,385,386,387,388,389,390,391,392,393,394,395,396,397,398,399]) 20000 T.f T.fs T.H).lfs (ccOf Tryz.prog BF [29,73,75,100] rVal) ((tm0 rVal Tryz.f18 (Tryz.f18.body.getD .skip))::[]) rVal.os
theorem rVal_h0:rVal_run (tm0 rVal Tryz.f18 (Tryz.f18.body.getD .skip))=some rVal_L0:=by kernel_rfl
def rVal_inv:(Nat→Int)→(Nat→Bool)→Nat→(Nat→Int)→(Nat→Bool)→Prop:=fun _ _ _ _ _=>True
def rVal_mu:(Nat→Int)→(Nat→Bool)→Nat→(Nat→Int)→(Nat→Bool)→Nat:=fun _ _ _ _ _=>0
theorem rVal_b {iv0:Nat→Int} (hin:InB rVal.B iv0):((-9223372036854775808)≤iv0 4∧iv0 4≤9223372036854775807)∧((-9223372036854775808)≤iv0 5∧iv0 5≤9223372036854775807)∧((-9223372036854775808)≤iv0 7∧iv0 7≤9223372036854775807)∧((-9223372036854775808)≤iv0 8∧iv0 8≤9223372036854775807)∧((-9223372036854775808)≤iv0 9∧iv0 9≤9223372036854775807)∧((-9223372036854775808)≤iv0 10∧iv0 10≤9223372036854775807)∧(0≤iv0 6∧iv0 6≤18446744073709551615):=by
 have b4:=hin 4 (-9223372036854775808) 9223372036854775807 (by simp [rVal,o1,u64b,liF,flF,fH,lH,apN,pbN,apM,pbM,oMo,rowV,zeroV,i64b,SI.fl,flay,flayL,lW,mayV,ints,i64s,lmap])
 simp only [Int.reduceLE,reduceIte,Int.reduceNeg] at b4
 have b5:=hin 5 (-9223372036854775808) 9223372036854775807 (by simp [rVal,o1,u64b,liF,flF,fH,lH,apN,pbN,apM,pbM,oMo,rowV,zeroV,i64b,SI.fl,flay,flayL,lW,mayV,ints,i64s,lmap])
 simp only [Int.reduceLE,reduceIte,Int.reduceNeg] at b5
 have b7:=hin 7 (-9223372036854775808) 9223372036854775807 (by simp [rVal,o1,u64b,liF,flF,fH,lH,apN,pbN,apM,pbM,oMo,rowV,zeroV,i64b,SI.fl,flay,flayL,lW,mayV,ints,i64s,lmap])
 simp only [Int.reduceLE,reduceIte,Int.reduceNeg] at b7
 have b8:=hin 8 (-9223372036854775808) 9223372036854775807 (by simp [rVal,o1,u64b,liF,flF,fH,lH,apN,pbN,apM,pbM,oMo,rowV,zeroV,i64b,SI.fl,flay,flayL,lW,mayV,ints,i64s,lmap])
 simp only [Int.reduceLE,reduceIte,Int.reduceNeg] at b8
 have b9:=hin 9 (-9223372036854775808) 9223372036854775807 (by simp [rVal,o1,u64b,liF,flF,fH,lH,apN,pbN,apM,pbM,oMo,rowV,zeroV,i64b,SI.fl,flay,flayL,lW,mayV,ints,i64s,lmap])
 simp only [Int.reduceLE,reduceIte,Int.reduceNeg] at b9
 have b10:=hin 10 (-9223372036854775808) 9223372036854775807 (by simp [rVal,o1,u64b,liF,flF,fH,lH,apN,pbN,apM,pbM,oMo,rowV,zeroV,i64b,SI.fl,flay,flayL,lW,mayV,ints,i64s,lmap])
 simp only [Int.reduceLE,reduceIte,Int.reduceNeg] at b10
 have b6:=hin 6 0 18446744073709551615 (by simp [rVal,o1,u64b,liF,flF,fH,lH,apN,pbN,apM,pbM,oMo,rowV,zeroV,i64b,SI.fl,flay,flayL,lW,mayV,ints,i64s,lmap])
 simp only [Int.reduceLE,reduceIte,Int.reduceNeg] at b6
 exact ⟨b4,b5,b7,b8,b9,b10,b6⟩
def rVal_ob (k:Nat) (l:List Lf):Prop:=∀ (kv:Kv) (iv0:Nat→Int) (bv0:Nat→Bool),InB rVal.B iv0→FT (sta FI FB kv iv0 bv0) (dlt dyn0) rVal.F→∀ (iv:Nat→Int) (bv:Nat→Bool),Agr 11 iv0 bv0 iv bv→rVal_inv iv0 bv0 k iv bv→∀ lf∈l,LfT (sta FI FB kv) rVal.os (rVal_inv iv0 bv0) (rVal_mu iv0 bv0) k iv bv lf
theorem rVal_o0:rVal_ob 0 rVal_L0:=by
 intro kv iv0 bv0 hin hF iv bv ha hi
 unfold rVal_L0
 refine List.forall_mem_cons.2 ⟨?_,List.forall_mem_cons.2 ⟨?_,List.forall_mem_cons.2 ⟨?_,List.forall_mem_cons.2 ⟨?_,List.forall_mem_cons.2 ⟨?_,List.forall_mem_cons.2 ⟨?_,List.forall_mem_cons.2 ⟨?_,List.forall_mem_nil _⟩⟩⟩⟩⟩⟩⟩
 all_goals
  intro δ hf
 all_goals
  obtain ⟨b4,b5,b7,b8,b9,b10,b6⟩:=rVal_b hin
 all_goals
  have a0:=ha.1 0 (by omega)
  have a1:=ha.1 1 (by omega)
  have a2:=ha.1 2 (by omega)
  have a3:=ha.1 3 (by omega)
  have a4:=ha.1 4 (by omega)
  have a5:=ha.1 5 (by omega)
  have a6:=ha.1 6 (by omega)
  have a7:=ha.1 7 (by omega)
  have a8:=ha.1 8 (by omega)
  have a9:=ha.1 9 (by omega)
  have a10:=ha.1 10 (by omega)
 all_goals
  simp only [FT,TP,SB.tp,SI.tv,sta,IB.eval,and_true,true_and,ObsT,Ob.Tv,rowT,kix,In.tiv,↓tbvT,In.tbv,get_cons,get_nil,reduceIte,Nat.reduceEqDiff,Int.reduceToNat,Int.reduceAdd,Int.reduceSub,Int.reduceLE,Int.reduceLT,Int.reduceEq,ne_eq,Bool.false_eq_true,not_true_eq_false,not_false_eq_true,true_iff,false_iff,iff_true,iff_false,false_implies,implies_true,decT,decide_true,decide_false,Bool.decide_eq_true,ap2,pb2,FI_3,FI_3g,FI_4,FI_8,FI_8m,FI_9,FI_8c,FI_8z,FI_200,FB_0,FB_2,Int.toNat_natCast,Int.toNat_zero,FI_10,FI_21,FI_63,FI_64,FI_65,FI_79,FB_10,rVal_inv,rVal_mu,rVal,o1,othT,o1,u64b,liF,flF,fH,lH,apN,pbN,apM,pbM,oMo,rowV,zeroV,i64b,SI.fl,flay,flayL,lW,mayV,ints,i64s,lmap,a0,a1,a2,a3,a4,a5,a6,a7,a8,a9,a10] at hf hi ⊢
 all_goals
  have n1:=flenC_nn (iv0 1)
 all_goals
  have n2:=flenC_nn (iv0 2)
 all_goals
  have n3:=flenC_nn (iv0 3)
 all_goals
  have hz:((andT (andC (andS 1 (iv0 7) (iv0 8) (iv0 9) (iv0 1) (iv0 0)) (iv0 4) (iv0 5) (iv0 6)) (iv0 1) (iv0 2) (iv0 3))=1)=(((True∧sitR (iv0 7) (iv0 8) (iv0 9) (iv0 1) (iv0 0))∧iv0 5≤iv0 4∧iv0 6≤4611686018427387904)∧lisR (iv0 1) (iv0 2) (iv0 3)):=by rw [andT_one,andC_one,andS_one,eq_self_iff_true]
 all_goals
  have w9:flenC (iv0 1)≤300→IntKind.i64.wrap (flenC (iv0 1)+-1)=flenC (iv0 1)+-1:=fun _=>by rw [wrap_i64];omega
 all_goals
  have m1:=@modA_is (iv0 3) (iv0 10)
 all_goals
  have m2:=@modA_no (iv0 3) (iv0 10)
 all_goals
  have k0:=@valE_ok (andT (andC (andS 1 (iv0 7) (iv0 8) (iv0 9) (iv0 1) (iv0 0)) (iv0 4) (iv0 5) (iv0 6)) (iv0 1) (iv0 2) (iv0 3)) (iv0 1) (iv0 3) (iv0 10)
 all_goals
  have k1:=@valE_2 (andT (andC (andS 1 (iv0 7) (iv0 8) (iv0 9) (iv0 1) (iv0 0)) (iv0 4) (iv0 5) (iv0 6)) (iv0 1) (iv0 2) (iv0 3)) (iv0 1) (iv0 3) (iv0 10)
 all_goals
  have k2:=@valE_w (andT (andC (andS 1 (iv0 7) (iv0 8) (iv0 9) (iv0 1) (iv0 0)) (iv0 4) (iv0 5) (iv0 6)) (iv0 1) (iv0 2) (iv0 3)) (iv0 1) (iv0 3) (iv0 10)
 all_goals
  try simp only [hasP] at hf ⊢
 all_goals
  (repeat' (with_reducible apply And.intro))<;>first
  | omega
  | assumption
  | (unfold inM;omega)
  | exact trivial
  | (clear hin hF ha;grind)
theorem rVal_c:LsC ((tm0 rVal Tryz.f18 (Tryz.f18.body.getD .skip))::[]) rVal.os [rVal_L0]:=by
 unfold rVal_L0
 exact ⟨List.forall_mem_cons.2 ⟨⟨⟨_,rfl,rfl⟩,by kernel_rfl⟩,List.forall_mem_cons.2 ⟨⟨⟨_,rfl,rfl⟩,by kernel_rfl⟩,List.forall_mem_cons.2 ⟨⟨⟨_,rfl,rfl⟩,by kernel_rfl⟩,List.forall_mem_cons.2 ⟨⟨⟨_,rfl,rfl⟩,by kernel_rfl⟩,List.forall_mem_cons.2 ⟨⟨⟨_,rfl,rfl⟩,by kernel_rfl⟩,List.forall_mem_cons.2 ⟨⟨⟨_,rfl,rfl⟩,by kernel_rfl⟩,List.forall_mem_cons.2 ⟨⟨⟨_,rfl,rfl⟩,by kernel_rfl⟩,List.forall_mem_nil _⟩⟩⟩⟩⟩⟩⟩,trivial⟩
theorem rVal_ok:rVal.Ok Tryz.prog FI FB:=
 Con.of_plain (body:=Tryz.f18.body.getD .skip) pok fiok (EntsFor.cons rRt_ok (EntsFor.cons rFind_ok (EntsFor.cons rX_ok (EntsFor.cons rCopy_ok EntsFor.nil)))) rVal Tryz.func18 (by kernel_rfl) 11 [] (by kernel_rfl) [rVal_L0] ⟨rVal_h0,trivial⟩ rVal_c
  rVal_inv rVal_mu (fun _ _ _=>trivial) fun kv iv0 bv0 hin hF k l iv bv hk ha hi=>match k,hk,hi with
  | 0,hk,hi=>by
    cases hk
    exact rVal_o0 kv iv0 bv0 hin hF iv bv ha hi
  | k+1,hk,_=>by simp at hk
end
end Go.Sx.Tk
