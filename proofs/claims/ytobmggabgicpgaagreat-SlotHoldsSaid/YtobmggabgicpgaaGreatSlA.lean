/- Slots: may, the first that may not be, Check, by contract. -/
import Derived.Test.YtobmggabgicpgaaGreatSlD
namespace Go.Sx.Sl
set_option linter.unusedVariables false
set_option linter.unusedSimpArgs false
set_option maxRecDepth 100000
set_option maxHeartbeats 0
noncomputable section
open Go Go.Sx Go.Sx.Ti Go.Proofs
def kS:List Kd:=[.nt .i64,.nt .i64,.nt .i64,.nt .i64,.nt .i64,.nt .i64,.nt .i64,.nt .u64]
def slV:SV:=.ag [.it .i64 (.v 0),.it .i64 (.v 1),.it .i64 (.v 2),.it .i64 (.v 3),.it .i64 (.v 4),.it .i64 (.v 5),.it .i64 (.v 6),.it .u64 (.v 7)]
def mayV:SB:=.and (.ap 20 (.v 0) (.v 1) (.v 2) (.v 3) (.v 4) (.c 0)) (.ap 21 (.v 1) (.v 5) (.v 6) (.v 7) (.c 0) (.c 0))
def sMay:Con:=⟨32,[0,1,2,3,4,5,6,7],[slV],[],(7,0,18446744073709551615)::i64s [0,1,2,3,4,5,6],[],o1 (.bo mayV)⟩
def lS:SV:=.sl (.k 0) (.v 2) (.v 1) (.v 3)
def gS:List Gv:=[⟨0,.v 2,kS,0,.v 1⟩]
def bS:List (Nat×Int×Int):=[(1,0,64),(2,0,-1)]
def fS:List (SB×Bool):=[(.le (.v 1) (.v 3),true),(.le (.c 0) (.v 3),true)]
def bdS:SI:=.ap 20 (.v 0) (.v 1) (.c 0) (.c 0) (.c 0) (.c 0)
def sBad:Con:=⟨33,[0,1,2,3],[lS,.fn 59 [] []],gS,bS,fS,[⟨[],.it .i64 bdS,[],0,0,[(.lt bdS (.v 1),true),(.le (.c (-1)) bdS,true)]⟩]⟩
def shV:SV:=.ag [.it .i64 (.v 4),.it .i64 (.v 5),.it .i64 (.v 6)]
def sChk:Con:=⟨12,[0,1,2,3,4,5,6],[shV,lS],gS,i64b 4::i64b 5::i64b 6::bS,fS,o1 (.it .i64 (.ap 22 (.v 0) (.v 1) (.v 4) (.v 5) (.v 6) (.c 0)))⟩
def sMay_L0:List Lf:=
 let p0_:SB×Bool:=((.eq (.v 4) (.c 0)),.true)
 let p1_:SB×Bool:=((.eq (.v 5) (.c 0)),.true)
 let p2_:SB×Bool:=((.eq (.v 6) (.c 0)),.true)
 let p3_:SB×Bool:=((.eq (.v 7) (.c 0)),.true)
 let p4_:SB×Bool:=((.eq (.v 4) (.c 0)),.false)
 let p5_:SB×Bool:=((.eq (.v 7) (.c 0)),.false)
 let p6_:SB×Bool:=((.eq (.v 6) (.c 0)),.false)
 let p7_:SB×Bool:=((.eq (.v 5) (.c 0)),.false)
 let f0_:List (SB×Bool):=[((.le (.v 0) (.c 1099511627776)),.true),((.le (.c 0) (.v 0)),.true)]
 let f1_:List (SB×Bool):=((.le (.c 0) (.v 1)),.true)::f0_
 let f2_:List (SB×Bool):=((.le (.v 1) (.c 5)),.true)::f1_
 let f3_:List (SB×Bool):=((.eq (.v 0) (.c 0)),.true)::f2_
 let f4_:List (SB×Bool):=((.eq (.v 0) (.c 0)),.false)::f2_
 let f5_:List (SB×Bool):=((.eq (.v 1) (.c 0)),.true)::f3_
 let f6_:List (SB×Bool):=((.eq (.v 1) (.c 0)),.false)::f4_
 let f7_:List (SB×Bool):=((.eq (.v 2) (.c 0)),.true)::f5_
 let f8_:List (SB×Bool):=((.eq (.v 1) (.c 1)),.true)::f6_
 let f9_:List (SB×Bool):=((.eq (.v 1) (.c 1)),.false)::f6_
 let f10_:List (SB×Bool):=((.eq (.v 3) (.c 0)),.true)::f7_
 let f11_:List (SB×Bool):=((.lt (.v 2) (.c 1)),.false)::f8_
 let f12_:List (SB×Bool):=((.eq (.v 1) (.c 2)),.true)::f9_
 let f13_:List (SB×Bool):=((.eq (.v 1) (.c 2)),.false)::f9_
 let f14_:List (SB×Bool):=p0_::f10_
 let f15_:List (SB×Bool):=((.lt (.c 5) (.v 2)),.false)::f11_
 let f16_:List (SB×Bool):=((.lt (.v 2) (.c 1)),.false)::f12_
 let f17_:List (SB×Bool):=((.eq (.v 2) (.c 0)),.true)::f13_
 let f18_:List (SB×Bool):=p1_::f14_
 let f19_:List (SB×Bool):=((.lt (.v 3) (.c 0)),.false)::f15_
 let f20_:List (SB×Bool):=((.lt (.c 5) (.v 2)),.false)::f16_
 let f21_:List (SB×Bool):=((.eq (.v 3) (.c 0)),.true)::f17_
 let f22_:List (SB×Bool):=p2_::f18_
 let f23_:List (SB×Bool):=((.lt (.c 3) (.v 3)),.false)::f19_
 let f24_:List (SB×Bool):=((.lt (.v 3) (.c 0)),.false)::f20_
 let f25_:List (SB×Bool):=p0_::f21_
 let f26_:List (SB×Bool):=p0_::f23_
 let f27_:List (SB×Bool):=p4_::f23_
 let f28_:List (SB×Bool):=((.lt (.c 3) (.v 3)),.false)::f24_
 let f29_:List (SB×Bool):=p1_::f25_
 let f30_:List (SB×Bool):=p1_::f26_
 let f31_:List (SB×Bool):=((.le (.c 0) (.v 4)),.true)::f27_
 let f32_:List (SB×Bool):=p0_::f28_
 let f33_:List (SB×Bool):=p2_::f29_
 let f34_:List (SB×Bool):=p2_::f30_
 let f35_:List (SB×Bool):=((.le (.v 4) (.c 1099511627776)),.true)::f31_
 let f36_:List (SB×Bool):=((.le (.v 6) (.v 5)),.true)::f32_
 let f37_:List (SB×Bool):=p1_::f35_
 let f38_:List (SB×Bool):=p2_::f37_
 [(.fin (p3_::f22_) 0 ⟨⟨[],[]⟩,[],[],[]⟩ [(.eb (.and (.ap 20 (.v 0) (.v 1) (.v 2) (.v 3) (.v 4) (.c 0)) (.ap 21 (.v 1) (.v 5) (.v 6) (.v 7) (.c 0) (.c 0))) (.c .true))] []),
  (.fin (p5_::f22_) 0 ⟨⟨[],[]⟩,[],[],[]⟩ [(.eb (.and (.ap 20 (.v 0) (.v 1) (.v 2) (.v 3) (.v 4) (.c 0)) (.ap 21 (.v 1) (.v 5) (.v 6) (.v 7) (.c 0) (.c 0))) (.c .false))] []),
  (.fin (p6_::f18_) 0 ⟨⟨[],[]⟩,[],[],[]⟩ [(.eb (.and (.ap 20 (.v 0) (.v 1) (.v 2) (.v 3) (.v 4) (.c 0)) (.ap 21 (.v 1) (.v 5) (.v 6) (.v 7) (.c 0) (.c 0))) (.c .false))] []),
  (.fin (p7_::f14_) 0 ⟨⟨[],[]⟩,[],[],[]⟩ [(.eb (.and (.ap 20 (.v 0) (.v 1) (.v 2) (.v 3) (.v 4) (.c 0)) (.ap 21 (.v 1) (.v 5) (.v 6) (.v 7) (.c 0) (.c 0))) (.c .false))] []),
  (.fin (p4_::f10_) 0 ⟨⟨[],[]⟩,[],[],[]⟩ [(.eb (.and (.ap 20 (.v 0) (.v 1) (.v 2) (.v 3) (.v 4) (.c 0)) (.ap 21 (.v 1) (.v 5) (.v 6) (.v 7) (.c 0) (.c 0))) (.c .false))] []),
  (.fin (((.eq (.v 3) (.c 0)),.false)::f7_) 0 ⟨⟨[],[]⟩,[],[],[]⟩ [(.eb (.and (.ap 20 (.v 0) (.v 1) (.v 2) (.v 3) (.v 4) (.c 0)) (.ap 21 (.v 1) (.v 5) (.v 6) (.v 7) (.c 0) (.c 0))) (.c .false))] []),
  (.fin (((.eq (.v 2) (.c 0)),.false)::f5_) 0 ⟨⟨[],[]⟩,[],[],[]⟩ [(.eb (.and (.ap 20 (.v 0) (.v 1) (.v 2) (.v 3) (.v 4) (.c 0)) (.ap 21 (.v 1) (.v 5) (.v 6) (.v 7) (.c 0) (.c 0))) (.c .false))] []),
  (.fin (((.eq (.v 1) (.c 0)),.false)::f3_) 0 ⟨⟨[],[]⟩,[],[],[]⟩ [(.eb (.and (.ap 20 (.v 0) (.v 1) (.v 2) (.v 3) (.v 4) (.c 0)) (.ap 21 (.v 1) (.v 5) (.v 6) (.v 7) (.c 0) (.c 0))) (.c .false))] []),
  (.fin (((.eq (.v 1) (.c 0)),.true)::f4_) 0 ⟨⟨[],[]⟩,[],[],[]⟩ [(.eb (.and (.ap 20 (.v 0) (.v 1) (.v 2) (.v 3) (.v 4) (.c 0)) (.ap 21 (.v 1) (.v 5) (.v 6) (.v 7) (.c 0) (.c 0))) (.c .false))] []),
  (.fin (((.lt (.v 2) (.c 1)),.true)::f8_) 0 ⟨⟨[],[]⟩,[],[],[]⟩ [(.eb (.and (.ap 20 (.v 0) (.v 1) (.v 2) (.v 3) (.v 4) (.c 0)) (.ap 21 (.v 1) (.v 5) (.v 6) (.v 7) (.c 0) (.c 0))) (.c .false))] []),
  (.fin (((.lt (.c 5) (.v 2)),.true)::f11_) 0 ⟨⟨[],[]⟩,[],[],[]⟩ [(.eb (.and (.ap 20 (.v 0) (.v 1) (.v 2) (.v 3) (.v 4) (.c 0)) (.ap 21 (.v 1) (.v 5) (.v 6) (.v 7) (.c 0) (.c 0))) (.c .false))] []),
  (.fin (((.lt (.v 3) (.c 0)),.true)::f15_) 0 ⟨⟨[],[]⟩,[],[],[]⟩ [(.eb (.and (.ap 20 (.v 0) (.v 1) (.v 2) (.v 3) (.v 4) (.c 0)) (.ap 21 (.v 1) (.v 5) (.v 6) (.v 7) (.c 0) (.c 0))) (.c .false))] []),
  (.fin (((.lt (.c 3) (.v 3)),.true)::f19_) 0 ⟨⟨[],[]⟩,[],[],[]⟩ [(.eb (.and (.ap 20 (.v 0) (.v 1) (.v 2) (.v 3) (.v 4) (.c 0)) (.ap 21 (.v 1) (.v 5) (.v 6) (.v 7) (.c 0) (.c 0))) (.c .false))] []),
  (.fin (p3_::f34_) 0 ⟨⟨[],[]⟩,[],[],[]⟩ [(.eb (.and (.ap 20 (.v 0) (.v 1) (.v 2) (.v 3) (.v 4) (.c 0)) (.ap 21 (.v 1) (.v 5) (.v 6) (.v 7) (.c 0) (.c 0))) (.c .true))] []),
  (.fin (p5_::f34_) 0 ⟨⟨[],[]⟩,[],[],[]⟩ [(.eb (.and (.ap 20 (.v 0) (.v 1) (.v 2) (.v 3) (.v 4) (.c 0)) (.ap 21 (.v 1) (.v 5) (.v 6) (.v 7) (.c 0) (.c 0))) (.c .false))] []),
  (.fin (p6_::f30_) 0 ⟨⟨[],[]⟩,[],[],[]⟩ [(.eb (.and (.ap 20 (.v 0) (.v 1) (.v 2) (.v 3) (.v 4) (.c 0)) (.ap 21 (.v 1) (.v 5) (.v 6) (.v 7) (.c 0) (.c 0))) (.c .false))] []),
  (.fin (p7_::f26_) 0 ⟨⟨[],[]⟩,[],[],[]⟩ [(.eb (.and (.ap 20 (.v 0) (.v 1) (.v 2) (.v 3) (.v 4) (.c 0)) (.ap 21 (.v 1) (.v 5) (.v 6) (.v 7) (.c 0) (.c 0))) (.c .false))] []),
  (.fin (p3_::f38_) 0 ⟨⟨[],[]⟩,[],[],[]⟩ [(.eb (.and (.ap 20 (.v 0) (.v 1) (.v 2) (.v 3) (.v 4) (.c 0)) (.ap 21 (.v 1) (.v 5) (.v 6) (.v 7) (.c 0) (.c 0))) (.c .true))] []),
  (.fin (p5_::f38_) 0 ⟨⟨[],[]⟩,[],[],[]⟩ [(.eb (.and (.ap 20 (.v 0) (.v 1) (.v 2) (.v 3) (.v 4) (.c 0)) (.ap 21 (.v 1) (.v 5) (.v 6) (.v 7) (.c 0) (.c 0))) (.c .false))] []),
  (.fin (p6_::f37_) 0 ⟨⟨[],[]⟩,[],[],[]⟩ [(.eb (.and (.ap 20 (.v 0) (.v 1) (.v 2) (.v 3) (.v 4) (.c 0)) (.ap 21 (.v 1) (.v 5) (.v 6) (.v 7) (.c 0) (.c 0))) (.c .false))] []),
  (.fin (p7_::f35_) 0 ⟨⟨[],[]⟩,[],[],[]⟩ [(.eb (.and (.ap 20 (.v 0) (.v 1) (.v 2) (.v 3) (.v 4) (.c 0)) (.ap 21 (.v 1) (.v 5) (.v 6) (.v 7) (.c 0) (.c 0))) (.c .false))] []),
  (.fin (((.le (.v 4) (.c 1099511627776)),.false)::f31_) 0 ⟨⟨[],[]⟩,[],[],[]⟩ [(.eb (.and (.ap 20 (.v 0) (.v 1) (.v 2) (.v 3) (.v 4) (.c 0)) (.ap 21 (.v 1) (.v 5) (.v 6) (.v 7) (.c 0) (.c 0))) (.c .false))] []),
  (.fin (((.le (.c 0) (.v 4)),.false)::f27_) 0 ⟨⟨[],[]⟩,[],[],[]⟩ [(.eb (.and (.ap 20 (.v 0) (.v 1) (.v 2) (.v 3) (.v 4) (.c 0)) (.ap 21 (.v 1) (.v 5) (.v 6) (.v 7) (.c 0) (.c 0))) (.c .false))] []),
  (.fin (((.lt (.v 2) (.c 1)),.true)::f12_) 0 ⟨⟨[],[]⟩,[],[],[]⟩ [(.eb (.and (.ap 20 (.v 0) (.v 1) (.v 2) (.v 3) (.v 4) (.c 0)) (.ap 21 (.v 1) (.v 5) (.v 6) (.v 7) (.c 0) (.c 0))) (.c .false))] []),
  (.fin (((.lt (.c 5) (.v 2)),.true)::f16_) 0 ⟨⟨[],[]⟩,[],[],[]⟩ [(.eb (.and (.ap 20 (.v 0) (.v 1) (.v 2) (.v 3) (.v 4) (.c 0)) (.ap 21 (.v 1) (.v 5) (.v 6) (.v 7) (.c 0) (.c 0))) (.c .false))] []),
  (.fin (((.lt (.v 3) (.c 0)),.true)::f20_) 0 ⟨⟨[],[]⟩,[],[],[]⟩ [(.eb (.and (.ap 20 (.v 0) (.v 1) (.v 2) (.v 3) (.v 4) (.c 0)) (.ap 21 (.v 1) (.v 5) (.v 6) (.v 7) (.c 0) (.c 0))) (.c .false))] []),
  (.fin (((.lt (.c 3) (.v 3)),.true)::f24_) 0 ⟨⟨[],[]⟩,[],[],[]⟩ [(.eb (.and (.ap 20 (.v 0) (.v 1) (.v 2) (.v 3) (.v 4) (.c 0)) (.ap 21 (.v 1) (.v 5) (.v 6) (.v 7) (.c 0) (.c 0))) (.c .false))] []),
  (.fin (((.le (.v 7) (.c 4611686018427387904)),.true)::f36_) 0 ⟨⟨[],[]⟩,[],[],[]⟩ [(.eb (.and (.ap 20 (.v 0) (.v 1) (.v 2) (.v 3) (.v 4) (.c 0)) (.ap 21 (.v 1) (.v 5) (.v 6) (.v 7) (.c 0) (.c 0))) (.c .true))] []),
  (.fin (((.le (.v 7) (.c 4611686018427387904)),.false)::f36_) 0 ⟨⟨[],[]⟩,[],[],[]⟩ [(.eb (.and (.ap 20 (.v 0) (.v 1) (.v 2) (.v 3) (.v 4) (.c 0)) (.ap 21 (.v 1) (.v 5) (.v 6) (.v 7) (.c 0) (.c 0))) (.c .false))] []),
  (.fin (((.le (.v 6) (.v 5)),.false)::f32_) 0 ⟨⟨[],[]⟩,[],[],[]⟩ [(.eb (.and (.ap 20 (.v 0) (.v 1) (.v 2) (.v 3) (.v 4) (.c 0)) (.ap 21 (.v 1) (.v 5) (.v 6) (.v 7) (.c 0) (.c 0))) (.c .false))] []),
  (.fin (p4_::f28_) 0 ⟨⟨[],[]⟩,[],[],[]⟩ [(.eb (.and (.ap 20 (.v 0) (.v 1) (.v 2) (.v 3) (.v 4) (.c 0)) (.ap 21 (.v 1) (.v 5) (.v 6) (.v 7) (.c 0) (.c 0))) (.c .false))] []),
  (.fin (p3_::f33_) 0 ⟨⟨[],[]⟩,[],[],[]⟩ [(.eb (.and (.ap 20 (.v 0) (.v 1) (.v 2) (.v 3) (.v 4) (.c 0)) (.ap 21 (.v 1) (.v 5) (.v 6) (.v 7) (.c 0) (.c 0))) (.c .true))] []),
  (.fin (p5_::f33_) 0 ⟨⟨[],[]⟩,[],[],[]⟩ [(.eb (.and (.ap 20 (.v 0) (.v 1) (.v 2) (.v 3) (.v 4) (.c 0)) (.ap 21 (.v 1) (.v 5) (.v 6) (.v 7) (.c 0) (.c 0))) (.c .false))] []),
  (.fin (p6_::f29_) 0 ⟨⟨[],[]⟩,[],[],[]⟩ [(.eb (.and (.ap 20 (.v 0) (.v 1) (.v 2) (.v 3) (.v 4) (.c 0)) (.ap 21 (.v 1) (.v 5) (.v 6) (.v 7) (.c 0) (.c 0))) (.c .false))] []),
  (.fin (p7_::f25_) 0 ⟨⟨[],[]⟩,[],[],[]⟩ [(.eb (.and (.ap 20 (.v 0) (.v 1) (.v 2) (.v 3) (.v 4) (.c 0)) (.ap 21 (.v 1) (.v 5) (.v 6) (.v 7) (.c 0) (.c 0))) (.c .false))] []),
  (.fin (p4_::f21_) 0 ⟨⟨[],[]⟩,[],[],[]⟩ [(.eb (.and (.ap 20 (.v 0) (.v 1) (.v 2) (.v 3) (.v 4) (.c 0)) (.ap 21 (.v 1) (.v 5) (.v 6) (.v 7) (.c 0) (.c 0))) (.c .false))] []),
  (.fin (((.eq (.v 3) (.c 0)),.false)::f17_) 0 ⟨⟨[],[]⟩,[],[],[]⟩ [(.eb (.and (.ap 20 (.v 0) (.v 1) (.v 2) (.v 3) (.v 4) (.c 0)) (.ap 21 (.v 1) (.v 5) (.v 6) (.v 7) (.c 0) (.c 0))) (.c .false))] []),
  (.fin (((.eq (.v 2) (.c 0)),.false)::f13_) 0 ⟨⟨[],[]⟩,[],[],[]⟩ [(.eb (.and (.ap 20 (.v 0) (.v 1) (.v 2) (.v 3) (.v 4) (.c 0)) (.ap 21 (.v 1) (.v 5) (.v 6) (.v 7) (.c 0) (.c 0))) (.c .false))] []),
  (.fin (((.le (.v 1) (.c 5)),.false)::f1_) 0 ⟨⟨[],[]⟩,[],[],[]⟩ [(.eb (.and (.ap 20 (.v 0) (.v 1) (.v 2) (.v 3) (.v 4) (.c 0)) (.ap 21 (.v 1) (.v 5) (.v 6) (.v 7) (.c 0) (.c 0))) (.c .false))] []),
  (.fin (((.le (.c 0) (.v 1)),.false)::f0_) 0 ⟨⟨[],[]⟩,[],[],[]⟩ [(.eb (.and (.ap 20 (.v 0) (.v 1) (.v 2) (.v 3) (.v 4) (.c 0)) (.ap 21 (.v 1) (.v 5) (.v 6) (.v 7) (.c 0) (.c 0))) (.c .false))] []),
  (.fin ([((.le (.v 0) (.c 1099511627776)),.false),((.le (.c 0) (.v 0)),.true)]) 0 ⟨⟨[],[]⟩,[],[],[]⟩ [(.eb (.and (.ap 20 (.v 0) (.v 1) (.v 2) (.v 3) (.v 4) (.c 0)) (.ap 21 (.v 1) (.v 5) (.v 6) (.v 7) (.c 0) (.c 0))) (.c .false))] []),
  (.fin ([((.le (.c 0) (.v 0)),.false)]) 0 ⟨⟨[],[]⟩,[],[],[]⟩ [(.eb (.and (.ap 20 (.v 0) (.v 1) (.v 2) (.v 3) (.v 4) (.c 0)) (.ap 21 (.v 1) (.v 5) (.v 6) (.v 7) (.c 0) (.c 0))) (.c .false))] [])]
def sMay_run (T:Tm):=(ex (ccOf Tryz.prog BF [55,53,52,54] sMay) ((fun _=>[]) (ccOf Tryz.prog BF [55,53,52,54] sMay)) (dw (ccOf Tryz.prog BF [55,53,52,54] sMay) ((fun _=>[]) (ccOf Tryz.prog BF [55,53,52,54] sMay)) 1000 4) (stopX [0,1,2,3,4,5,6,7,8,9,10,11,12,13,14,15,16,17,18,19,20,21,22,23,24,25,26,27,28,29,30,31,32,33,34,35,36,37,38,39,40,41,42,43,44,45,46,47,48,49,50,51,52,53,54,55,56,57,58,59,60,61,62,63,64,65,66,67,68,69,70,71,72,73,74,75,76,77,78,79,80,81,82,83,84,85,86,87,88,89,90,91,92,93,94,95,96,97,98,99,100,101,102,103,104,105,106,107,108,109,110,111,112,113,114,115,116,117,118,119,120,121,122,123,124,125,126,127,128,129,130,131,132,133,134,135,136,137,138,139,140,141,142,143,144,145,146,147,148,149,150,151,152,153,154,155,156,157,158,159,160,161,162,163,164,165,166,167,168,169,170,171,172,173,174,175,176,177,178,179,180,181,182,183,184,185,186,187,188,189,190,191,192,193,194,195,196,197,198,199,200,201,202,203,204,205,206,207,208,209,210,211,212,213,214,215,216,217,218,219,220,221,222,223,224,225,226,227,228,229,230,231,232,233,234,235,236,237,238,239,240,241,242,243,244,245,246,247,248,249]) 20000 T.f T.fs T.H).lfs (ccOf Tryz.prog BF [55,53,52,54] sMay) ((tm0 sMay Tryz.f32 (Tryz.f32.body.getD .skip))::[]) sMay.os
theorem sMay_h0:sMay_run (tm0 sMay Tryz.f32 (Tryz.f32.body.getD .skip))=some sMay_L0:=by kernel_rfl
def sMay_inv:(Nat→Int)→(Nat→Bool)→Nat→(Nat→Int)→(Nat→Bool)→Prop:=fun _ _ _ _ _=>True
def sMay_mu:(Nat→Int)→(Nat→Bool)→Nat→(Nat→Int)→(Nat→Bool)→Nat:=fun _ _ _ _ _=>0
theorem sMay_b {iv0:Nat→Int} (hin:InB sMay.B iv0):(0≤iv0 7∧iv0 7≤18446744073709551615)∧((-9223372036854775808)≤iv0 0∧iv0 0≤9223372036854775807)∧((-9223372036854775808)≤iv0 1∧iv0 1≤9223372036854775807)∧((-9223372036854775808)≤iv0 2∧iv0 2≤9223372036854775807)∧((-9223372036854775808)≤iv0 3∧iv0 3≤9223372036854775807)∧((-9223372036854775808)≤iv0 4∧iv0 4≤9223372036854775807)∧((-9223372036854775808)≤iv0 5∧iv0 5≤9223372036854775807)∧((-9223372036854775808)≤iv0 6∧iv0 6≤9223372036854775807):=by
 have b7:=hin 7 0 18446744073709551615 (by simp [sMay,kS,slV,mayV,i64s,i64b,lmap,lS,gS,bS,fS,bdS,shV,o1])
 simp only [Int.reduceLE,reduceIte,Int.reduceNeg] at b7
 have b0:=hin 0 (-9223372036854775808) 9223372036854775807 (by simp [sMay,kS,slV,mayV,i64s,i64b,lmap,lS,gS,bS,fS,bdS,shV,o1])
 simp only [Int.reduceLE,reduceIte,Int.reduceNeg] at b0
 have b1:=hin 1 (-9223372036854775808) 9223372036854775807 (by simp [sMay,kS,slV,mayV,i64s,i64b,lmap,lS,gS,bS,fS,bdS,shV,o1])
 simp only [Int.reduceLE,reduceIte,Int.reduceNeg] at b1
 have b2:=hin 2 (-9223372036854775808) 9223372036854775807 (by simp [sMay,kS,slV,mayV,i64s,i64b,lmap,lS,gS,bS,fS,bdS,shV,o1])
 simp only [Int.reduceLE,reduceIte,Int.reduceNeg] at b2
 have b3:=hin 3 (-9223372036854775808) 9223372036854775807 (by simp [sMay,kS,slV,mayV,i64s,i64b,lmap,lS,gS,bS,fS,bdS,shV,o1])
 simp only [Int.reduceLE,reduceIte,Int.reduceNeg] at b3
 have b4:=hin 4 (-9223372036854775808) 9223372036854775807 (by simp [sMay,kS,slV,mayV,i64s,i64b,lmap,lS,gS,bS,fS,bdS,shV,o1])
 simp only [Int.reduceLE,reduceIte,Int.reduceNeg] at b4
 have b5:=hin 5 (-9223372036854775808) 9223372036854775807 (by simp [sMay,kS,slV,mayV,i64s,i64b,lmap,lS,gS,bS,fS,bdS,shV,o1])
 simp only [Int.reduceLE,reduceIte,Int.reduceNeg] at b5
 have b6:=hin 6 (-9223372036854775808) 9223372036854775807 (by simp [sMay,kS,slV,mayV,i64s,i64b,lmap,lS,gS,bS,fS,bdS,shV,o1])
 simp only [Int.reduceLE,reduceIte,Int.reduceNeg] at b6
 exact ⟨b7,b0,b1,b2,b3,b4,b5,b6⟩
def sMay_ob (k:Nat) (l:List Lf):Prop:=∀ (kv:Kv) (iv0:Nat→Int) (bv0:Nat→Bool),InB sMay.B iv0→FT (sta FI FB kv iv0 bv0) (dlt dyn0) sMay.F→∀ (iv:Nat→Int) (bv:Nat→Bool),Agr 8 iv0 bv0 iv bv→sMay_inv iv0 bv0 k iv bv→∀ lf∈l,LfT (sta FI FB kv) sMay.os (sMay_inv iv0 bv0) (sMay_mu iv0 bv0) k iv bv lf
theorem sMay_o0:sMay_ob 0 sMay_L0:=by
 intro kv iv0 bv0 hin hF iv bv ha hi
 unfold sMay_L0
 refine List.forall_mem_cons.2 ⟨?_,List.forall_mem_cons.2 ⟨?_,List.forall_mem_cons.2 ⟨?_,List.forall_mem_cons.2 ⟨?_,List.forall_mem_cons.2 ⟨?_,List.forall_mem_cons.2 ⟨?_,List.forall_mem_cons.2 ⟨?_,List.forall_mem_cons.2 ⟨?_,List.forall_mem_cons.2 ⟨?_,List.forall_mem_cons.2 ⟨?_,List.forall_mem_cons.2 ⟨?_,List.forall_mem_cons.2 ⟨?_,List.forall_mem_cons.2 ⟨?_,List.forall_mem_cons.2 ⟨?_,List.forall_mem_cons.2 ⟨?_,List.forall_mem_cons.2 ⟨?_,List.forall_mem_cons.2 ⟨?_,List.forall_mem_cons.2 ⟨?_,List.forall_mem_cons.2 ⟨?_,List.forall_mem_cons.2 ⟨?_,List.forall_mem_cons.2 ⟨?_,List.forall_mem_cons.2 ⟨?_,List.forall_mem_cons.2 ⟨?_,List.forall_mem_cons.2 ⟨?_,List.forall_mem_cons.2 ⟨?_,List.forall_mem_cons.2 ⟨?_,List.forall_mem_cons.2 ⟨?_,List.forall_mem_cons.2 ⟨?_,List.forall_mem_cons.2 ⟨?_,List.forall_mem_cons.2 ⟨?_,List.forall_mem_cons.2 ⟨?_,List.forall_mem_cons.2 ⟨?_,List.forall_mem_cons.2 ⟨?_,List.forall_mem_cons.2 ⟨?_,List.forall_mem_cons.2 ⟨?_,List.forall_mem_cons.2 ⟨?_,List.forall_mem_cons.2 ⟨?_,List.forall_mem_cons.2 ⟨?_,List.forall_mem_cons.2 ⟨?_,List.forall_mem_cons.2 ⟨?_,List.forall_mem_cons.2 ⟨?_,List.forall_mem_cons.2 ⟨?_,List.forall_mem_nil _⟩⟩⟩⟩⟩⟩⟩⟩⟩⟩⟩⟩⟩⟩⟩⟩⟩⟩⟩⟩⟩⟩⟩⟩⟩⟩⟩⟩⟩⟩⟩⟩⟩⟩⟩⟩⟩⟩⟩⟩⟩⟩
 all_goals
  intro δ hf
 all_goals
  obtain ⟨b7,b0,b1,b2,b3,b4,b5,b6⟩:=sMay_b hin
 all_goals
  have a0:=ha.1 0 (by omega)
  have a1:=ha.1 1 (by omega)
  have a2:=ha.1 2 (by omega)
  have a3:=ha.1 3 (by omega)
  have a4:=ha.1 4 (by omega)
  have a5:=ha.1 5 (by omega)
  have a6:=ha.1 6 (by omega)
  have a7:=ha.1 7 (by omega)
 all_goals
  simp only [FT,TP,SB.tp,SI.tv,sta,IB.eval,and_true,true_and,ObsT,Ob.Tv,rowT,kix,In.tiv,↓tbvT,In.tbv,get_cons,get_nil,reduceIte,Nat.reduceEqDiff,Int.reduceToNat,Int.reduceAdd,Int.reduceSub,Int.reduceLE,Int.reduceLT,Int.reduceEq,ne_eq,Bool.false_eq_true,not_true_eq_false,not_false_eq_true,true_iff,false_iff,iff_true,iff_false,false_implies,implies_true,decT,decide_true,decide_false,Bool.decide_eq_true,ap2,pb2,FI_3,FI_3u,FI_8,FI_9,FI_3g,FI_3k,FI_8s,FI_8l,FI_8d,FB_1h,FB_1a,Int.toNat_natCast,Int.toNat_zero,FI_20,FI_21,FB_20,FB_21,sMay_inv,sMay_mu,sMay,o1,othT,kS,slV,mayV,i64s,i64b,lmap,lS,gS,bS,fS,bdS,shV,o1,a0,a1,a2,a3,a4,a5,a6,a7] at hf hi ⊢
 all_goals
  (repeat' (with_reducible apply And.intro))<;>first
  | omega
  | assumption
  | (unfold inM;omega)
  | exact trivial
  | (simp only [mayA,mayB];omega)
  | (intro h;simp only [mayA,mayB] at h;omega)
  | (clear hin hF ha;grind)
theorem sMay_c:LsC ((tm0 sMay Tryz.f32 (Tryz.f32.body.getD .skip))::[]) sMay.os [sMay_L0]:=by
 unfold sMay_L0
 exact ⟨List.forall_mem_cons.2 ⟨⟨⟨_,rfl,rfl⟩,by kernel_rfl⟩,List.forall_mem_cons.2 ⟨⟨⟨_,rfl,rfl⟩,by kernel_rfl⟩,List.forall_mem_cons.2 ⟨⟨⟨_,rfl,rfl⟩,by kernel_rfl⟩,List.forall_mem_cons.2 ⟨⟨⟨_,rfl,rfl⟩,by kernel_rfl⟩,List.forall_mem_cons.2 ⟨⟨⟨_,rfl,rfl⟩,by kernel_rfl⟩,List.forall_mem_cons.2 ⟨⟨⟨_,rfl,rfl⟩,by kernel_rfl⟩,List.forall_mem_cons.2 ⟨⟨⟨_,rfl,rfl⟩,by kernel_rfl⟩,List.forall_mem_cons.2 ⟨⟨⟨_,rfl,rfl⟩,by kernel_rfl⟩,List.forall_mem_cons.2 ⟨⟨⟨_,rfl,rfl⟩,by kernel_rfl⟩,List.forall_mem_cons.2 ⟨⟨⟨_,rfl,rfl⟩,by kernel_rfl⟩,List.forall_mem_cons.2 ⟨⟨⟨_,rfl,rfl⟩,by kernel_rfl⟩,List.forall_mem_cons.2 ⟨⟨⟨_,rfl,rfl⟩,by kernel_rfl⟩,List.forall_mem_cons.2 ⟨⟨⟨_,rfl,rfl⟩,by kernel_rfl⟩,List.forall_mem_cons.2 ⟨⟨⟨_,rfl,rfl⟩,by kernel_rfl⟩,List.forall_mem_cons.2 ⟨⟨⟨_,rfl,rfl⟩,by kernel_rfl⟩,List.forall_mem_cons.2 ⟨⟨⟨_,rfl,rfl⟩,by kernel_rfl⟩,List.forall_mem_cons.2 ⟨⟨⟨_,rfl,rfl⟩,by kernel_rfl⟩,List.forall_mem_cons.2 ⟨⟨⟨_,rfl,rfl⟩,by kernel_rfl⟩,List.forall_mem_cons.2 ⟨⟨⟨_,rfl,rfl⟩,by kernel_rfl⟩,List.forall_mem_cons.2 ⟨⟨⟨_,rfl,rfl⟩,by kernel_rfl⟩,List.forall_mem_cons.2 ⟨⟨⟨_,rfl,rfl⟩,by kernel_rfl⟩,List.forall_mem_cons.2 ⟨⟨⟨_,rfl,rfl⟩,by kernel_rfl⟩,List.forall_mem_cons.2 ⟨⟨⟨_,rfl,rfl⟩,by kernel_rfl⟩,List.forall_mem_cons.2 ⟨⟨⟨_,rfl,rfl⟩,by kernel_rfl⟩,List.forall_mem_cons.2 ⟨⟨⟨_,rfl,rfl⟩,by kernel_rfl⟩,List.forall_mem_cons.2 ⟨⟨⟨_,rfl,rfl⟩,by kernel_rfl⟩,List.forall_mem_cons.2 ⟨⟨⟨_,rfl,rfl⟩,by kernel_rfl⟩,List.forall_mem_cons.2 ⟨⟨⟨_,rfl,rfl⟩,by kernel_rfl⟩,List.forall_mem_cons.2 ⟨⟨⟨_,rfl,rfl⟩,by kernel_rfl⟩,List.forall_mem_cons.2 ⟨⟨⟨_,rfl,rfl⟩,by kernel_rfl⟩,List.forall_mem_cons.2 ⟨⟨⟨_,rfl,rfl⟩,by kernel_rfl⟩,List.forall_mem_cons.2 ⟨⟨⟨_,rfl,rfl⟩,by kernel_rfl⟩,List.forall_mem_cons.2 ⟨⟨⟨_,rfl,rfl⟩,by kernel_rfl⟩,List.forall_mem_cons.2 ⟨⟨⟨_,rfl,rfl⟩,by kernel_rfl⟩,List.forall_mem_cons.2 ⟨⟨⟨_,rfl,rfl⟩,by kernel_rfl⟩,List.forall_mem_cons.2 ⟨⟨⟨_,rfl,rfl⟩,by kernel_rfl⟩,List.forall_mem_cons.2 ⟨⟨⟨_,rfl,rfl⟩,by kernel_rfl⟩,List.forall_mem_cons.2 ⟨⟨⟨_,rfl,rfl⟩,by kernel_rfl⟩,List.forall_mem_cons.2 ⟨⟨⟨_,rfl,rfl⟩,by kernel_rfl⟩,List.forall_mem_cons.2 ⟨⟨⟨_,rfl,rfl⟩,by kernel_rfl⟩,List.forall_mem_cons.2 ⟨⟨⟨_,rfl,rfl⟩,by kernel_rfl⟩,List.forall_mem_cons.2 ⟨⟨⟨_,rfl,rfl⟩,by kernel_rfl⟩,List.forall_mem_nil _⟩⟩⟩⟩⟩⟩⟩⟩⟩⟩⟩⟩⟩⟩⟩⟩⟩⟩⟩⟩⟩⟩⟩⟩⟩⟩⟩⟩⟩⟩⟩⟩⟩⟩⟩⟩⟩⟩⟩⟩⟩⟩,trivial⟩
theorem sMay_ok:sMay.Ok Tryz.prog FI FB:=
 Con.of_plain (body:=Tryz.f32.body.getD .skip) pok fiok EntsFor.nil sMay Tryz.func32 (by kernel_rfl) 8 [] (by kernel_rfl) [sMay_L0] ⟨sMay_h0,trivial⟩ sMay_c
  sMay_inv sMay_mu (fun _ _ _=>trivial) fun kv iv0 bv0 hin hF k l iv bv hk ha hi=>match k,hk,hi with
  | 0,hk,hi=>by
    cases hk
    exact sMay_o0 kv iv0 bv0 hin hF iv bv ha hi
  | k+1,hk,_=>by simp at hk
def sBad_T1:Tm:=⟨⟨33,19,[(8,(.it .i64 (.v 24))),(7,(.it .i64 (.v 1))),(0,(.sl (.k 0) (.v 2) (.v 1) (.v 3))),(1,(.fn 59 [] []))],[(.code (atC Tryz.f33 [1,0,1,0,0])),(.inLoop (atC Tryz.f33 [1,0,1,0,0])),(.inBlock 0),(.code (atC Tryz.f33 [1,1]))],[],.none⟩,[],
    ⟨[],0,0,0,[((.le (.v 1) (.v 3)),.true),((.le (.c 0) (.v 3)),.true)],[1,0],[(1,(0,64)),(2,(0,(-1))),(24,(0,(-1)))]⟩,[24]⟩
def sBad_L0:List Lf:=
 [(.cut ([((.le (.v 1) (.v 3)),.true),((.le (.c 0) (.v 3)),.true)]) 1 ⟨⟨[(24,(.c 0))],[]⟩,[],[],[]⟩ [] (shT sBad_T1 ⟨⟨[(24,(.c 0))],[]⟩,[],[],[]⟩))]
def sBad_L1:List Lf:=
 let x0_:SI:=(.ap 3 (.v 0) (.v 24) (.c 0) (.c 0) (.c 0) (.c 0))
 let x1_:SI:=(.ap 3 (.v 0) (.v 24) (.c 1) (.c 0) (.c 0) (.c 0))
 let x2_:SI:=(.ap 3 (.v 0) (.v 24) (.c 2) (.c 0) (.c 0) (.c 0))
 let x3_:SI:=(.ap 3 (.v 0) (.v 24) (.c 3) (.c 0) (.c 0) (.c 0))
 let x4_:SI:=(.ap 3 (.v 0) (.v 24) (.c 4) (.c 0) (.c 0) (.c 0))
 let x5_:SI:=(.ap 3 (.v 0) (.v 24) (.c 5) (.c 0) (.c 0) (.c 0))
 let x6_:SI:=(.ap 3 (.v 0) (.v 24) (.c 6) (.c 0) (.c 0) (.c 0))
 let x7_:SI:=(.ap 7 (.v 0) (.v 24) (.c 7) (.c 0) (.c 0) (.c 0))
 let x8_:SI:=(.ap 20 (.v 0) (.v 1) (.c 0) (.c 0) (.c 0) (.c 0))
 let f0_:List (SB×Bool):=[((.le (.v 1) (.v 3)),.true),((.le (.c 0) (.v 3)),.true)]
 let f1_:List (SB×Bool):=((.lt (.v 24) (.v 1)),.true)::f0_
 let f2_:List (SB×Bool):=((.ap 20 x0_ x1_ x2_ x3_ x4_ (.c 0)),.true)::f1_
 [(.cut (((.ap 21 x1_ x5_ x6_ x7_ (.c 0) (.c 0)),.true)::f2_) 1 ⟨⟨[(24,(.op .add (.v 24) (.c 1)))],[]⟩,[],[],[]⟩ [] (shT sBad_T1 ⟨⟨[(24,(.op .add (.v 24) (.c 1)))],[]⟩,[],[],[]⟩)),
  (.fin (((.ap 21 x1_ x5_ x6_ x7_ (.c 0) (.c 0)),.false)::f2_) 0 ⟨⟨[],[]⟩,[],[],[]⟩ [(.ei (.ap 20 (.v 0) (.v 1) (.c 0) (.c 0) (.c 0) (.c 0)) (.v 24)),(.fa (.lt x8_ (.v 1)) .true)] []),
  (.fin (((.ap 20 x0_ x1_ x2_ x3_ x4_ (.c 0)),.false)::f1_) 0 ⟨⟨[],[]⟩,[],[],[]⟩ [(.ei (.ap 20 (.v 0) (.v 1) (.c 0) (.c 0) (.c 0) (.c 0)) (.v 24)),(.fa (.lt x8_ (.v 1)) .true)] []),
  (.fin (((.lt (.v 24) (.v 1)),.false)::f0_) 0 ⟨⟨[],[]⟩,[],[],[]⟩ [(.ei (.ap 20 (.v 0) (.v 1) (.c 0) (.c 0) (.c 0) (.c 0)) (.c (-1))),(.fa (.lt x8_ (.v 1)) .true)] [])]
def sBad_run (T:Tm):=(ex (ccOf Tryz.prog BF [55,53,52,54] sBad) ((fun cc=>[sMay.ent cc]) (ccOf Tryz.prog BF [55,53,52,54] sBad)) (dw (ccOf Tryz.prog BF [55,53,52,54] sBad) ((fun cc=>[sMay.ent cc]) (ccOf Tryz.prog BF [55,53,52,54] sBad)) 1000 4) (stopX []) 4000 T.f T.fs T.H).lfs (ccOf Tryz.prog BF [55,53,52,54] sBad) ((tm0 sBad Tryz.f33 (Tryz.f33.body.getD .skip))::[sBad_T1]) sBad.os
theorem sBad_h0:sBad_run (tm0 sBad Tryz.f33 (Tryz.f33.body.getD .skip))=some sBad_L0:=by kernel_rfl
theorem sBad_h1:sBad_run sBad_T1=some sBad_L1:=by kernel_rfl
def sBad_inv:(Nat→Int)→(Nat→Bool)→Nat→(Nat→Int)→(Nat→Bool)→Prop:=fun iv0 _ k iv _=>match k with | 0=>True | _=>0≤iv 24∧iv 24≤iv0 1∧∀ j:Nat,(j:Int) < iv 24→mayR (iv0 0) j
def sBad_mu:(Nat→Int)→(Nat→Bool)→Nat→(Nat→Int)→(Nat→Bool)→Nat:=fun iv0 _ k iv _=>match k with | 0=>2 ^ 90 | _=>(iv0 1 - iv 24).toNat
theorem sBad_b {iv0:Nat→Int} (hin:InB sBad.B iv0):(0≤iv0 1∧iv0 1≤64)∧0≤iv0 2:=by
 have b1:=hin 1 0 64 (by simp [sBad,kS,slV,mayV,i64s,i64b,lmap,lS,gS,bS,fS,bdS,shV,o1])
 simp only [Int.reduceLE,reduceIte,Int.reduceNeg] at b1
 have b2:=hin 2 0 (-1) (by simp [sBad,kS,slV,mayV,i64s,i64b,lmap,lS,gS,bS,fS,bdS,shV,o1])
 simp only [Int.reduceLE,reduceIte,Int.reduceNeg] at b2
 exact ⟨b1,b2.1⟩
def sBad_ob (k:Nat) (l:List Lf):Prop:=∀ (kv:Kv) (iv0:Nat→Int) (bv0:Nat→Bool),InB sBad.B iv0→FT (sta FI FB kv iv0 bv0) (dlt dyn0) sBad.F→∀ (iv:Nat→Int) (bv:Nat→Bool),Agr 4 iv0 bv0 iv bv→sBad_inv iv0 bv0 k iv bv→∀ lf∈l,LfT (sta FI FB kv) sBad.os (sBad_inv iv0 bv0) (sBad_mu iv0 bv0) k iv bv lf
theorem sBad_o0:sBad_ob 0 sBad_L0:=by
 intro kv iv0 bv0 hin hF iv bv ha hi
 unfold sBad_L0
 refine List.forall_mem_cons.2 ⟨?_,List.forall_mem_nil _⟩
 all_goals
  intro δ hf
 all_goals
  obtain ⟨b1,b2⟩:=sBad_b hin
 all_goals
  have a0:=ha.1 0 (by omega)
  have a1:=ha.1 1 (by omega)
  have a2:=ha.1 2 (by omega)
  have a3:=ha.1 3 (by omega)
 all_goals
  simp only [FT,TP,SB.tp,SI.tv,sta,IB.eval,and_true,true_and,ObsT,Ob.Tv,rowT,kix,In.tiv,↓tbvT,In.tbv,get_cons,get_nil,reduceIte,Nat.reduceEqDiff,Int.reduceToNat,Int.reduceAdd,Int.reduceSub,Int.reduceLE,Int.reduceLT,Int.reduceEq,ne_eq,Bool.false_eq_true,not_true_eq_false,not_false_eq_true,true_iff,false_iff,iff_true,iff_false,false_implies,implies_true,decT,decide_true,decide_false,Bool.decide_eq_true,ap2,pb2,FI_3,FI_3u,FI_8,FI_9,FI_3g,FI_3k,FI_8s,FI_8l,FI_8d,FB_1h,FB_1a,Int.toNat_natCast,Int.toNat_zero,FI_20,FI_21,FB_20,FB_21,sBad_inv,sBad_mu,sBad,o1,othT,kS,slV,mayV,i64s,i64b,lmap,lS,gS,bS,fS,bdS,shV,o1,a0,a1,a2,a3] at hf hi ⊢
 all_goals
  (repeat' (with_reducible apply And.intro))<;>first
  | omega
  | assumption
  | (unfold inM;omega)
  | exact trivial
  | (intro j hj;omega)
  | (clear hin hF ha;grind)
theorem sBad_o1:sBad_ob 1 sBad_L1:=by
 intro kv iv0 bv0 hin hF iv bv ha hi
 unfold sBad_L1
 refine List.forall_mem_cons.2 ⟨?_,List.forall_mem_cons.2 ⟨?_,List.forall_mem_cons.2 ⟨?_,List.forall_mem_cons.2 ⟨?_,List.forall_mem_nil _⟩⟩⟩⟩
 all_goals
  intro δ hf
 all_goals
  obtain ⟨b1,b2⟩:=sBad_b hin
 all_goals
  have a0:=ha.1 0 (by omega)
  have a1:=ha.1 1 (by omega)
  have a2:=ha.1 2 (by omega)
  have a3:=ha.1 3 (by omega)
 all_goals
  simp only [FT,TP,SB.tp,SI.tv,sta,IB.eval,and_true,true_and,ObsT,Ob.Tv,rowT,kix,In.tiv,↓tbvT,In.tbv,get_cons,get_nil,reduceIte,Nat.reduceEqDiff,Int.reduceToNat,Int.reduceAdd,Int.reduceSub,Int.reduceLE,Int.reduceLT,Int.reduceEq,ne_eq,Bool.false_eq_true,not_true_eq_false,not_false_eq_true,true_iff,false_iff,iff_true,iff_false,false_implies,implies_true,decT,decide_true,decide_false,Bool.decide_eq_true,ap2,pb2,FI_3,FI_3u,FI_8,FI_9,FI_3g,FI_3k,FI_8s,FI_8l,FI_8d,FB_1h,FB_1a,Int.toNat_natCast,Int.toNat_zero,FI_20,FI_21,FB_20,FB_21,sBad_inv,sBad_mu,sBad,o1,othT,kS,slV,mayV,i64s,i64b,lmap,lS,gS,bS,fS,bdS,shV,o1,a0,a1,a2,a3] at hf hi ⊢
 all_goals
  obtain ⟨g0,g1,g2⟩:=hi
 all_goals
  have e1:=fun h1 h2=>bad_some (c:=iv0 0) (n:=iv0 1) (by omega) g0 h1 h2 g2
 all_goals
  have e2:=fun h=>bad_none (c:=iv0 0) (n:=iv0 1) (by omega) h
 all_goals
  have e3:=may_suc g2 g0
 all_goals
  (repeat' (with_reducible apply And.intro))<;>first
  | omega
  | assumption
  | (unfold inM;omega)
  | (have e4:mayR (iv0 0) (iv 24).toNat:=(by unfold mayR;grind);exact e3 e4)
  | (have e4:¬ mayR (iv0 0) (iv 24).toNat:=(by unfold mayR;grind);have:=e1 (by omega) e4;omega)
  | (have:=e2 (fun j hj=>g2 j (by omega));omega)
  | (clear hin hF ha;grind)
theorem sBad_c:LsC ((tm0 sBad Tryz.f33 (Tryz.f33.body.getD .skip))::[sBad_T1]) sBad.os [sBad_L0,sBad_L1]:=by
 unfold sBad_L0 sBad_L1
 exact ⟨List.forall_mem_cons.2 ⟨⟨⟨_,rfl,rfl⟩,by kernel_rfl⟩,List.forall_mem_nil _⟩,List.forall_mem_cons.2 ⟨⟨⟨_,rfl,rfl⟩,by kernel_rfl⟩,List.forall_mem_cons.2 ⟨⟨⟨_,rfl,rfl⟩,by kernel_rfl⟩,List.forall_mem_cons.2 ⟨⟨⟨_,rfl,rfl⟩,by kernel_rfl⟩,List.forall_mem_cons.2 ⟨⟨⟨_,rfl,rfl⟩,by kernel_rfl⟩,List.forall_mem_nil _⟩⟩⟩⟩,trivial⟩
theorem sBad_ok:sBad.Ok Tryz.prog FI FB:=
 Con.of_plain (body:=Tryz.f33.body.getD .skip) pok fiok (EntsFor.cons sMay_ok EntsFor.nil) sBad Tryz.func33 (by kernel_rfl) 4 [sBad_T1] (by kernel_rfl) [sBad_L0,sBad_L1] ⟨sBad_h0,sBad_h1,trivial⟩ sBad_c
  sBad_inv sBad_mu (fun _ _ _=>trivial) fun kv iv0 bv0 hin hF k l iv bv hk ha hi=>match k,hk,hi with
  | 0,hk,hi=>by
    cases hk
    exact sBad_o0 kv iv0 bv0 hin hF iv bv ha hi
  | 1,hk,hi=>by
    cases hk
    exact sBad_o1 kv iv0 bv0 hin hF iv bv ha hi
  | k+2,hk,_=>by simp at hk
def sChk_L0:List Lf:=
 let x0_:SI:=(.ap 20 (.v 0) (.v 1) (.c 0) (.c 0) (.c 0) (.c 0))
 let f0_:List (SB×Bool):=[((.le (.v 1) (.v 3)),.true),((.le (.c 0) (.v 3)),.true)]
 let f1_:List (SB×Bool):=((.le (.c 1) (.v 4)),.true)::f0_
 let f2_:List (SB×Bool):=((.le (.v 4) (.c 64)),.true)::f1_
 let f3_:List (SB×Bool):=((.le (.c 1) (.v 5)),.true)::f2_
 let f4_:List (SB×Bool):=((.le (.v 5) (.c 8)),.true)::f3_
 let f5_:List (SB×Bool):=((.le (.c 1) (.v 6)),.true)::f4_
 let f6_:List (SB×Bool):=((.le (.v 6) (.c 4)),.true)::f5_
 let f7_:List (SB×Bool):=((.lt x0_ (.v 1)),.true)::((.le (.c (-1)) x0_),.true)::((.eq (.v 1) (.v 6)),.true)::f6_
 [(.fin (((.le (.c 0) x0_),.true)::f7_) 0 ⟨⟨[],[]⟩,[],[],[]⟩ [(.ei (.ap 22 (.v 0) (.v 1) (.v 4) (.v 5) (.v 6) (.c 0)) (.c 2))] []),
  (.fin (((.le (.c 0) x0_),.false)::f7_) 0 ⟨⟨[],[]⟩,[],[],[]⟩ [(.ei (.ap 22 (.v 0) (.v 1) (.v 4) (.v 5) (.v 6) (.c 0)) (.c 0))] []),
  (.fin (((.eq (.v 1) (.v 6)),.false)::f6_) 0 ⟨⟨[],[]⟩,[],[],[]⟩ [(.ei (.ap 22 (.v 0) (.v 1) (.v 4) (.v 5) (.v 6) (.c 0)) (.c 2))] []),
  (.fin (((.le (.v 6) (.c 4)),.false)::f5_) 0 ⟨⟨[],[]⟩,[],[],[]⟩ [(.ei (.ap 22 (.v 0) (.v 1) (.v 4) (.v 5) (.v 6) (.c 0)) (.c 2))] []),
  (.fin (((.le (.c 1) (.v 6)),.false)::f4_) 0 ⟨⟨[],[]⟩,[],[],[]⟩ [(.ei (.ap 22 (.v 0) (.v 1) (.v 4) (.v 5) (.v 6) (.c 0)) (.c 2))] []),
  (.fin (((.le (.v 5) (.c 8)),.false)::f3_) 0 ⟨⟨[],[]⟩,[],[],[]⟩ [(.ei (.ap 22 (.v 0) (.v 1) (.v 4) (.v 5) (.v 6) (.c 0)) (.c 2))] []),
  (.fin (((.le (.c 1) (.v 5)),.false)::f2_) 0 ⟨⟨[],[]⟩,[],[],[]⟩ [(.ei (.ap 22 (.v 0) (.v 1) (.v 4) (.v 5) (.v 6) (.c 0)) (.c 2))] []),
  (.fin (((.le (.v 4) (.c 64)),.false)::f1_) 0 ⟨⟨[],[]⟩,[],[],[]⟩ [(.ei (.ap 22 (.v 0) (.v 1) (.v 4) (.v 5) (.v 6) (.c 0)) (.c 2))] []),
  (.fin (((.le (.c 1) (.v 4)),.false)::f0_) 0 ⟨⟨[],[]⟩,[],[],[]⟩ [(.ei (.ap 22 (.v 0) (.v 1) (.v 4) (.v 5) (.v 6) (.c 0)) (.c 2))] [])]
def sChk_run (T:Tm):=(ex (ccOf Tryz.prog BF [55,53,52,54] sChk) ((fun cc=>[sMay.ent cc,sBad.ent cc]) (ccOf Tryz.prog BF [55,53,52,54] sChk)) (dw (ccOf Tryz.prog BF [55,53,52,54] sChk) ((fun cc=>[sMay.ent cc,sBad.ent cc]) (ccOf Tryz.prog BF [55,53,52,54] sChk)) 1000 4) (stopX [60,66,89,91,58]) 20000 T.f T.fs T.H).lfs (ccOf Tryz.prog BF [55,53,52,54] sChk) ((tm0 sChk Tryz.f12 (Tryz.f12.body.getD .skip))::[]) sChk.os
theorem sChk_h0:sChk_run (tm0 sChk Tryz.f12 (Tryz.f12.body.getD .skip))=some sChk_L0:=by kernel_rfl
def sChk_inv:(Nat→Int)→(Nat→Bool)→Nat→(Nat→Int)→(Nat→Bool)→Prop:=fun _ _ _ _ _=>True
def sChk_mu:(Nat→Int)→(Nat→Bool)→Nat→(Nat→Int)→(Nat→Bool)→Nat:=fun _ _ _ _ _=>0
theorem sChk_b {iv0:Nat→Int} (hin:InB sChk.B iv0):(0≤iv0 1∧iv0 1≤64)∧0≤iv0 2∧((-9223372036854775808)≤iv0 4∧iv0 4≤9223372036854775807)∧((-9223372036854775808)≤iv0 5∧iv0 5≤9223372036854775807)∧((-9223372036854775808)≤iv0 6∧iv0 6≤9223372036854775807):=by
 have b1:=hin 1 0 64 (by simp [sChk,kS,slV,mayV,i64s,i64b,lmap,lS,gS,bS,fS,bdS,shV,o1])
 simp only [Int.reduceLE,reduceIte,Int.reduceNeg] at b1
 have b2:=hin 2 0 (-1) (by simp [sChk,kS,slV,mayV,i64s,i64b,lmap,lS,gS,bS,fS,bdS,shV,o1])
 simp only [Int.reduceLE,reduceIte,Int.reduceNeg] at b2
 have b4:=hin 4 (-9223372036854775808) 9223372036854775807 (by simp [sChk,kS,slV,mayV,i64s,i64b,lmap,lS,gS,bS,fS,bdS,shV,o1])
 simp only [Int.reduceLE,reduceIte,Int.reduceNeg] at b4
 have b5:=hin 5 (-9223372036854775808) 9223372036854775807 (by simp [sChk,kS,slV,mayV,i64s,i64b,lmap,lS,gS,bS,fS,bdS,shV,o1])
 simp only [Int.reduceLE,reduceIte,Int.reduceNeg] at b5
 have b6:=hin 6 (-9223372036854775808) 9223372036854775807 (by simp [sChk,kS,slV,mayV,i64s,i64b,lmap,lS,gS,bS,fS,bdS,shV,o1])
 simp only [Int.reduceLE,reduceIte,Int.reduceNeg] at b6
 exact ⟨b1,b2.1,b4,b5,b6⟩
def sChk_ob (k:Nat) (l:List Lf):Prop:=∀ (kv:Kv) (iv0:Nat→Int) (bv0:Nat→Bool),InB sChk.B iv0→FT (sta FI FB kv iv0 bv0) (dlt dyn0) sChk.F→∀ (iv:Nat→Int) (bv:Nat→Bool),Agr 7 iv0 bv0 iv bv→sChk_inv iv0 bv0 k iv bv→∀ lf∈l,LfT (sta FI FB kv) sChk.os (sChk_inv iv0 bv0) (sChk_mu iv0 bv0) k iv bv lf
theorem sChk_o0:sChk_ob 0 sChk_L0:=by
 intro kv iv0 bv0 hin hF iv bv ha hi
 unfold sChk_L0
 refine List.forall_mem_cons.2 ⟨?_,List.forall_mem_cons.2 ⟨?_,List.forall_mem_cons.2 ⟨?_,List.forall_mem_cons.2 ⟨?_,List.forall_mem_cons.2 ⟨?_,List.forall_mem_cons.2 ⟨?_,List.forall_mem_cons.2 ⟨?_,List.forall_mem_cons.2 ⟨?_,List.forall_mem_cons.2 ⟨?_,List.forall_mem_nil _⟩⟩⟩⟩⟩⟩⟩⟩⟩
 all_goals
  intro δ hf
 all_goals
  obtain ⟨b1,b2,b4,b5,b6⟩:=sChk_b hin
 all_goals
  have a0:=ha.1 0 (by omega)
  have a1:=ha.1 1 (by omega)
  have a2:=ha.1 2 (by omega)
  have a3:=ha.1 3 (by omega)
  have a4:=ha.1 4 (by omega)
  have a5:=ha.1 5 (by omega)
  have a6:=ha.1 6 (by omega)
 all_goals
  simp only [FT,TP,SB.tp,SI.tv,sta,IB.eval,and_true,true_and,ObsT,Ob.Tv,rowT,kix,In.tiv,↓tbvT,In.tbv,get_cons,get_nil,reduceIte,Nat.reduceEqDiff,Int.reduceToNat,Int.reduceAdd,Int.reduceSub,Int.reduceLE,Int.reduceLT,Int.reduceEq,ne_eq,Bool.false_eq_true,not_true_eq_false,not_false_eq_true,true_iff,false_iff,iff_true,iff_false,false_implies,implies_true,decT,decide_true,decide_false,Bool.decide_eq_true,ap2,pb2,FI_3,FI_3u,FI_8,FI_9,FI_3g,FI_3k,FI_8s,FI_8l,FI_8d,FB_1h,FB_1a,Int.toNat_natCast,Int.toNat_zero,FI_20,FI_22,FB_20,FB_22,sChk_inv,sChk_mu,sChk,o1,othT,kS,slV,mayV,i64s,i64b,lmap,lS,gS,bS,fS,bdS,shV,o1,a0,a1,a2,a3,a4,a5,a6] at hf hi ⊢
 all_goals
  have e1:=@chk_0 (iv0 0) (iv0 1) (iv0 4) (iv0 5) (iv0 6)
 all_goals
  have e2:=@chk_2 (iv0 0) (iv0 1) (iv0 4) (iv0 5) (iv0 6)
 all_goals
  unfold shpS at e1 e2
 all_goals
  (repeat' (with_reducible apply And.intro))<;>first
  | omega
  | assumption
  | (unfold inM;omega)
  | exact trivial
  | (clear hin hF ha;grind)
theorem sChk_c:LsC ((tm0 sChk Tryz.f12 (Tryz.f12.body.getD .skip))::[]) sChk.os [sChk_L0]:=by
 unfold sChk_L0
 exact ⟨List.forall_mem_cons.2 ⟨⟨⟨_,rfl,rfl⟩,by kernel_rfl⟩,List.forall_mem_cons.2 ⟨⟨⟨_,rfl,rfl⟩,by kernel_rfl⟩,List.forall_mem_cons.2 ⟨⟨⟨_,rfl,rfl⟩,by kernel_rfl⟩,List.forall_mem_cons.2 ⟨⟨⟨_,rfl,rfl⟩,by kernel_rfl⟩,List.forall_mem_cons.2 ⟨⟨⟨_,rfl,rfl⟩,by kernel_rfl⟩,List.forall_mem_cons.2 ⟨⟨⟨_,rfl,rfl⟩,by kernel_rfl⟩,List.forall_mem_cons.2 ⟨⟨⟨_,rfl,rfl⟩,by kernel_rfl⟩,List.forall_mem_cons.2 ⟨⟨⟨_,rfl,rfl⟩,by kernel_rfl⟩,List.forall_mem_cons.2 ⟨⟨⟨_,rfl,rfl⟩,by kernel_rfl⟩,List.forall_mem_nil _⟩⟩⟩⟩⟩⟩⟩⟩⟩,trivial⟩
theorem sChk_ok:sChk.Ok Tryz.prog FI FB:=
 Con.of_plain (body:=Tryz.f12.body.getD .skip) pok fiok (EntsFor.cons sMay_ok (EntsFor.cons sBad_ok EntsFor.nil)) sChk Tryz.func12 (by kernel_rfl) 7 [] (by kernel_rfl) [sChk_L0] ⟨sChk_h0,trivial⟩ sChk_c
  sChk_inv sChk_mu (fun _ _ _=>trivial) fun kv iv0 bv0 hin hF k l iv bv hk ha hi=>match k,hk,hi with
  | 0,hk,hi=>by
    cases hk
    exact sChk_o0 kv iv0 bv0 hin hF iv bv ha hi
  | k+1,hk,_=>by simp at hk
end
end Go.Sx.Sl
