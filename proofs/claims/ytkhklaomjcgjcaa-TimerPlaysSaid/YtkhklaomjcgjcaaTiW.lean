/- Timers: TimerPlays, by contract. -/
import Derived.Test.YtkhklaomjcgjcaaTiV
import Derived.Test.YtkhklaomjcgjcaaTiR
import Derived.Test.YtkhklaomjcgjcaaTiX
namespace Go.Sx.Ti
set_option linter.unusedVariables false
set_option linter.unusedSimpArgs false
set_option maxRecDepth 100000
set_option maxHeartbeats 0
noncomputable section
open Go Go.Sx Go.Proofs
def kA:List Kd:=[.nt .i64,.nt .i64,.nt .i64]
def lA:SV:=.sl (.k 0) (.v 2) (.v 1) (.v 3)
def gA:List Gv:=[⟨0,.v 2,kA,0,.v 1⟩]
def bA:List (Nat×Int×Int):=[(1,0,9223372036854775807),(2,0,-1)]
def bA4:List (Nat×Int×Int):=i64b 4::bA
def lPlays:Con:=⟨5,[0,1,2,3,4],[.it .i64 (.v 4),lA],gA,bA4,fT,o1 (.bo (.c true))⟩
def lPlays0:Con:=⟨5,[4],[.it .i64 (.v 4),.sn],[],[i64b 4],[],o1 (.bo (.c true))⟩
def lPlays_T1:Tm:=⟨⟨5,84,[(8,(.it .i64 (.v 25))),(7,(.pt (.n 4) (.c 0))),(5,(.pt (.n 3) (.c 0))),(1,(.sl (.k 0) (.v 2) (.v 1) (.v 3)))],[(.code (atC Try.f5 [1,1,1,1,1,1,0,1,0,0])),(.inLoop (atC Try.f5 [1,1,1,1,1,1,0,1,0,0])),(.inBlock 0),(.code (atC Try.f5 [1,1,1,1,1,1,1]))],[],.none⟩,[],
    ⟨[(2,(.mapc .i64 .i64 (.v 26))),(3,(.cells [(.it .i64 (.v 27)),(.mp (.n 2))] 52)),(4,(.cells [(.it .i64 (.v 27)),.sn] 44))],5,0,0,[((.le (.v 1) (.v 3)),.true),((.le (.c 0) (.v 3)),.true),((.le (.v 25) (.v 1)),.true)],[1,0],[(27,(0,1099511627776)),(25,(0,60)),(1,(0,60)),(2,(0,(-1))),(4,((-9223372036854775808),9223372036854775807))]⟩,[25,26,27]⟩
def lPlays_T2:Tm:=⟨⟨5,84,[(8,(.it .i64 (.v 29))),(7,(.pt (.n 4) (.c 0))),(5,(.pt (.n 3) (.c 0))),(1,(.sl (.k 0) (.v 2) (.v 1) (.v 3)))],[(.code (atC Try.f5 [1,1,1,1,1,1,0,1,0,0])),(.inLoop (atC Try.f5 [1,1,1,1,1,1,0,1,0,0])),(.inBlock 0),(.code (atC Try.f5 [1,1,1,1,1,1,1]))],[],.none⟩,[],
    ⟨[(2,(.mapc .i64 .i64 (.v 30))),(3,(.cells [(.it .i64 (.v 31)),(.mp (.n 2))] 52)),(4,(.cells [(.it .i64 (.v 31)),(.sl (.n 8) (.op .mul (.v 33) (.c 2)) (.v 34) (.v 35))] 44)),(8,(.arr [(.nt .i64),(.nt .i64)] (.v 36) (.v 32) 62 (.v 37)))],9,0,0,[((.le (.v 1) (.v 3)),.true),((.le (.c 0) (.v 3)),.true),((.le (.v 29) (.v 1)),.true),((.le (.op .add (.v 33) (.v 34)) (.v 32)),.true),((.le (.v 34) (.v 35)),.true),((.le (.c 0) (.v 35)),.true)],[1,0],[(34,(0,1024)),(33,(0,2048)),(32,(0,2048)),(31,(0,1099511627776)),(29,(0,60)),(1,(0,60)),(2,(0,(-1))),(4,((-9223372036854775808),9223372036854775807))]⟩,[29,30,31,32,33,34,35,36,37]⟩
def lPlays_L0:List Lf:=
 let f0_:List (SB×Bool):=[((.le (.v 1) (.v 3)),.true),((.le (.c 0) (.v 3)),.true)]
 let f1_:List (SB×Bool):=((.lt (.c 60) (.v 1)),.false)::f0_
 let f2_:List (SB×Bool):=((.le (.c 0) (.v 4)),.true)::f1_
 [(.fin (((.lt (.c 60) (.v 1)),.true)::f0_) 0 ⟨⟨[],[]⟩,[],[],[]⟩ [] []),
  (let i_:In:=⟨⟨[(26,(.c 0)),(27,(.v 4)),(25,(.c 0))],[]⟩,[(2,2),(3,3),(4,4)],[],[]⟩;.cut (((.le (.v 4) (.c 1099511627776)),.true)::f2_) 1 i_ [] (shT lPlays_T1 i_)),
  (.fin (((.le (.v 4) (.c 1099511627776)),.false)::f2_) 0 ⟨⟨[],[]⟩,[],[],[]⟩ [] []),
  (.fin (((.le (.c 0) (.v 4)),.false)::f1_) 0 ⟨⟨[],[]⟩,[],[],[]⟩ [] [])]
def lPlays_L1:List Lf:=
 let p0_:SB×Bool:=((.le (.c 1) (.d 0)),.true)
 let x1_:SI:=(.ap 3 (.v 0) (.v 25) (.c 0) (.c 0) (.c 0) (.c 0))
 let x2_:SI:=(.ap 3 (.v 0) (.v 25) (.c 1) (.c 0) (.c 0) (.c 0))
 let x3_:SI:=(.ap 3 (.v 0) (.v 25) (.c 2) (.c 0) (.c 0) (.c 0))
 let x4_:SI:=(.ap 8 (.v 26) (.c 0) (.c 0) (.c 0) (.c 2) (.c 0))
 let p5_:SB×Bool:=((.ap 20 (.v 26) (.c 0) (.c 0) (.c 0) (.c 0) (.c 0)),.true)
 let p6_:SB×Bool:=((.ap 20 (.v 26) (.c 0) (.c 0) (.c 0) (.c 0) (.c 0)),.false)
 let p7_:SB×Bool:=((.eq x4_ (.c 0)),.true)
 let p8_:SB×Bool:=((.eq x4_ (.c 0)),.false)
 let x9_:SI:=(.ap 3 (.v 26) x2_ (.c 0) (.c 1) (.c 0) (.c 0))
 let x10_:SI:=(.ap 22 (.v 26) (.op .imin (.op .add (.v 27) (.c 1)) (.c 1099511627776)) (.c 0) (.c 0) (.c 0) (.c 0))
 let p11_:SB×Bool:=((.ap 1 (.v 26) x2_ (.c 0) (.c 0) (.c 0) (.c 0)),.true)
 let p12_:SB×Bool:=((.ap 1 (.v 26) x2_ (.c 0) (.c 0) (.c 0) (.c 0)),.false)
 let x13_:SI:=(.ap 8 (.v 26) x2_ (.c 0) x3_ (.c 1) (.c 0))
 let x14_:SI:=(.ap 25 (.c 0) (.c 0) (.c 0) x2_ x3_ (.c 0))
 let f0_:List (SB×Bool):=[((.le (.v 1) (.v 3)),.true),((.le (.c 0) (.v 3)),.true),((.le (.v 25) (.v 1)),.true)]
 let f1_:List (SB×Bool):=((.lt (.v 25) (.v 1)),.true)::f0_
 let f2_:List (SB×Bool):=((.lt (.v 25) (.v 1)),.false)::f0_
 let f3_:List (SB×Bool):=((.eq x1_ (.c 0)),.true)::f1_
 let f4_:List (SB×Bool):=((.eq x1_ (.c 0)),.false)::f1_
 let f5_:List (SB×Bool):=p5_::f2_
 let f6_:List (SB×Bool):=((.lt x2_ (.c 0)),.true)::f3_
 let f7_:List (SB×Bool):=((.lt x2_ (.c 0)),.false)::f3_
 let f8_:List (SB×Bool):=((.eq x1_ (.c 1)),.true)::f4_
 let f9_:List (SB×Bool):=((.eq x1_ (.c 1)),.false)::f4_
 let f10_:List (SB×Bool):=p5_::f6_
 let f11_:List (SB×Bool):=((.lt x3_ (.c 0)),.true)::f7_
 let f12_:List (SB×Bool):=((.lt x3_ (.c 0)),.false)::f7_
 let f13_:List (SB×Bool):=((.lt x2_ (.c 0)),.true)::f8_
 let f14_:List (SB×Bool):=((.lt x2_ (.c 0)),.false)::f8_
 let f15_:List (SB×Bool):=((.eq x1_ (.c 2)),.true)::f9_
 let f16_:List (SB×Bool):=((.eq x1_ (.c 2)),.false)::f9_
 let f17_:List (SB×Bool):=p5_::f11_
 let f18_:List (SB×Bool):=((.le x3_ (.c 1099511627776)),.true)::f12_
 let f19_:List (SB×Bool):=((.le x3_ (.c 1099511627776)),.false)::f12_
 let f20_:List (SB×Bool):=p5_::f13_
 let f21_:List (SB×Bool):=p12_::f14_
 let f22_:List (SB×Bool):=p5_::f15_
 let f23_:List (SB×Bool):=((.eq x1_ (.c 3)),.true)::f16_
 let f24_:List (SB×Bool):=((.eq x1_ (.c 3)),.false)::f16_
 let f25_:List (SB×Bool):=p12_::f18_
 let f26_:List (SB×Bool):=p5_::f19_
 let f27_:List (SB×Bool):=p5_::f21_
 let f28_:List (SB×Bool):=((.le x4_ (.c 4096)),.true)::f22_
 let f29_:List (SB×Bool):=((.eq x9_ (.c 0)),.true)::f23_
 let f30_:List (SB×Bool):=p5_::f24_
 let f31_:List (SB×Bool):=((.lt (.c 0) x10_),.false)::f28_
 let f32_:List (SB×Bool):=p12_::f29_
 let f33_:List (SB×Bool):=p7_::f30_
 let f34_:List (SB×Bool):=p0_::((.le (.c 1024) x4_),.false)::f25_
 let f35_:List (SB×Bool):=p5_::f32_
 [(let i_:In:=⟨⟨[(26,(.v 26)),(27,(.v 27)),(25,(.op .add (.v 25) (.c 1)))],[]⟩,[(2,2),(3,3),(4,4)],[],[]⟩;.cut (p7_::f10_) 1 i_ [] (shT lPlays_T1 i_)),
  (.bad (p8_::f10_)),
  (.bad (p6_::f6_)),
  (let i_:In:=⟨⟨[(26,(.v 26)),(27,(.v 27)),(25,(.op .add (.v 25) (.c 1)))],[]⟩,[(2,2),(3,3),(4,4)],[],[]⟩;.cut (p7_::f17_) 1 i_ [] (shT lPlays_T1 i_)),
  (.bad (p8_::f17_)),
  (.bad (p6_::f11_)),
  (.fin (p0_::p11_::f18_) 0 ⟨⟨[],[]⟩,[],[],[]⟩ [(.eb (.c .true) (.c .false))] []),
  (.fin (p0_::((.le (.c 1024) x4_),.true)::f25_) 0 ⟨⟨[],[]⟩,[],[],[]⟩ [(.eb (.c .true) (.c .false))] []),
  (let i_:In:=⟨⟨[(30,(.ap 8 (.v 26) x2_ (.c 0) x3_ (.c 1) (.c 0))),(37,(.d 0)),(32,(.c 1)),(36,(.ap 25 (.c 0) (.c 0) (.c 0) x2_ x3_ (.c 0))),(35,(.d 0)),(34,(.c 1)),(33,(.c 0)),(31,(.v 27)),(29,(.op .add (.v 25) (.c 1)))],[]⟩,[(8,8),(2,2),(3,3),(4,4)],[],[]⟩;.cut (((.ap 21 x13_ x14_ (.c 0) (.c 1) (.c 0) (.c 0)),.true)::f34_) 2 i_ [] (shT lPlays_T2 i_)),
  (.bad (((.ap 21 x13_ x14_ (.c 0) (.c 1) (.c 0) (.c 0)),.false)::f34_)),
  (let i_:In:=⟨⟨[(26,(.v 26)),(27,(.v 27)),(25,(.op .add (.v 25) (.c 1)))],[]⟩,[(2,2),(3,3),(4,4)],[],[]⟩;.cut (p7_::f26_) 1 i_ [] (shT lPlays_T1 i_)),
  (.bad (p8_::f26_)),
  (.bad (p6_::f19_)),
  (let i_:In:=⟨⟨[(26,(.v 26)),(27,(.v 27)),(25,(.op .add (.v 25) (.c 1)))],[]⟩,[(2,2),(3,3),(4,4)],[],[]⟩;.cut (p7_::f20_) 1 i_ [] (shT lPlays_T1 i_)),
  (.bad (p8_::f20_)),
  (.bad (p6_::f13_)),
  (.fin (p11_::f14_) 0 ⟨⟨[],[]⟩,[],[],[]⟩ [(.eb (.c .true) (.c .false))] []),
  (let i_:In:=⟨⟨[(26,(.v 26)),(27,(.v 27)),(25,(.op .add (.v 25) (.c 1)))],[]⟩,[(2,2),(3,3),(4,4)],[],[]⟩;.cut (p7_::f27_) 1 i_ [] (shT lPlays_T1 i_)),
  (.bad (p8_::f27_)),
  (.bad (p6_::f21_)),
  (.fin (((.le x10_ (.d 0)),.true)::((.le x10_ x4_),.true)::((.lt (.c 0) x10_),.true)::f28_) 0 ⟨⟨[],[]⟩,[],[],[]⟩ [(.eb (.c .true) (.c .false))] []),
  (let i_:In:=⟨⟨[(26,(.v 26)),(27,(.op .imin (.op .add (.v 27) (.c 1)) (.c 1099511627776))),(25,(.op .add (.v 25) (.c 1)))],[]⟩,[(2,2),(3,3),(4,4)],[],[]⟩;.cut (p7_::f31_) 1 i_ [] (shT lPlays_T1 i_)),
  (.bad (p8_::f31_)),
  (.bad (((.le x4_ (.c 4096)),.false)::f22_)),
  (.bad (p6_::f15_)),
  (.fin (p11_::f29_) 0 ⟨⟨[],[]⟩,[],[],[]⟩ [(.eb (.c .true) (.c .false))] []),
  (let i_:In:=⟨⟨[(26,(.v 26)),(27,(.v 27)),(25,(.op .add (.v 25) (.c 1)))],[]⟩,[(2,2),(3,3),(4,4)],[],[]⟩;.cut (p7_::f35_) 1 i_ [] (shT lPlays_T1 i_)),
  (.bad (p8_::f35_)),
  (.bad (p6_::f32_)),
  (.fin (((.eq x9_ (.c 0)),.false)::f23_) 0 ⟨⟨[],[]⟩,[],[],[]⟩ [(.eb (.c .true) (.c .false))] []),
  (let i_:In:=⟨⟨[(26,(.v 26)),(27,(.v 27)),(25,(.op .add (.v 25) (.c 1)))],[]⟩,[(2,9),(3,10),(4,4)],[],[]⟩;.cut (((.eq x1_ (.c 4)),.true)::f33_) 1 i_ [] (shT lPlays_T1 i_)),
  (let i_:In:=⟨⟨[(26,(.v 26)),(27,(.v 27)),(25,(.op .add (.v 25) (.c 1)))],[]⟩,[(2,2),(3,3),(4,4)],[],[]⟩;.cut (((.eq x1_ (.c 4)),.false)::f33_) 1 i_ [] (shT lPlays_T1 i_)),
  (.bad (p8_::f30_)),
  (.bad (p6_::f24_)),
  (.fin (p7_::f5_) 0 ⟨⟨[],[]⟩,[],[],[]⟩ [] []),
  (.bad (p8_::f5_)),
  (.bad (p6_::f2_))]
def lPlays_L2:List Lf:=
 let x0_:SI:=(.op .add (.v 34) (.c (-1)))
 let p1_:SB×Bool:=((.le (.c 1) (.v 35)),.true)
 let p2_:SB×Bool:=((.le (.op .add (.v 34) (.c 1)) (.d 0)),.true)
 let x3_:SI:=(.ap 3 (.v 0) (.v 29) (.c 0) (.c 0) (.c 0) (.c 0))
 let x4_:SI:=(.ap 3 (.v 0) (.v 29) (.c 1) (.c 0) (.c 0) (.c 0))
 let x5_:SI:=(.ap 3 (.v 0) (.v 29) (.c 2) (.c 0) (.c 0) (.c 0))
 let x6_:SI:=(.ap 8 (.v 30) (.c 0) (.c 0) (.c 0) (.c 2) (.c 0))
 let x7_:SI:=(.ap 20 (.v 30) (.c 0) (.c 0) (.c 0) (.c 0) (.c 0))
 let x8_:SI:=(.ap 9 (.c 0) (.c 0) (.v 36) (.v 33) (.v 34) (.c 0))
 let x9_:SI:=(.op .imin (.op .add (.v 31) (.c 1)) (.c 1099511627776))
 let p10_:SB×Bool:=((.ap 20 (.v 30) (.c 0) (.c 0) (.c 0) (.c 0) (.c 0)),.true)
 let p11_:SB×Bool:=((.ap 20 (.v 30) (.c 0) (.c 0) (.c 0) (.c 0) (.c 0)),.false)
 let p12_:SB×Bool:=((.ap 21 (.v 30) (.v 36) (.v 33) (.v 34) (.c 0) (.c 0)),.true)
 let p13_:SB×Bool:=((.ap 21 (.v 30) (.v 36) (.v 33) (.v 34) (.c 0) (.c 0)),.false)
 let p14_:SB×Bool:=((.le (.c 1024) x6_),.true)
 let p15_:SB×Bool:=((.le (.c 1024) x6_),.false)
 let x16_:SI:=(.ap 3 (.v 30) x4_ (.c 0) (.c 1) (.c 0) (.c 0))
 let x17_:SI:=(.ap 8 (.v 30) x4_ (.c 0) (.c 0) (.c 3) (.c 0))
 let x18_:SI:=(.ap 22 (.v 30) x9_ (.c 0) (.c 0) (.c 0) (.c 0))
 let p19_:SB×Bool:=((.ap 1 (.v 30) x4_ (.c 0) (.c 0) (.c 0) (.c 0)),.true)
 let p20_:SB×Bool:=((.ap 1 (.v 30) x4_ (.c 0) (.c 0) (.c 0) (.c 0)),.false)
 let x21_:SI:=(.ap 8 (.v 30) x4_ (.c 0) x5_ (.c 1) (.c 0))
 let x22_:SI:=(.ap 26 x8_ (.v 34) x4_ (.c 0) (.c 0) (.c 0))
 let x23_:SI:=(.ap 23 (.v 30) x18_ (.c 0) (.c 0) (.c 0) (.c 0))
 let x24_:SI:=(.ap 28 x8_ (.v 34) x9_ (.c 0) (.c 0) (.c 0))
 let p25_:SB×Bool:=((.lt x22_ (.v 34)),.true)
 let p26_:SB×Bool:=((.le (.c (-1)) x22_),.true)
 let p27_:SB×Bool:=((.le x18_ x6_),.true)
 let x28_:SI:=(.op .mul x24_ (.c (-1)))
 let p29_:SB×Bool:=((.le x24_ (.d 0)),.true)
 let p30_:SB×Bool:=((.le x24_ (.v 34)),.true)
 let x31_:SI:=(.ap 24 x8_ (.v 34) x4_ x5_ (.c 0) (.c 0))
 let x32_:SI:=(.op .add (.v 34) x28_)
 let x33_:SI:=(.op .imin x24_ (.op .add (.v 35) (.c (-1))))
 let x34_:SI:=(.ap 3 (.v 36) (.op .add (.v 33) x22_) (.c 1) (.c 0) (.c 0) (.c 0))
 let x35_:SI:=(.op .add (.v 33) x33_)
 let x36_:SI:=(.ap 27 x8_ (.v 34) x22_ (.c 0) (.c 0) (.c 0))
 let x37_:SI:=(.ap 30 x8_ x24_ (.c 0) (.c 0) (.c 0) (.c 0))
 let x38_:SI:=(.ap 25 x8_ (.v 34) x31_ x4_ x5_ (.c 0))
 let f0_:List (SB×Bool):=[((.le (.v 1) (.v 3)),.true),((.le (.c 0) (.v 3)),.true),((.le (.v 29) (.v 1)),.true),((.le (.op .add (.v 33) (.v 34)) (.v 32)),.true),((.le (.v 34) (.v 35)),.true),((.le (.c 0) (.v 35)),.true)]
 let f1_:List (SB×Bool):=((.lt (.v 29) (.v 1)),.true)::f0_
 let f2_:List (SB×Bool):=((.lt (.v 29) (.v 1)),.false)::f0_
 let f3_:List (SB×Bool):=((.eq x3_ (.c 0)),.true)::f1_
 let f4_:List (SB×Bool):=((.eq x3_ (.c 0)),.false)::f1_
 let f5_:List (SB×Bool):=((.lt x4_ (.c 0)),.true)::f3_
 let f6_:List (SB×Bool):=((.lt x4_ (.c 0)),.false)::f3_
 let f7_:List (SB×Bool):=((.eq x3_ (.c 1)),.true)::f4_
 let f8_:List (SB×Bool):=((.eq x3_ (.c 1)),.false)::f4_
 let f9_:List (SB×Bool):=((.lt x5_ (.c 0)),.true)::f6_
 let f10_:List (SB×Bool):=((.lt x5_ (.c 0)),.false)::f6_
 let f11_:List (SB×Bool):=((.lt x4_ (.c 0)),.true)::f7_
 let f12_:List (SB×Bool):=((.lt x4_ (.c 0)),.false)::f7_
 let f13_:List (SB×Bool):=((.eq x3_ (.c 2)),.true)::f8_
 let f14_:List (SB×Bool):=((.eq x3_ (.c 2)),.false)::f8_
 let f15_:List (SB×Bool):=((.le x5_ (.c 1099511627776)),.true)::f10_
 let f16_:List (SB×Bool):=((.le x5_ (.c 1099511627776)),.false)::f10_
 let f17_:List (SB×Bool):=((.le (.c 0) x22_),.true)::f12_
 let f18_:List (SB×Bool):=((.le (.c 0) x22_),.false)::f12_
 let f19_:List (SB×Bool):=((.lt (.c 0) x24_),.true)::f13_
 let f20_:List (SB×Bool):=((.lt (.c 0) x24_),.false)::f13_
 let f21_:List (SB×Bool):=((.eq x3_ (.c 3)),.true)::f14_
 let f22_:List (SB×Bool):=((.eq x3_ (.c 3)),.false)::f14_
 let f23_:List (SB×Bool):=((.le (.c 0) x22_),.true)::f15_
 let f24_:List (SB×Bool):=((.le (.c 0) x22_),.false)::f15_
 let f25_:List (SB×Bool):=p20_::f18_
 let f26_:List (SB×Bool):=p10_::f19_
 let f27_:List (SB×Bool):=p10_::f20_
 let f28_:List (SB×Bool):=((.lt x22_ (.c 0)),.true)::f21_
 let f29_:List (SB×Bool):=((.lt x22_ (.c 0)),.false)::f21_
 let f30_:List (SB×Bool):=p12_::f22_
 let f31_:List (SB×Bool):=p19_::f23_
 let f32_:List (SB×Bool):=p20_::f23_
 let f33_:List (SB×Bool):=((.lt (.v 34) (.c 1024)),.true)::f24_
 let f34_:List (SB×Bool):=((.lt (.v 34) (.c 1024)),.false)::f24_
 let f35_:List (SB×Bool):=((.le x6_ (.c 4096)),.true)::f26_
 let f36_:List (SB×Bool):=((.le x6_ (.c 4096)),.true)::f27_
 let f37_:List (SB×Bool):=p20_::f33_
 let f38_:List (SB×Bool):=p20_::f34_
 let f39_:List (SB×Bool):=((.le x0_ (.d 0)),.true)::((.lt (.c 0) (.v 34)),.true)::p19_::f17_
 let f40_:List (SB×Bool):=((.lt (.c 0) x18_),.true)::f35_
 let f41_:List (SB×Bool):=((.lt (.c 0) x18_),.false)::f36_
 let f42_:List (SB×Bool):=p14_::f38_
 let f43_:List (SB×Bool):=p25_::p26_::((.eq x16_ (.c 0)),.true)::f28_
 let f44_:List (SB×Bool):=p25_::p26_::p19_::f29_
 let f45_:List (SB×Bool):=p2_::p15_::f37_
 let f46_:List (SB×Bool):=p20_::f43_
 let f47_:List (SB×Bool):=((.eq x16_ x34_),.true)::f44_
 let f48_:List (SB×Bool):=((.le x18_ (.d 1)),.true)::p27_::p29_::p30_::p1_::((.ap 23 x37_ x24_ x7_ x18_ (.c 0) (.c 0)),.true)::f40_
 let f49_:List (SB×Bool):=((.ap 21 x23_ (.v 36) x35_ x32_ (.c 0) (.c 0)),.true)::f48_
 let f50_:List (SB×Bool):=((.le (.op .add x35_ x32_) (.v 32)),.true)::f49_
 [(let i_:In:=⟨⟨[(30,(.v 30)),(37,(.v 37)),(32,(.v 32)),(36,(.v 36)),(35,(.v 35)),(34,(.v 34)),(33,(.v 33)),(31,(.v 31)),(29,(.op .add (.v 29) (.c 1)))],[]⟩,[(8,8),(2,2),(3,3),(4,4)],[],[]⟩;.cut (p12_::f5_) 2 i_ [] (shT lPlays_T2 i_)),
  (.bad (p13_::f5_)),
  (let i_:In:=⟨⟨[(30,(.v 30)),(37,(.v 37)),(32,(.v 32)),(36,(.v 36)),(35,(.v 35)),(34,(.v 34)),(33,(.v 33)),(31,(.v 31)),(29,(.op .add (.v 29) (.c 1)))],[]⟩,[(8,8),(2,2),(3,3),(4,4)],[],[]⟩;.cut (p12_::f9_) 2 i_ [] (shT lPlays_T2 i_)),
  (.bad (p13_::f9_)),
  (let i_:In:=⟨⟨[(30,(.v 30)),(37,(.v 37)),(32,(.v 32)),(36,(.v 36)),(35,(.v 35)),(34,(.v 34)),(33,(.v 33)),(31,(.v 31)),(29,(.op .add (.v 29) (.c 1)))],[]⟩,[(8,8),(2,2),(3,3),(4,4)],[],[]⟩;.cut (p12_::f31_) 2 i_ [] (shT lPlays_T2 i_)),
  (.bad (p13_::f31_)),
  (.fin (p14_::f32_) 0 ⟨⟨[],[]⟩,[],[],[]⟩ [(.eb (.c .true) (.c .false))] []),
  (.fin (p15_::f32_) 0 ⟨⟨[],[]⟩,[],[],[]⟩ [(.eb (.c .true) (.c .false))] []),
  (.fin (p2_::p19_::f33_) 0 ⟨⟨[],[]⟩,[],[],[]⟩ [(.eb (.c .true) (.c .false))] []),
  (.fin (p2_::p14_::f37_) 0 ⟨⟨[],[]⟩,[],[],[]⟩ [(.eb (.c .true) (.c .false))] []),
  (let i_:In:=⟨⟨[(30,(.ap 8 (.v 30) x4_ (.c 0) x5_ (.c 1) (.c 0))),(37,(.d 0)),(32,(.op .add (.v 34) (.c 1))),(36,(.ap 25 x8_ (.v 34) x31_ x4_ x5_ (.c 0))),(35,(.d 0)),(34,(.op .add (.v 34) (.c 1))),(33,(.c 0)),(31,(.v 31)),(29,(.op .add (.v 29) (.c 1)))],[]⟩,[(8,12),(2,2),(3,3),(4,4)],[],[]⟩;.cut (((.ap 21 x21_ x38_ (.c 0) (.op .add (.v 34) (.c 1)) (.c 0) (.c 0)),.true)::f45_) 2 i_ [] (shT lPlays_T2 i_)),
  (.bad (((.ap 21 x21_ x38_ (.c 0) (.op .add (.v 34) (.c 1)) (.c 0) (.c 0)),.false)::f45_)),
  (.fin (p19_::f34_) 0 ⟨⟨[],[]⟩,[],[],[]⟩ [(.eb (.c .true) (.c .false))] []),
  (let i_:In:=⟨⟨[(30,(.v 30)),(37,(.v 37)),(32,(.v 32)),(36,(.v 36)),(35,(.v 35)),(34,(.v 34)),(33,(.v 33)),(31,(.v 31)),(29,(.op .add (.v 29) (.c 1)))],[]⟩,[(8,8),(2,2),(3,3),(4,4)],[],[]⟩;.cut (p12_::f42_) 2 i_ [] (shT lPlays_T2 i_)),
  (.bad (p13_::f42_)),
  (.fin (p15_::f38_) 0 ⟨⟨[],[]⟩,[],[],[]⟩ [(.eb (.c .true) (.c .false))] []),
  (let i_:In:=⟨⟨[(30,(.v 30)),(37,(.v 37)),(32,(.v 32)),(36,(.v 36)),(35,(.v 35)),(34,(.v 34)),(33,(.v 33)),(31,(.v 31)),(29,(.op .add (.v 29) (.c 1)))],[]⟩,[(8,8),(2,2),(3,3),(4,4)],[],[]⟩;.cut (p12_::f16_) 2 i_ [] (shT lPlays_T2 i_)),
  (.bad (p13_::f16_)),
  (let i_:In:=⟨⟨[(30,(.v 30)),(37,(.v 37)),(32,(.v 32)),(36,(.v 36)),(35,(.v 35)),(34,(.v 34)),(33,(.v 33)),(31,(.v 31)),(29,(.op .add (.v 29) (.c 1)))],[]⟩,[(8,8),(2,2),(3,3),(4,4)],[],[]⟩;.cut (p12_::f11_) 2 i_ [] (shT lPlays_T2 i_)),
  (.bad (p13_::f11_)),
  (let i_:In:=⟨⟨[(30,(.ap 8 (.v 30) x4_ (.c 0) (.c 0) (.c 3) (.c 0))),(37,(.d 0)),(32,(.op .add (.v 34) (.c (-1)))),(36,(.ap 27 x8_ (.v 34) x22_ (.c 0) (.c 0) (.c 0))),(35,(.d 0)),(34,(.op .add (.v 34) (.c (-1)))),(33,(.c 0)),(31,(.v 31)),(29,(.op .add (.v 29) (.c 1)))],[]⟩,[(8,12),(2,2),(3,3),(4,4)],[],[]⟩;.cut (((.ap 21 x17_ x36_ (.c 0) x0_ (.c 0) (.c 0)),.true)::f39_) 2 i_ [(.rn (.op .add (.v 34) (.c (-1))) 0 1024),(.rn (.op .add (.v 34) (.c (-1))) 0 2048)] (shT lPlays_T2 i_)),
  (.bad (((.ap 21 x17_ x36_ (.c 0) x0_ (.c 0) (.c 0)),.false)::f39_)),
  (.fin (((.le x0_ (.d 0)),.true)::((.lt (.c 0) (.v 34)),.true)::p20_::f17_) 0 ⟨⟨[],[]⟩,[],[],[]⟩ [(.eb (.c .true) (.c .false))] []),
  (.fin (p19_::f18_) 0 ⟨⟨[],[]⟩,[],[],[]⟩ [(.eb (.c .true) (.c .false))] []),
  (let i_:In:=⟨⟨[(30,(.v 30)),(37,(.v 37)),(32,(.v 32)),(36,(.v 36)),(35,(.v 35)),(34,(.v 34)),(33,(.v 33)),(31,(.v 31)),(29,(.op .add (.v 29) (.c 1)))],[]⟩,[(8,8),(2,2),(3,3),(4,4)],[],[]⟩;.cut (p12_::f25_) 2 i_ [] (shT lPlays_T2 i_)),
  (.bad (p13_::f25_)),
  (let i_:In:=⟨⟨[(30,(.ap 23 (.v 30) x18_ (.c 0) (.c 0) (.c 0) (.c 0))),(37,(.v 37)),(32,(.v 32)),(36,(.v 36)),(35,(.op .add (.v 35) x28_)),(34,(.op .add (.v 34) x28_)),(33,(.op .add (.v 33) x33_)),(31,(.op .imin (.op .add (.v 31) (.c 1)) (.c 1099511627776))),(29,(.op .add (.v 29) (.c 1)))],[]⟩,[(8,8),(2,2),(3,3),(4,4)],[],[]⟩;.cut (((.le (.c 0) x35_),.true)::f50_) 2 i_ [(.rn (.op .add (.v 34) x28_) 0 1024),(.rn (.op .add (.v 33) x33_) 0 2048)] (shT lPlays_T2 i_)),
  (.bad (((.le (.c 0) x35_),.false)::f50_)),
  (.bad (((.le (.op .add x35_ x32_) (.v 32)),.false)::f49_)),
  (.bad (((.ap 21 x23_ (.v 36) x35_ x32_ (.c 0) (.c 0)),.false)::f48_)),
  (.fin (((.le x18_ (.d 1)),.true)::p27_::p29_::p30_::p1_::((.ap 23 x37_ x24_ x7_ x18_ (.c 0) (.c 0)),.false)::f40_) 0 ⟨⟨[],[]⟩,[],[],[]⟩ [(.eb (.c .true) (.c .false))] []),
  (.fin (p29_::p30_::p1_::((.lt (.c 0) x18_),.false)::f35_) 0 ⟨⟨[],[]⟩,[],[],[]⟩ [(.eb (.c .true) (.c .false))] []),
  (.bad (((.le x6_ (.c 4096)),.false)::f26_)),
  (.bad (p11_::f19_)),
  (.fin (((.le x18_ (.d 0)),.true)::p27_::((.lt (.c 0) x18_),.true)::f36_) 0 ⟨⟨[],[]⟩,[],[],[]⟩ [(.eb (.c .true) (.c .false))] []),
  (let i_:In:=⟨⟨[(30,(.v 30)),(37,(.v 37)),(32,(.v 32)),(36,(.v 36)),(35,(.v 35)),(34,(.v 34)),(33,(.v 33)),(31,(.op .imin (.op .add (.v 31) (.c 1)) (.c 1099511627776))),(29,(.op .add (.v 29) (.c 1)))],[]⟩,[(8,8),(2,2),(3,3),(4,4)],[],[]⟩;.cut (p12_::f41_) 2 i_ [] (shT lPlays_T2 i_)),
  (.bad (p13_::f41_)),
  (.bad (((.le x6_ (.c 4096)),.false)::f27_)),
  (.bad (p11_::f20_)),
  (.fin (p19_::f43_) 0 ⟨⟨[],[]⟩,[],[],[]⟩ [(.eb (.c .true) (.c .false))] []),
  (let i_:In:=⟨⟨[(30,(.v 30)),(37,(.v 37)),(32,(.v 32)),(36,(.v 36)),(35,(.v 35)),(34,(.v 34)),(33,(.v 33)),(31,(.v 31)),(29,(.op .add (.v 29) (.c 1)))],[]⟩,[(8,8),(2,2),(3,3),(4,4)],[],[]⟩;.cut (p12_::f46_) 2 i_ [] (shT lPlays_T2 i_)),
  (.bad (p13_::f46_)),
  (.fin (p25_::p26_::((.eq x16_ (.c 0)),.false)::f28_) 0 ⟨⟨[],[]⟩,[],[],[]⟩ [(.eb (.c .true) (.c .false))] []),
  (let i_:In:=⟨⟨[(30,(.v 30)),(37,(.v 37)),(32,(.v 32)),(36,(.v 36)),(35,(.v 35)),(34,(.v 34)),(33,(.v 33)),(31,(.v 31)),(29,(.op .add (.v 29) (.c 1)))],[]⟩,[(8,8),(2,2),(3,3),(4,4)],[],[]⟩;.cut (p12_::f47_) 2 i_ [] (shT lPlays_T2 i_)),
  (.bad (p13_::f47_)),
  (.fin (((.eq x16_ x34_),.false)::f44_) 0 ⟨⟨[],[]⟩,[],[],[]⟩ [(.eb (.c .true) (.c .false))] []),
  (.bad (p20_::f29_)),
  (let i_:In:=⟨⟨[(30,(.v 30)),(37,(.v 37)),(32,(.v 32)),(36,(.v 36)),(35,(.v 35)),(34,(.v 34)),(33,(.v 33)),(31,(.v 31)),(29,(.op .add (.v 29) (.c 1)))],[]⟩,[(8,8),(2,13),(3,14),(4,4)],[],[]⟩;.cut (((.eq x3_ (.c 4)),.true)::f30_) 2 i_ [] (shT lPlays_T2 i_)),
  (let i_:In:=⟨⟨[(30,(.v 30)),(37,(.v 37)),(32,(.v 32)),(36,(.v 36)),(35,(.v 35)),(34,(.v 34)),(33,(.v 33)),(31,(.v 31)),(29,(.op .add (.v 29) (.c 1)))],[]⟩,[(8,8),(2,2),(3,3),(4,4)],[],[]⟩;.cut (((.eq x3_ (.c 4)),.false)::f30_) 2 i_ [] (shT lPlays_T2 i_)),
  (.bad (p13_::f22_)),
  (.fin (p12_::f2_) 0 ⟨⟨[],[]⟩,[],[],[]⟩ [] []),
  (.bad (p13_::f2_))]
def lPlays_run (T:Tm):=(ex (ccOf Try.prog BF [62,32] lPlays) ((fun cc=>[cWorks.ent cc,tIs.ent cc,tIs0.ent cc,tTick.ent cc,tClone.ent cc,rFind.ent cc,rFind0.ent cc,rArm.ent cc,rArm0.ent cc,rCancel.ent cc,rCancel0.ent cc,rTickN.ent cc,rTick0.ent cc,rSame.ent cc,rSame0.ent cc,rSame1.ent cc,rSame2.ent cc]) (ccOf Try.prog BF [62,32] lPlays)) (dw (ccOf Try.prog BF [62,32] lPlays) ((fun cc=>[cWorks.ent cc,tIs.ent cc,tIs0.ent cc,tTick.ent cc,tClone.ent cc,rFind.ent cc,rFind0.ent cc,rArm.ent cc,rArm0.ent cc,rCancel.ent cc,rCancel0.ent cc,rTickN.ent cc,rTick0.ent cc,rSame.ent cc,rSame0.ent cc,rSame1.ent cc,rSame2.ent cc]) (ccOf Try.prog BF [62,32] lPlays)) 1000 4) (stopX [25]) 20000 T.f T.fs T.H).lfs (ccOf Try.prog BF [62,32] lPlays) ((tm0 lPlays Try.f5 (Try.f5.body.getD .skip))::[lPlays_T1,lPlays_T2]) lPlays.os
theorem lPlays_h0:lPlays_run (tm0 lPlays Try.f5 (Try.f5.body.getD .skip))=some lPlays_L0:=by kernel_rfl
theorem lPlays_h1:lPlays_run lPlays_T1=some lPlays_L1:=by kernel_rfl
theorem lPlays_h2:lPlays_run lPlays_T2=some lPlays_L2:=by kernel_rfl
def lPlays_inv:(Nat→Int)→(Nat→Bool)→Nat→(Nat→Int)→(Nat→Bool)→Prop:=fun iv0 _ k iv _=>match k with | 0=>True | 1=>0≤iv 25∧iv 25≤iv0 1∧0≤iv 27∧iv 27≤1099511627776∧kinC (iv 26)∧lenC (iv 26)=0∧zC (iv 26) | _=>0≤iv 29∧iv 29≤iv0 1∧0≤iv 31∧iv 31≤1099511627776∧iv 32≤2048∧0≤iv 33∧iv 33+iv 34≤iv 32∧0≤iv 34∧iv 34≤1024∧relO (iv 30) (iv 36) (iv 33) (iv 34)∧zC (iv 30)
def lPlays_mu:(Nat→Int)→(Nat→Bool)→Nat→(Nat→Int)→(Nat→Bool)→Nat:=fun iv0 _ k iv _=>match k with | 0=>2 ^ 90 | 1=>(iv0 1 - iv 25).toNat | _=>(iv0 1 - iv 29).toNat
theorem lPlays_b {iv0:Nat→Int} (hin:InB lPlays.B iv0):(0≤iv0 1∧iv0 1≤9223372036854775807)∧0≤iv0 2∧((-9223372036854775808)≤iv0 4∧iv0 4≤9223372036854775807):=by
 have b1:=hin 1 0 9223372036854775807 (by simp [lPlays,kA,lA,gA,bA,bA4,fT,i64b,o1,kT,kI])
 simp only [Int.reduceLE,reduceIte,Int.reduceNeg] at b1
 have b2:=hin 2 0 (-1) (by simp [lPlays,kA,lA,gA,bA,bA4,fT,i64b,o1,kT,kI])
 simp only [Int.reduceLE,reduceIte,Int.reduceNeg] at b2
 have b4:=hin 4 (-9223372036854775808) 9223372036854775807 (by simp [lPlays,kA,lA,gA,bA,bA4,fT,i64b,o1,kT,kI])
 simp only [Int.reduceLE,reduceIte,Int.reduceNeg] at b4
 exact ⟨b1,b2.1,b4⟩
def lPlays_ob (k:Nat) (l:List Lf):Prop:=∀ (kv:Kv) (iv0:Nat→Int) (bv0:Nat→Bool),InB lPlays.B iv0→FT (sta FI FB kv iv0 bv0) (dlt dyn0) lPlays.F→∀ (iv:Nat→Int) (bv:Nat→Bool),Agr 5 iv0 bv0 iv bv→lPlays_inv iv0 bv0 k iv bv→∀ lf∈l,LfT (sta FI FB kv) lPlays.os (lPlays_inv iv0 bv0) (lPlays_mu iv0 bv0) k iv bv lf
theorem lPlays_o0:lPlays_ob 0 lPlays_L0:=by
 intro kv iv0 bv0 hin hF iv bv ha hi
 unfold lPlays_L0
 refine List.forall_mem_cons.2 ⟨?_,List.forall_mem_cons.2 ⟨?_,List.forall_mem_cons.2 ⟨?_,List.forall_mem_cons.2 ⟨?_,List.forall_mem_nil _⟩⟩⟩⟩
 all_goals
  intro δ hf
 all_goals
  obtain ⟨b1,b2,b4⟩:=lPlays_b hin
 all_goals
  have a0:=ha.1 0 (by omega)
  have a1:=ha.1 1 (by omega)
  have a2:=ha.1 2 (by omega)
  have a3:=ha.1 3 (by omega)
  have a4:=ha.1 4 (by omega)
 all_goals
  simp only [FT,TP,SB.tp,SI.tv,sta,IB.eval,and_true,true_and,ObsT,Ob.Tv,rowT,kix,In.tiv,↓tbvT,In.tbv,get_cons,get_nil,reduceIte,Nat.reduceEqDiff,Int.reduceToNat,Int.reduceAdd,Int.reduceSub,Int.reduceLE,Int.reduceLT,Int.reduceEq,ne_eq,Bool.false_eq_true,not_true_eq_false,not_false_eq_true,true_iff,false_iff,iff_true,iff_false,false_implies,implies_true,decT,decide_true,decide_false,Bool.decide_eq_true,ap2,pb2,FI_3,FI_8,FI_9,FI_3g,FI_3k,FI_8s,FI_8l,FI_8d,FB_1h,FB_1a,Int.toNat_natCast,Int.toNat_zero,FI_20,FI_21,FI_22,FI_23,FI_24,FI_25,FI_26,FI_27,FI_28,FI_30,FB_20,FB_21,FB_22,FB_23,lPlays_inv,lPlays_mu,lPlays,o1,othT,kA,lA,gA,bA,bA4,fT,i64b,o1,kT,kI,a0,a1,a2,a3,a4] at hf hi ⊢
 all_goals
  (repeat' (with_reducible apply And.intro))<;>first
  | omega
  | assumption
  | (unfold inM;omega)
  | exact trivial
  | (exact kinC_zero)
  | (exact lenC_zero)
  | (exact zC_zero)
  | (clear hin hF ha;grind)
theorem lPlays_o1:lPlays_ob 1 lPlays_L1:=by
 intro kv iv0 bv0 hin hF iv bv ha hi
 unfold lPlays_L1
 refine List.forall_mem_cons.2 ⟨?_,List.forall_mem_cons.2 ⟨?_,List.forall_mem_cons.2 ⟨?_,List.forall_mem_cons.2 ⟨?_,List.forall_mem_cons.2 ⟨?_,List.forall_mem_cons.2 ⟨?_,List.forall_mem_cons.2 ⟨?_,List.forall_mem_cons.2 ⟨?_,List.forall_mem_cons.2 ⟨?_,List.forall_mem_cons.2 ⟨?_,List.forall_mem_cons.2 ⟨?_,List.forall_mem_cons.2 ⟨?_,List.forall_mem_cons.2 ⟨?_,List.forall_mem_cons.2 ⟨?_,List.forall_mem_cons.2 ⟨?_,List.forall_mem_cons.2 ⟨?_,List.forall_mem_cons.2 ⟨?_,List.forall_mem_cons.2 ⟨?_,List.forall_mem_cons.2 ⟨?_,List.forall_mem_cons.2 ⟨?_,List.forall_mem_cons.2 ⟨?_,List.forall_mem_cons.2 ⟨?_,List.forall_mem_cons.2 ⟨?_,List.forall_mem_cons.2 ⟨?_,List.forall_mem_cons.2 ⟨?_,List.forall_mem_cons.2 ⟨?_,List.forall_mem_cons.2 ⟨?_,List.forall_mem_cons.2 ⟨?_,List.forall_mem_cons.2 ⟨?_,List.forall_mem_cons.2 ⟨?_,List.forall_mem_cons.2 ⟨?_,List.forall_mem_cons.2 ⟨?_,List.forall_mem_cons.2 ⟨?_,List.forall_mem_cons.2 ⟨?_,List.forall_mem_cons.2 ⟨?_,List.forall_mem_cons.2 ⟨?_,List.forall_mem_cons.2 ⟨?_,List.forall_mem_nil _⟩⟩⟩⟩⟩⟩⟩⟩⟩⟩⟩⟩⟩⟩⟩⟩⟩⟩⟩⟩⟩⟩⟩⟩⟩⟩⟩⟩⟩⟩⟩⟩⟩⟩⟩⟩⟩
 all_goals
  intro δ hf
 all_goals
  obtain ⟨b1,b2,b4⟩:=lPlays_b hin
 all_goals
  have a0:=ha.1 0 (by omega)
  have a1:=ha.1 1 (by omega)
  have a2:=ha.1 2 (by omega)
  have a3:=ha.1 3 (by omega)
  have a4:=ha.1 4 (by omega)
 all_goals
  simp only [FT,TP,SB.tp,SI.tv,sta,IB.eval,and_true,true_and,ObsT,Ob.Tv,rowT,kix,In.tiv,↓tbvT,In.tbv,get_cons,get_nil,reduceIte,Nat.reduceEqDiff,Int.reduceToNat,Int.reduceAdd,Int.reduceSub,Int.reduceLE,Int.reduceLT,Int.reduceEq,ne_eq,Bool.false_eq_true,not_true_eq_false,not_false_eq_true,true_iff,false_iff,iff_true,iff_false,false_implies,implies_true,decT,decide_true,decide_false,Bool.decide_eq_true,ap2,pb2,FI_3,FI_8,FI_9,FI_3g,FI_3k,FI_8s,FI_8l,FI_8d,FB_1h,FB_1a,Int.toNat_natCast,Int.toNat_zero,FI_20,FI_21,FI_22,FI_23,FI_24,FI_25,FI_26,FI_27,FI_28,FI_30,FB_20,FB_21,FB_22,FB_23,lPlays_inv,lPlays_mu,lPlays,o1,othT,kA,lA,gA,bA,bA4,fT,i64b,o1,kT,kI,a0,a1,a2,a3,a4] at hf hi ⊢
 all_goals
  obtain ⟨g1,g2,g3,g4,hK,hL,hZ⟩:=hi
 all_goals
  have q1:=relE_has0 (k:=(fl (iv0 0) (iv 25).toNat 1)) hL
 all_goals
  have q2:=relO_0.2 (relE_ins0 (k:=(fl (iv0 0) (iv 25).toNat 1)) (a:=(fl (iv0 0) (iv 25).toNat 2)) hK hL (fl_has _ _ _) (fl_has _ _ _))
 all_goals
  have q3:=dueC_spec (c:=(iv 26)) (now:=(if (1099511627776:Int) < iv 27+1 then 1099511627776 else iv 27+1)) (by omega)
 all_goals
  have z1:=hZ (fl (iv0 0) (iv 25).toNat 1)
 all_goals
  have z2:=zC_set (k:=(fl (iv0 0) (iv 25).toNat 1)) (a:=(fl (iv0 0) (iv 25).toNat 2)) hZ (fl_has _ _ _)
 all_goals
  try simp only [rmC_0] at hf ⊢
 all_goals
  (repeat' (with_reducible apply And.intro))<;>first
  | omega
  | assumption
  | (unfold inM;omega)
  | exact trivial
  | (clear hin hF ha;grind)
theorem lPlays_o2:lPlays_ob 2 lPlays_L2:=by
 intro kv iv0 bv0 hin hF iv bv ha hi
 unfold lPlays_L2
 refine List.forall_mem_cons.2 ⟨?_,List.forall_mem_cons.2 ⟨?_,List.forall_mem_cons.2 ⟨?_,List.forall_mem_cons.2 ⟨?_,List.forall_mem_cons.2 ⟨?_,List.forall_mem_cons.2 ⟨?_,List.forall_mem_cons.2 ⟨?_,List.forall_mem_cons.2 ⟨?_,List.forall_mem_cons.2 ⟨?_,List.forall_mem_cons.2 ⟨?_,List.forall_mem_cons.2 ⟨?_,List.forall_mem_cons.2 ⟨?_,List.forall_mem_cons.2 ⟨?_,List.forall_mem_cons.2 ⟨?_,List.forall_mem_cons.2 ⟨?_,List.forall_mem_cons.2 ⟨?_,List.forall_mem_cons.2 ⟨?_,List.forall_mem_cons.2 ⟨?_,List.forall_mem_cons.2 ⟨?_,List.forall_mem_cons.2 ⟨?_,List.forall_mem_cons.2 ⟨?_,List.forall_mem_cons.2 ⟨?_,List.forall_mem_cons.2 ⟨?_,List.forall_mem_cons.2 ⟨?_,List.forall_mem_cons.2 ⟨?_,List.forall_mem_cons.2 ⟨?_,List.forall_mem_cons.2 ⟨?_,List.forall_mem_cons.2 ⟨?_,List.forall_mem_cons.2 ⟨?_,List.forall_mem_cons.2 ⟨?_,List.forall_mem_cons.2 ⟨?_,List.forall_mem_cons.2 ⟨?_,List.forall_mem_cons.2 ⟨?_,List.forall_mem_cons.2 ⟨?_,List.forall_mem_cons.2 ⟨?_,List.forall_mem_cons.2 ⟨?_,List.forall_mem_cons.2 ⟨?_,List.forall_mem_cons.2 ⟨?_,List.forall_mem_cons.2 ⟨?_,List.forall_mem_cons.2 ⟨?_,List.forall_mem_cons.2 ⟨?_,List.forall_mem_cons.2 ⟨?_,List.forall_mem_cons.2 ⟨?_,List.forall_mem_cons.2 ⟨?_,List.forall_mem_cons.2 ⟨?_,List.forall_mem_cons.2 ⟨?_,List.forall_mem_cons.2 ⟨?_,List.forall_mem_cons.2 ⟨?_,List.forall_mem_cons.2 ⟨?_,List.forall_mem_cons.2 ⟨?_,List.forall_mem_cons.2 ⟨?_,List.forall_mem_cons.2 ⟨?_,List.forall_mem_nil _⟩⟩⟩⟩⟩⟩⟩⟩⟩⟩⟩⟩⟩⟩⟩⟩⟩⟩⟩⟩⟩⟩⟩⟩⟩⟩⟩⟩⟩⟩⟩⟩⟩⟩⟩⟩⟩⟩⟩⟩⟩⟩⟩⟩⟩⟩⟩⟩⟩⟩⟩⟩
 all_goals
  intro δ hf
 all_goals
  obtain ⟨b1,b2,b4⟩:=lPlays_b hin
 all_goals
  have a0:=ha.1 0 (by omega)
  have a1:=ha.1 1 (by omega)
  have a2:=ha.1 2 (by omega)
  have a3:=ha.1 3 (by omega)
  have a4:=ha.1 4 (by omega)
 all_goals
  simp only [FT,TP,SB.tp,SI.tv,sta,IB.eval,and_true,true_and,ObsT,Ob.Tv,rowT,kix,In.tiv,↓tbvT,In.tbv,get_cons,get_nil,reduceIte,Nat.reduceEqDiff,Int.reduceToNat,Int.reduceAdd,Int.reduceSub,Int.reduceLE,Int.reduceLT,Int.reduceEq,ne_eq,Bool.false_eq_true,not_true_eq_false,not_false_eq_true,true_iff,false_iff,iff_true,iff_false,false_implies,implies_true,decT,decide_true,decide_false,Bool.decide_eq_true,ap2,pb2,FI_3,FI_8,FI_9,FI_3g,FI_3k,FI_8s,FI_8l,FI_8d,FB_1h,FB_1a,Int.toNat_natCast,Int.toNat_zero,FI_20,FI_21,FI_22,FI_23,FI_24,FI_25,FI_26,FI_27,FI_28,FI_30,FB_20,FB_21,FB_22,FB_23,lPlays_inv,lPlays_mu,lPlays,o1,othT,kA,lA,gA,bA,bA4,fT,i64b,o1,kT,kI,a0,a1,a2,a3,a4] at hf hi ⊢
 all_goals
  obtain ⟨g1,g2,g3,g4,g5,g6,g7,g8,g9,hR,hZ⟩:=hi
 all_goals
  have hK:=hR.1
 all_goals
  have hL:=hR.2.1
 all_goals
  have hV:=relO_v hR
 all_goals
  have e0:=relE_nn hV
 all_goals
  have hE:=dueE (now:=(if (1099511627776:Int) < iv 31+1 then 1099511627776 else iv 31+1)) hV (by omega)
 all_goals
  have d0:=dueT_spec (d:=(blitC 0 0 (iv 36) (iv 33) (iv 34))) (n:=(iv 34)) (now:=(if (1099511627776:Int) < iv 31+1 then 1099511627776 else iv 31+1)) e0 (by omega)
 all_goals
  have q1:=fnd_has (k:=(fl (iv0 0) (iv 29).toNat 1)) hV (by omega)
 all_goals
  have q2:=fun hc=>relO_0.2 (relE_ins (k:=(fl (iv0 0) (iv 29).toNat 1)) (a:=(fl (iv0 0) (iv 29).toNat 2)) hV (by omega) (fl_has _ _ _) (fl_has _ _ _) hc)
 all_goals
  have q3:=fun hc=>relO_0.2 (relE_del (k:=(fl (iv0 0) (iv 29).toNat 1)) hV (by omega) hc)
 all_goals
  have q4:=same_tick (m:=dueT (blitC 0 0 (iv 36) (iv 33) (iv 34)) (iv 34) (if (1099511627776:Int) < iv 31+1 then 1099511627776 else iv 31+1)) hV d0.2.1 d0.1
 all_goals
  have q5:=relO_tick (m:=dueT (blitC 0 0 (iv 36) (iv 33) (iv 34)) (iv 34) (if (1099511627776:Int) < iv 31+1 then 1099511627776 else iv 31+1)) (o':=(iv 33)+if iv 35+-1 < dueT (blitC 0 0 (iv 36) (iv 33) (iv 34)) (iv 34) (if (1099511627776:Int) < iv 31+1 then 1099511627776 else iv 31+1) then iv 35+-1 else dueT (blitC 0 0 (iv 36) (iv 33) (iv 34)) (iv 34) (if (1099511627776:Int) < iv 31+1 then 1099511627776 else iv 31+1)) hR (by omega) d0.1 d0.2.1 (fun h=>by rw [if_neg (by omega)])
 all_goals
  have q6:=fun h=>fnd_view (k:=(fl (iv0 0) (iv 29).toNat 1)) hR (by omega) (by omega) h
 all_goals
  have z1:=hZ (fl (iv0 0) (iv 29).toNat 1)
 all_goals
  have z2:=zC_set (k:=(fl (iv0 0) (iv 29).toNat 1)) (a:=(fl (iv0 0) (iv 29).toNat 2)) hZ (fl_has _ _ _)
 all_goals
  have z3:=zC_del (k:=(fl (iv0 0) (iv 29).toNat 1)) hZ
 all_goals
  have z4:=zC_rm (m:=dueT (blitC 0 0 (iv 36) (iv 33) (iv 34)) (iv 34) (if (1099511627776:Int) < iv 31+1 then 1099511627776 else iv 31+1)) hZ
 all_goals
  try simp only [hE,rmC_0] at hf ⊢
 all_goals
  (repeat' (with_reducible apply And.intro))<;>first
  | omega
  | assumption
  | (unfold inM;omega)
  | exact trivial
  | (clear hin hF ha;grind)
theorem lPlays_c:LsC ((tm0 lPlays Try.f5 (Try.f5.body.getD .skip))::[lPlays_T1,lPlays_T2]) lPlays.os [lPlays_L0,lPlays_L1,lPlays_L2]:=by
 unfold lPlays_L0 lPlays_L1 lPlays_L2
 exact ⟨List.forall_mem_cons.2 ⟨⟨⟨_,rfl,rfl⟩,by kernel_rfl⟩,List.forall_mem_cons.2 ⟨⟨⟨_,rfl,rfl⟩,by kernel_rfl⟩,List.forall_mem_cons.2 ⟨⟨⟨_,rfl,rfl⟩,by kernel_rfl⟩,List.forall_mem_cons.2 ⟨⟨⟨_,rfl,rfl⟩,by kernel_rfl⟩,List.forall_mem_nil _⟩⟩⟩⟩,List.forall_mem_cons.2 ⟨⟨⟨_,rfl,rfl⟩,by kernel_rfl⟩,List.forall_mem_cons.2 ⟨trivial,List.forall_mem_cons.2 ⟨trivial,List.forall_mem_cons.2 ⟨⟨⟨_,rfl,rfl⟩,by kernel_rfl⟩,List.forall_mem_cons.2 ⟨trivial,List.forall_mem_cons.2 ⟨trivial,List.forall_mem_cons.2 ⟨⟨⟨_,rfl,rfl⟩,by kernel_rfl⟩,List.forall_mem_cons.2 ⟨⟨⟨_,rfl,rfl⟩,by kernel_rfl⟩,List.forall_mem_cons.2 ⟨⟨⟨_,rfl,rfl⟩,by kernel_rfl⟩,List.forall_mem_cons.2 ⟨trivial,List.forall_mem_cons.2 ⟨⟨⟨_,rfl,rfl⟩,by kernel_rfl⟩,List.forall_mem_cons.2 ⟨trivial,List.forall_mem_cons.2 ⟨trivial,List.forall_mem_cons.2 ⟨⟨⟨_,rfl,rfl⟩,by kernel_rfl⟩,List.forall_mem_cons.2 ⟨trivial,List.forall_mem_cons.2 ⟨trivial,List.forall_mem_cons.2 ⟨⟨⟨_,rfl,rfl⟩,by kernel_rfl⟩,List.forall_mem_cons.2 ⟨⟨⟨_,rfl,rfl⟩,by kernel_rfl⟩,List.forall_mem_cons.2 ⟨trivial,List.forall_mem_cons.2 ⟨trivial,List.forall_mem_cons.2 ⟨⟨⟨_,rfl,rfl⟩,by kernel_rfl⟩,List.forall_mem_cons.2 ⟨⟨⟨_,rfl,rfl⟩,by kernel_rfl⟩,List.forall_mem_cons.2 ⟨trivial,List.forall_mem_cons.2 ⟨trivial,List.forall_mem_cons.2 ⟨trivial,List.forall_mem_cons.2 ⟨⟨⟨_,rfl,rfl⟩,by kernel_rfl⟩,List.forall_mem_cons.2 ⟨⟨⟨_,rfl,rfl⟩,by kernel_rfl⟩,List.forall_mem_cons.2 ⟨trivial,List.forall_mem_cons.2 ⟨trivial,List.forall_mem_cons.2 ⟨⟨⟨_,rfl,rfl⟩,by kernel_rfl⟩,List.forall_mem_cons.2 ⟨⟨⟨_,rfl,rfl⟩,by kernel_rfl⟩,List.forall_mem_cons.2 ⟨⟨⟨_,rfl,rfl⟩,by kernel_rfl⟩,List.forall_mem_cons.2 ⟨trivial,List.forall_mem_cons.2 ⟨trivial,List.forall_mem_cons.2 ⟨⟨⟨_,rfl,rfl⟩,by kernel_rfl⟩,List.forall_mem_cons.2 ⟨trivial,List.forall_mem_cons.2 ⟨trivial,List.forall_mem_nil _⟩⟩⟩⟩⟩⟩⟩⟩⟩⟩⟩⟩⟩⟩⟩⟩⟩⟩⟩⟩⟩⟩⟩⟩⟩⟩⟩⟩⟩⟩⟩⟩⟩⟩⟩⟩⟩,List.forall_mem_cons.2 ⟨⟨⟨_,rfl,rfl⟩,by kernel_rfl⟩,List.forall_mem_cons.2 ⟨trivial,List.forall_mem_cons.2 ⟨⟨⟨_,rfl,rfl⟩,by kernel_rfl⟩,List.forall_mem_cons.2 ⟨trivial,List.forall_mem_cons.2 ⟨⟨⟨_,rfl,rfl⟩,by kernel_rfl⟩,List.forall_mem_cons.2 ⟨trivial,List.forall_mem_cons.2 ⟨⟨⟨_,rfl,rfl⟩,by kernel_rfl⟩,List.forall_mem_cons.2 ⟨⟨⟨_,rfl,rfl⟩,by kernel_rfl⟩,List.forall_mem_cons.2 ⟨⟨⟨_,rfl,rfl⟩,by kernel_rfl⟩,List.forall_mem_cons.2 ⟨⟨⟨_,rfl,rfl⟩,by kernel_rfl⟩,List.forall_mem_cons.2 ⟨⟨⟨_,rfl,rfl⟩,by kernel_rfl⟩,List.forall_mem_cons.2 ⟨trivial,List.forall_mem_cons.2 ⟨⟨⟨_,rfl,rfl⟩,by kernel_rfl⟩,List.forall_mem_cons.2 ⟨⟨⟨_,rfl,rfl⟩,by kernel_rfl⟩,List.forall_mem_cons.2 ⟨trivial,List.forall_mem_cons.2 ⟨⟨⟨_,rfl,rfl⟩,by kernel_rfl⟩,List.forall_mem_cons.2 ⟨⟨⟨_,rfl,rfl⟩,by kernel_rfl⟩,List.forall_mem_cons.2 ⟨trivial,List.forall_mem_cons.2 ⟨⟨⟨_,rfl,rfl⟩,by kernel_rfl⟩,List.forall_mem_cons.2 ⟨trivial,List.forall_mem_cons.2 ⟨⟨⟨_,rfl,rfl⟩,by kernel_rfl⟩,List.forall_mem_cons.2 ⟨trivial,List.forall_mem_cons.2 ⟨⟨⟨_,rfl,rfl⟩,by kernel_rfl⟩,List.forall_mem_cons.2 ⟨⟨⟨_,rfl,rfl⟩,by kernel_rfl⟩,List.forall_mem_cons.2 ⟨⟨⟨_,rfl,rfl⟩,by kernel_rfl⟩,List.forall_mem_cons.2 ⟨trivial,List.forall_mem_cons.2 ⟨⟨⟨_,rfl,rfl⟩,by kernel_rfl⟩,List.forall_mem_cons.2 ⟨trivial,List.forall_mem_cons.2 ⟨trivial,List.forall_mem_cons.2 ⟨trivial,List.forall_mem_cons.2 ⟨⟨⟨_,rfl,rfl⟩,by kernel_rfl⟩,List.forall_mem_cons.2 ⟨⟨⟨_,rfl,rfl⟩,by kernel_rfl⟩,List.forall_mem_cons.2 ⟨trivial,List.forall_mem_cons.2 ⟨trivial,List.forall_mem_cons.2 ⟨⟨⟨_,rfl,rfl⟩,by kernel_rfl⟩,List.forall_mem_cons.2 ⟨⟨⟨_,rfl,rfl⟩,by kernel_rfl⟩,List.forall_mem_cons.2 ⟨trivial,List.forall_mem_cons.2 ⟨trivial,List.forall_mem_cons.2 ⟨trivial,List.forall_mem_cons.2 ⟨⟨⟨_,rfl,rfl⟩,by kernel_rfl⟩,List.forall_mem_cons.2 ⟨⟨⟨_,rfl,rfl⟩,by kernel_rfl⟩,List.forall_mem_cons.2 ⟨trivial,List.forall_mem_cons.2 ⟨⟨⟨_,rfl,rfl⟩,by kernel_rfl⟩,List.forall_mem_cons.2 ⟨⟨⟨_,rfl,rfl⟩,by kernel_rfl⟩,List.forall_mem_cons.2 ⟨trivial,List.forall_mem_cons.2 ⟨⟨⟨_,rfl,rfl⟩,by kernel_rfl⟩,List.forall_mem_cons.2 ⟨trivial,List.forall_mem_cons.2 ⟨⟨⟨_,rfl,rfl⟩,by kernel_rfl⟩,List.forall_mem_cons.2 ⟨⟨⟨_,rfl,rfl⟩,by kernel_rfl⟩,List.forall_mem_cons.2 ⟨trivial,List.forall_mem_cons.2 ⟨⟨⟨_,rfl,rfl⟩,by kernel_rfl⟩,List.forall_mem_cons.2 ⟨trivial,List.forall_mem_nil _⟩⟩⟩⟩⟩⟩⟩⟩⟩⟩⟩⟩⟩⟩⟩⟩⟩⟩⟩⟩⟩⟩⟩⟩⟩⟩⟩⟩⟩⟩⟩⟩⟩⟩⟩⟩⟩⟩⟩⟩⟩⟩⟩⟩⟩⟩⟩⟩⟩⟩⟩⟩,trivial⟩
theorem lPlays_ok:lPlays.Ok Try.prog FI FB:=
 Con.of_plain (body:=Try.f5.body.getD .skip) pok fiok (EntsFor.cons cWorks_ok (EntsFor.consM tIs_ok (EntsFor.consM tIs0_ok (EntsFor.consM tTick_ok (EntsFor.consM tClone_ok (EntsFor.cons rFind_ok (EntsFor.cons rFind0_ok (EntsFor.cons rArm_ok (EntsFor.cons rArm0_ok (EntsFor.cons rCancel_ok (EntsFor.cons rCancel0_ok (EntsFor.cons rTickN_ok (EntsFor.cons rTick0_ok (EntsFor.cons rSame_ok (EntsFor.cons rSame0_ok (EntsFor.cons rSame1_ok (EntsFor.cons rSame2_ok EntsFor.nil))))))))))))))))) lPlays Try.func5 (by kernel_rfl) 5 [lPlays_T1,lPlays_T2] (by kernel_rfl) [lPlays_L0,lPlays_L1,lPlays_L2] ⟨lPlays_h0,lPlays_h1,lPlays_h2,trivial⟩ lPlays_c
  lPlays_inv lPlays_mu (fun _ _ _=>trivial) fun kv iv0 bv0 hin hF k l iv bv hk ha hi=>match k,hk,hi with
  | 0,hk,hi=>by
    cases hk
    exact lPlays_o0 kv iv0 bv0 hin hF iv bv ha hi
  | 1,hk,hi=>by
    cases hk
    exact lPlays_o1 kv iv0 bv0 hin hF iv bv ha hi
  | 2,hk,hi=>by
    cases hk
    exact lPlays_o2 kv iv0 bv0 hin hF iv bv ha hi
  | k+3,hk,_=>by simp at hk
def lPlays0_L0:List Lf:=
 let x0_:SI:=(.ap 8 (.c 0) (.c 0) (.c 0) (.c 0) (.c 2) (.c 0))
 let f0_:List (SB×Bool):=[((.le (.v 4) (.c 1099511627776)),.true),((.le (.c 0) (.v 4)),.true)]
 let f1_:List (SB×Bool):=((.ap 20 (.c 0) (.c 0) (.c 0) (.c 0) (.c 0) (.c 0)),.true)::f0_
 [(.fin (((.eq x0_ (.c 0)),.true)::f1_) 0 ⟨⟨[],[]⟩,[],[],[]⟩ [] []),
  (.bad (((.eq x0_ (.c 0)),.false)::f1_)),
  (.bad (((.ap 20 (.c 0) (.c 0) (.c 0) (.c 0) (.c 0) (.c 0)),.false)::f0_)),
  (.fin ([((.le (.v 4) (.c 1099511627776)),.false),((.le (.c 0) (.v 4)),.true)]) 0 ⟨⟨[],[]⟩,[],[],[]⟩ [] []),
  (.fin ([((.le (.c 0) (.v 4)),.false)]) 0 ⟨⟨[],[]⟩,[],[],[]⟩ [] [])]
def lPlays0_run (T:Tm):=(ex (ccOf Try.prog BF [62,32] lPlays0) ((fun cc=>[cWorks.ent cc,tIs.ent cc,tIs0.ent cc,tTick.ent cc,tClone.ent cc,rFind.ent cc,rFind0.ent cc,rArm.ent cc,rArm0.ent cc,rCancel.ent cc,rCancel0.ent cc,rTickN.ent cc,rTick0.ent cc,rSame.ent cc,rSame0.ent cc,rSame1.ent cc,rSame2.ent cc]) (ccOf Try.prog BF [62,32] lPlays0)) (dw (ccOf Try.prog BF [62,32] lPlays0) ((fun cc=>[cWorks.ent cc,tIs.ent cc,tIs0.ent cc,tTick.ent cc,tClone.ent cc,rFind.ent cc,rFind0.ent cc,rArm.ent cc,rArm0.ent cc,rCancel.ent cc,rCancel0.ent cc,rTickN.ent cc,rTick0.ent cc,rSame.ent cc,rSame0.ent cc,rSame1.ent cc,rSame2.ent cc]) (ccOf Try.prog BF [62,32] lPlays0)) 1000 4) (stopX [5,25]) 20000 T.f T.fs T.H).lfs (ccOf Try.prog BF [62,32] lPlays0) ((tm0 lPlays0 Try.f5 (Try.f5.body.getD .skip))::[]) lPlays0.os
theorem lPlays0_h0:lPlays0_run (tm0 lPlays0 Try.f5 (Try.f5.body.getD .skip))=some lPlays0_L0:=by kernel_rfl
def lPlays0_inv:(Nat→Int)→(Nat→Bool)→Nat→(Nat→Int)→(Nat→Bool)→Prop:=fun _ _ _ _ _=>True
def lPlays0_mu:(Nat→Int)→(Nat→Bool)→Nat→(Nat→Int)→(Nat→Bool)→Nat:=fun _ _ _ _ _=>0
theorem lPlays0_b {iv0:Nat→Int} (hin:InB lPlays0.B iv0):((-9223372036854775808)≤iv0 4∧iv0 4≤9223372036854775807):=by
 have b4:=hin 4 (-9223372036854775808) 9223372036854775807 (by simp [lPlays0,kA,lA,gA,bA,bA4,fT,i64b,o1,kT,kI])
 simp only [Int.reduceLE,reduceIte,Int.reduceNeg] at b4
 exact b4
def lPlays0_ob (k:Nat) (l:List Lf):Prop:=∀ (kv:Kv) (iv0:Nat→Int) (bv0:Nat→Bool),InB lPlays0.B iv0→FT (sta FI FB kv iv0 bv0) (dlt dyn0) lPlays0.F→∀ (iv:Nat→Int) (bv:Nat→Bool),Agr 5 iv0 bv0 iv bv→lPlays0_inv iv0 bv0 k iv bv→∀ lf∈l,LfT (sta FI FB kv) lPlays0.os (lPlays0_inv iv0 bv0) (lPlays0_mu iv0 bv0) k iv bv lf
theorem lPlays0_o0:lPlays0_ob 0 lPlays0_L0:=by
 intro kv iv0 bv0 hin hF iv bv ha hi
 unfold lPlays0_L0
 refine List.forall_mem_cons.2 ⟨?_,List.forall_mem_cons.2 ⟨?_,List.forall_mem_cons.2 ⟨?_,List.forall_mem_cons.2 ⟨?_,List.forall_mem_cons.2 ⟨?_,List.forall_mem_nil _⟩⟩⟩⟩⟩
 all_goals
  intro δ hf
 all_goals
  have b4:=lPlays0_b hin
 all_goals
  have a4:=ha.1 4 (by omega)
 all_goals
  simp only [FT,TP,SB.tp,SI.tv,sta,IB.eval,and_true,true_and,ObsT,Ob.Tv,rowT,kix,In.tiv,↓tbvT,In.tbv,get_cons,get_nil,reduceIte,Nat.reduceEqDiff,Int.reduceToNat,Int.reduceAdd,Int.reduceSub,Int.reduceLE,Int.reduceLT,Int.reduceEq,ne_eq,Bool.false_eq_true,not_true_eq_false,not_false_eq_true,true_iff,false_iff,iff_true,iff_false,false_implies,implies_true,decT,decide_true,decide_false,Bool.decide_eq_true,ap2,pb2,FI_3,FI_8,FI_9,FI_3g,FI_3k,FI_8s,FI_8l,FI_8d,FB_1h,FB_1a,Int.toNat_natCast,Int.toNat_zero,FI_20,FB_20,lPlays0_inv,lPlays0_mu,lPlays0,o1,othT,kA,lA,gA,bA,bA4,fT,i64b,o1,kT,kI,a4] at hf hi ⊢
 all_goals
  have z0:=kinC_zero
 all_goals
  have z1:=lenC_zero
 all_goals
  (repeat' (with_reducible apply And.intro))<;>first
  | omega
  | assumption
  | (unfold inM;omega)
  | exact trivial
  | (exact kinC_zero)
  | (exact lenC_zero)
  | (clear hin hF ha;grind)
theorem lPlays0_c:LsC ((tm0 lPlays0 Try.f5 (Try.f5.body.getD .skip))::[]) lPlays0.os [lPlays0_L0]:=by
 unfold lPlays0_L0
 exact ⟨List.forall_mem_cons.2 ⟨⟨⟨_,rfl,rfl⟩,by kernel_rfl⟩,List.forall_mem_cons.2 ⟨trivial,List.forall_mem_cons.2 ⟨trivial,List.forall_mem_cons.2 ⟨⟨⟨_,rfl,rfl⟩,by kernel_rfl⟩,List.forall_mem_cons.2 ⟨⟨⟨_,rfl,rfl⟩,by kernel_rfl⟩,List.forall_mem_nil _⟩⟩⟩⟩⟩,trivial⟩
theorem lPlays0_ok:lPlays0.Ok Try.prog FI FB:=
 Con.of_plain (body:=Try.f5.body.getD .skip) pok fiok (EntsFor.cons cWorks_ok (EntsFor.consM tIs_ok (EntsFor.consM tIs0_ok (EntsFor.consM tTick_ok (EntsFor.consM tClone_ok (EntsFor.cons rFind_ok (EntsFor.cons rFind0_ok (EntsFor.cons rArm_ok (EntsFor.cons rArm0_ok (EntsFor.cons rCancel_ok (EntsFor.cons rCancel0_ok (EntsFor.cons rTickN_ok (EntsFor.cons rTick0_ok (EntsFor.cons rSame_ok (EntsFor.cons rSame0_ok (EntsFor.cons rSame1_ok (EntsFor.cons rSame2_ok EntsFor.nil))))))))))))))))) lPlays0 Try.func5 (by kernel_rfl) 5 [] (by kernel_rfl) [lPlays0_L0] ⟨lPlays0_h0,trivial⟩ lPlays0_c
  lPlays0_inv lPlays0_mu (fun _ _ _=>trivial) fun kv iv0 bv0 hin hF k l iv bv hk ha hi=>match k,hk,hi with
  | 0,hk,hi=>by
    cases hk
    exact lPlays0_o0 kv iv0 bv0 hin hF iv bv ha hi
  | k+1,hk,_=>by simp at hk
end
end Go.Sx.Ti
