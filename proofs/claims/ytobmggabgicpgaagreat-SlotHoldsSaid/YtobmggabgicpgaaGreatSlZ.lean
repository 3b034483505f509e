/- Slots: SlotHolds, by contract. -/
import Derived.Test.YtobmggabgicpgaaGreatSlMy
import Derived.Test.YtobmggabgicpgaaGreatSlW
import Derived.Test.YtobmggabgicpgaaGreatSlT
namespace Go.Sx.Sl
set_option linter.unusedVariables false
set_option linter.unusedSimpArgs false
set_option maxRecDepth 100000
set_option maxHeartbeats 0
noncomputable section
open Go Go.Sx Go.Sx.Ti Go.Proofs
def kA:List Kd:=[.nt .i64,.nt .i64,.nt .i64,.nt .i64,.nt .i64,.nt .i64]
def gA:List Gv:=[⟨0,.v 2,kA,0,.v 1⟩]
def bZ:List (Nat×Int×Int):=[i64b 4,(1,0,9223372036854775807),(2,0,-1)]
def lHolds:Con:=⟨5,[0,1,2,3,4],[.it .i64 (.v 4),lS],gA,bZ,fS,o1 (.bo (.c true))⟩
def lHolds0:Con:=⟨5,[4],[.it .i64 (.v 4),.sn],[],[i64b 4],[],o1 (.bo (.c true))⟩
def lHolds_T1:Tm:=⟨⟨5,163,[(8,(.it .i64 (.v 28))),(6,(.sl (.n 5) (.c 0) (.v 4) (.v 27))),(5,(.pt (.n 0) (.c 0))),(1,(.sl (.k 0) (.v 2) (.v 1) (.v 3)))],[(.code (atC Tryz.f5 [1,1,1,1,1,0,1,0,0])),(.inLoop (atC Tryz.f5 [1,1,1,1,1,0,1,0,0])),(.inBlock 0),(.code (atC Tryz.f5 [1,1,1,1,1,1]))],[],.none⟩,[],
    ⟨[(0,(.cells [(.it .i64 (.c 1)),(.it .i64 (.c 1)),(.it .i64 (.v 4))] 23)),(5,(.arr [(.nt .i64),(.nt .i64),(.nt .i64),(.nt .i64),(.nt .i64),(.nt .i64),(.nt .i64),(.nt .u64)] (.v 26) (.v 4) 55 (.v 27)))],6,0,0,[((.lt (.c 60) (.v 1)),.false),((.lt (.c 4) (.v 4)),.false),((.lt (.v 4) (.c 1)),.false),((.le (.v 1) (.v 3)),.true),((.le (.c 0) (.v 3)),.true),((.le (.v 4) (.v 27)),.true)],[1,0],[(28,(0,60)),(1,(0,60)),(4,(1,4)),(2,(0,(-1)))]⟩,[26,27,28]⟩
def lHolds_T2:Tm:=⟨⟨5,163,[(13,(.it .i64 (.v 38))),(6,(.sl (.n 7) (.c 0) (.v 4) (.v 36))),(10,(.sl (.n 5) (.c 0) (.v 4) (.v 34))),(8,(.it .i64 (.v 37))),(5,(.pt (.n 0) (.c 0))),(1,(.sl (.k 0) (.v 2) (.v 1) (.v 3)))],[(.code (atC Tryz.f5 [1,1,1,1,1,0,1,0,0,1,0,0,1,1,1,1,1,1,1,0,0])),(.inLoop (atC Tryz.f5 [1,1,1,1,1,0,1,0,0,1,0,0,1,1,1,1,1,1,1,0,0])),(.inBlock 3),(.inBlock 1),(.code (atC Tryz.f5 [1,1,1,1,1,0,1,0,0,1,1])),(.inLoop (atC Tryz.f5 [1,1,1,1,1,0,1,0,0])),(.inBlock 0),(.code (atC Tryz.f5 [1,1,1,1,1,1]))],[],.none⟩,[],
    ⟨[(0,(.cells [(.it .i64 (.c 1)),(.it .i64 (.c 1)),(.it .i64 (.v 4))] 23)),(5,(.arr [(.nt .i64),(.nt .i64),(.nt .i64),(.nt .i64),(.nt .i64),(.nt .i64),(.nt .i64),(.nt .u64)] (.v 33) (.v 4) 55 (.v 34))),(7,(.arr [(.nt .i64),(.nt .i64),(.nt .i64),(.nt .i64),(.nt .i64),(.nt .i64),(.nt .i64),(.nt .u64)] (.v 35) (.v 4) 55 (.v 36)))],8,0,0,[((.lt (.c 60) (.v 1)),.false),((.lt (.c 4) (.v 4)),.false),((.lt (.v 4) (.c 1)),.false),((.le (.v 1) (.v 3)),.true),((.le (.c 0) (.v 3)),.true),((.le (.v 4) (.v 34)),.true),((.le (.v 4) (.v 36)),.true),((.lt (.v 37) (.v 1)),.true),((.le (.v 38) (.v 4)),.true)],[1,0],[(38,(0,4)),(37,(0,60)),(1,(0,60)),(4,(1,4)),(2,(0,(-1)))]⟩,[33,34,35,36,37,38]⟩
def lHolds_L0:List Lf:=
 let f0_:List (SB×Bool):=[((.le (.v 1) (.v 3)),.true),((.le (.c 0) (.v 3)),.true)]
 let f1_:List (SB×Bool):=((.lt (.v 4) (.c 1)),.false)::f0_
 let f2_:List (SB×Bool):=((.lt (.c 4) (.v 4)),.false)::f1_
 [(.fin (((.lt (.v 4) (.c 1)),.true)::f0_) 0 ⟨⟨[],[]⟩,[],[],[]⟩ [] []),
  (.fin (((.lt (.c 4) (.v 4)),.true)::f1_) 0 ⟨⟨[],[]⟩,[],[],[]⟩ [] []),
  (.fin (((.lt (.c 60) (.v 1)),.true)::f2_) 0 ⟨⟨[],[]⟩,[],[],[]⟩ [] []),
  (let i_:In:=⟨⟨[(26,(.c 0)),(27,(.v 4)),(28,(.c 0))],[]⟩,[(0,0),(5,5)],[],[]⟩;.cut (((.lt (.c 60) (.v 1)),.false)::f2_) 1 i_ [] (shT lHolds_T1 i_))]
def lHolds_L1:List Lf:=
 let p0_:SB×Bool:=((.le (.v 4) (.d 0)),.true)
 let x1_:SI:=(.ap 3 (.v 0) (.v 28) (.c 0) (.c 0) (.c 0) (.c 0))
 let x2_:SI:=(.ap 3 (.v 0) (.v 28) (.c 5) (.c 0) (.c 0) (.c 0))
 let x3_:SI:=(.ap 3 (.v 0) (.v 28) (.c 2) (.c 0) (.c 0) (.c 0))
 let x4_:SI:=(.ap 3 (.v 0) (.v 28) (.c 4) (.c 0) (.c 0) (.c 0))
 let x5_:SI:=(.ap 3 (.v 0) (.v 28) (.c 1) (.c 0) (.c 0) (.c 0))
 let x6_:SI:=(.ap 3 (.v 0) (.v 28) (.c 3) (.c 0) (.c 0) (.c 0))
 let x7_:SI:=(.ap 22 (.v 26) (.v 4) (.c 1) (.c 1) (.v 4) (.c 0))
 let x8_:SI:=(.ap 21 (.v 26) (.v 4) (.c 0) (.c 0) (.c 0) (.c 0))
 let p9_:SB×Bool:=((.le (.c 0) x5_),.true)
 let p10_:SB×Bool:=((.lt x5_ (.v 4)),.true)
 let p11_:SB×Bool:=((.eq x7_ (.c 0)),.true)
 let p12_:SB×Bool:=((.lt x5_ (.v 4)),.false)
 let p13_:SB×Bool:=((.le (.c 0) x5_),.false)
 let p14_:SB×Bool:=((.eq x7_ (.c 0)),.false)
 let x15_:SI:=(.ap 3 (.v 26) x5_ (.c 1) (.c 0) (.c 0) (.c 0))
 let x16_:SI:=(.ap 3 (.v 26) x5_ (.c 0) (.c 0) (.c 0) (.c 0))
 let x17_:SI:=(.ap 3 (.v 26) x5_ (.c 2) (.c 0) (.c 0) (.c 0))
 let x18_:SI:=(.ap 24 (.v 26) (.v 4) x4_ (.c 0) (.c 0) (.c 0))
 let p19_:SB×Bool:=((.eq x15_ (.c 1)),.true)
 let p20_:SB×Bool:=((.eq x15_ (.c 1)),.false)
 let x21_:SI:=(.ap 8 (.v 26) x5_ (.c 0) x6_ (.c 0) (.c 0))
 let x22_:SI:=(.ap 22 (.ap 23 (.v 26) (.v 4) x4_ (.c 0) (.c 0) (.c 0)) (.v 4) (.c 1) (.c 1) (.v 4) (.c 0))
 let p23_:SB×Bool:=((.eq x16_ x6_),.true)
 let p24_:SB×Bool:=((.eq x16_ x6_),.false)
 let x25_:SI:=(.ap 8 (.ap 8 (.ap 8 (.ap 8 (.ap 8 (.ap 8 x21_ x5_ (.c 1) (.c 4) (.c 0) (.c 0)) x5_ (.c 2) (.c 0) (.c 0) (.c 0)) x5_ (.c 3) (.c 0) (.c 0) (.c 0)) x5_ (.c 4) (.c 0) (.c 0) (.c 0)) x5_ (.c 5) (.c 0) (.c 0) (.c 0)) x5_ (.c 6) (.c 0) (.c 0) (.c 0))
 let x26_:SI:=(.ap 8 (.ap 8 (.ap 8 (.ap 8 (.ap 8 (.ap 8 x21_ x5_ (.c 1) (.c 3) (.c 0) (.c 0)) x5_ (.c 2) (.c 0) (.c 0) (.c 0)) x5_ (.c 3) (.c 0) (.c 0) (.c 0)) x5_ (.c 4) (.c 0) (.c 0) (.c 0)) x5_ (.c 5) (.c 0) (.c 0) (.c 0)) x5_ (.c 6) (.c 0) (.c 0) (.c 0))
 let x27_:SI:=(.ap 22 (.ap 8 x25_ x5_ (.c 7) (.c 0) (.c 0) (.c 0)) (.v 4) (.c 1) (.c 1) (.v 4) (.c 0))
 let x28_:SI:=(.ap 22 (.ap 8 x26_ x5_ (.c 7) (.c 0) (.c 0) (.c 0)) (.v 4) (.c 1) (.c 1) (.v 4) (.c 0))
 let x29_:SI:=(.ap 8 (.ap 8 (.ap 8 (.ap 8 (.ap 8 (.ap 8 (.ap 8 (.v 26) x8_ (.c 0) (.wk .i64 (.op .add (.ap 3 (.v 26) x8_ (.c 0) (.c 0) (.c 0) (.c 0)) (.c 1))) (.c 0) (.c 0)) x8_ (.c 1) (.c 1) (.c 0) (.c 0)) x8_ (.c 2) x2_ (.c 0) (.c 0)) x8_ (.c 3) x3_ (.c 0) (.c 0)) x8_ (.c 4) x4_ (.c 0) (.c 0)) x8_ (.c 5) (.c 0) (.c 0) (.c 0)) x8_ (.c 6) (.c 0) (.c 0) (.c 0))
 let x30_:SI:=(.ap 8 (.ap 8 (.ap 8 (.ap 8 (.ap 8 (.ap 8 (.ap 8 (.v 26) x5_ (.c 0) x16_ (.c 0) (.c 0)) x5_ (.c 1) (.c 2) (.c 0) (.c 0)) x5_ (.c 2) x17_ (.c 0) (.c 0)) x5_ (.c 3) (.ap 3 (.v 26) x5_ (.c 3) (.c 0) (.c 0) (.c 0)) (.c 0) (.c 0)) x5_ (.c 4) (.c 0) (.c 0) (.c 0)) x5_ (.c 5) (.c 0) (.c 0) (.c 0)) x5_ (.c 6) (.c 0) (.c 0) (.c 0))
 let x31_:SI:=(.ap 22 (.ap 8 x29_ x8_ (.c 7) (.c 0) (.c 0) (.c 0)) (.v 4) (.c 1) (.c 1) (.v 4) (.c 0))
 let x32_:SI:=(.ap 22 (.ap 8 x30_ x5_ (.c 7) (.c 0) (.c 0) (.c 0)) (.v 4) (.c 1) (.c 1) (.v 4) (.c 0))
 let f0_:List (SB×Bool):=[((.lt (.c 60) (.v 1)),.false),((.lt (.c 4) (.v 4)),.false),((.lt (.v 4) (.c 1)),.false),((.le (.v 1) (.v 3)),.true),((.le (.c 0) (.v 3)),.true),((.le (.v 4) (.v 27)),.true)]
 let f1_:List (SB×Bool):=((.lt (.v 28) (.v 1)),.true)::f0_
 let f2_:List (SB×Bool):=((.eq x1_ (.c 0)),.true)::f1_
 let f3_:List (SB×Bool):=((.eq x1_ (.c 0)),.false)::f1_
 let f4_:List (SB×Bool):=p11_::f2_
 let f5_:List (SB×Bool):=((.eq x1_ (.c 1)),.true)::f3_
 let f6_:List (SB×Bool):=((.eq x1_ (.c 1)),.false)::f3_
 let f7_:List (SB×Bool):=((.ap 20 (.c 1) (.c 1) x2_ x3_ x4_ (.c 0)),.true)::f4_
 let f8_:List (SB×Bool):=p11_::f5_
 let f9_:List (SB×Bool):=((.eq x1_ (.c 2)),.true)::f6_
 let f10_:List (SB×Bool):=((.eq x1_ (.c 2)),.false)::f6_
 let f11_:List (SB×Bool):=p9_::f8_
 let f12_:List (SB×Bool):=p11_::f9_
 let f13_:List (SB×Bool):=((.eq x1_ (.c 3)),.true)::f10_
 let f14_:List (SB×Bool):=((.eq x1_ (.c 3)),.false)::f10_
 let f15_:List (SB×Bool):=p10_::f11_
 let f16_:List (SB×Bool):=p9_::f12_
 let f17_:List (SB×Bool):=p11_::f13_
 let f18_:List (SB×Bool):=p11_::f14_
 let f19_:List (SB×Bool):=p0_::((.lt x8_ (.v 4)),.true)::((.le (.c 0) x8_),.true)::f7_
 let f20_:List (SB×Bool):=p19_::f15_
 let f21_:List (SB×Bool):=p10_::f16_
 let f22_:List (SB×Bool):=p9_::f17_
 let f23_:List (SB×Bool):=((.le (.c 0) x4_),.true)::f18_
 let f24_:List (SB×Bool):=p23_::f20_
 let f25_:List (SB×Bool):=((.eq x6_ (.c 0)),.false)::f21_
 let f26_:List (SB×Bool):=p10_::f22_
 let f27_:List (SB×Bool):=((.le x4_ (.c 1099511627776)),.true)::f23_
 let f28_:List (SB×Bool):=p23_::f25_
 let f29_:List (SB×Bool):=((.eq x6_ (.c 0)),.false)::f26_
 let f30_:List (SB×Bool):=p0_::((.eq x17_ x2_),.true)::f24_
 let f31_:List (SB×Bool):=((.eq x15_ (.c 2)),.false)::f28_
 let f32_:List (SB×Bool):=p23_::f29_
 let f33_:List (SB×Bool):=p0_::((.lt (.c 0) x18_),.false)::f27_
 let f34_:List (SB×Bool):=p20_::f32_
 let f35_:List (SB×Bool):=p0_::((.le x18_ (.d 1)),.true)::((.lt (.c 0) x18_),.true)::f27_
 let f36_:List (SB×Bool):=p0_::p19_::f31_
 let f37_:List (SB×Bool):=p0_::((.eq x15_ (.c 2)),.true)::f34_
 [(let i_:In:=⟨⟨[(35,(.ap 8 x29_ x8_ (.c 7) (.c 0) (.c 0) (.c 0))),(33,(.v 26)),(37,(.v 28)),(34,(.v 27)),(36,(.d 0)),(38,(.c 0))],[]⟩,[(0,0),(5,5),(7,7)],[],[]⟩;.cut (((.eq x31_ (.c 0)),.true)::f19_) 2 i_ [] (shT lHolds_T2 i_)),
  (.fin (((.eq x31_ (.c 0)),.false)::f19_) 0 ⟨⟨[],[]⟩,[],[],[]⟩ [(.eb (.c .true) (.c .false))] []),
  (let i_:In:=⟨⟨[(26,(.v 26)),(27,(.v 27)),(28,(.op .add (.v 28) (.c 1)))],[]⟩,[(0,0),(5,5)],[],[]⟩;.cut (((.le (.c 0) x8_),.false)::f7_) 1 i_ [] (shT lHolds_T1 i_)),
  (let i_:In:=⟨⟨[(26,(.v 26)),(27,(.v 27)),(28,(.op .add (.v 28) (.c 1)))],[]⟩,[(0,0),(5,5)],[],[]⟩;.cut (((.ap 20 (.c 1) (.c 1) x2_ x3_ x4_ (.c 0)),.false)::f4_) 1 i_ [] (shT lHolds_T1 i_)),
  (let i_:In:=⟨⟨[(26,(.v 26)),(27,(.v 27)),(28,(.op .add (.v 28) (.c 1)))],[]⟩,[(0,0),(5,5)],[],[]⟩;.cut (p14_::f2_) 1 i_ [] (shT lHolds_T1 i_)),
  (let i_:In:=⟨⟨[(35,(.ap 8 x30_ x5_ (.c 7) (.c 0) (.c 0) (.c 0))),(33,(.v 26)),(37,(.v 28)),(34,(.v 27)),(36,(.d 0)),(38,(.c 0))],[]⟩,[(0,0),(5,5),(7,7)],[],[]⟩;.cut (((.eq x32_ (.c 0)),.true)::f30_) 2 i_ [] (shT lHolds_T2 i_)),
  (.fin (((.eq x32_ (.c 0)),.false)::f30_) 0 ⟨⟨[],[]⟩,[],[],[]⟩ [(.eb (.c .true) (.c .false))] []),
  (let i_:In:=⟨⟨[(35,(.v 26)),(33,(.v 26)),(37,(.v 28)),(34,(.v 27)),(36,(.d 0)),(38,(.c 0))],[]⟩,[(0,0),(5,5),(7,7)],[],[]⟩;.cut (p0_::((.eq x17_ x2_),.false)::f24_) 2 i_ [] (shT lHolds_T2 i_)),
  (let i_:In:=⟨⟨[(35,(.v 26)),(33,(.v 26)),(37,(.v 28)),(34,(.v 27)),(36,(.d 0)),(38,(.c 0))],[]⟩,[(0,0),(5,5),(7,7)],[],[]⟩;.cut (p0_::p24_::f20_) 2 i_ [] (shT lHolds_T2 i_)),
  (let i_:In:=⟨⟨[(35,(.v 26)),(33,(.v 26)),(37,(.v 28)),(34,(.v 27)),(36,(.d 0)),(38,(.c 0))],[]⟩,[(0,0),(5,5),(7,7)],[],[]⟩;.cut (p0_::p20_::f15_) 2 i_ [] (shT lHolds_T2 i_)),
  (let i_:In:=⟨⟨[(26,(.v 26)),(27,(.v 27)),(28,(.op .add (.v 28) (.c 1)))],[]⟩,[(0,0),(5,5)],[],[]⟩;.cut (p12_::f11_) 1 i_ [] (shT lHolds_T1 i_)),
  (let i_:In:=⟨⟨[(26,(.v 26)),(27,(.v 27)),(28,(.op .add (.v 28) (.c 1)))],[]⟩,[(0,0),(5,5)],[],[]⟩;.cut (p13_::f8_) 1 i_ [] (shT lHolds_T1 i_)),
  (let i_:In:=⟨⟨[(26,(.v 26)),(27,(.v 27)),(28,(.op .add (.v 28) (.c 1)))],[]⟩,[(0,0),(5,5)],[],[]⟩;.cut (p14_::f5_) 1 i_ [] (shT lHolds_T1 i_)),
  (let i_:In:=⟨⟨[(26,(.v 26)),(27,(.v 27)),(28,(.op .add (.v 28) (.c 1)))],[]⟩,[(0,0),(5,5)],[],[]⟩;.cut (((.eq x6_ (.c 0)),.true)::f21_) 1 i_ [] (shT lHolds_T1 i_)),
  (let i_:In:=⟨⟨[(26,(.v 26)),(27,(.v 27)),(28,(.op .add (.v 28) (.c 1)))],[]⟩,[(0,0),(5,5)],[],[]⟩;.cut (((.eq x15_ (.c 2)),.true)::f28_) 1 i_ [] (shT lHolds_T1 i_)),
  (let i_:In:=⟨⟨[(35,(.ap 8 x25_ x5_ (.c 7) (.c 0) (.c 0) (.c 0))),(33,(.v 26)),(37,(.v 28)),(34,(.v 27)),(36,(.d 0)),(38,(.c 0))],[]⟩,[(0,0),(5,5),(7,8)],[],[]⟩;.cut (((.eq x27_ (.c 0)),.true)::f36_) 2 i_ [] (shT lHolds_T2 i_)),
  (.fin (((.eq x27_ (.c 0)),.false)::f36_) 0 ⟨⟨[],[]⟩,[],[],[]⟩ [(.eb (.c .true) (.c .false))] []),
  (let i_:In:=⟨⟨[(26,(.v 26)),(27,(.v 27)),(28,(.op .add (.v 28) (.c 1)))],[]⟩,[(0,0),(5,5)],[],[]⟩;.cut (p20_::f31_) 1 i_ [] (shT lHolds_T1 i_)),
  (let i_:In:=⟨⟨[(26,(.v 26)),(27,(.v 27)),(28,(.op .add (.v 28) (.c 1)))],[]⟩,[(0,0),(5,5)],[],[]⟩;.cut (p24_::f25_) 1 i_ [] (shT lHolds_T1 i_)),
  (let i_:In:=⟨⟨[(26,(.v 26)),(27,(.v 27)),(28,(.op .add (.v 28) (.c 1)))],[]⟩,[(0,0),(5,5)],[],[]⟩;.cut (p12_::f16_) 1 i_ [] (shT lHolds_T1 i_)),
  (let i_:In:=⟨⟨[(26,(.v 26)),(27,(.v 27)),(28,(.op .add (.v 28) (.c 1)))],[]⟩,[(0,0),(5,5)],[],[]⟩;.cut (p13_::f12_) 1 i_ [] (shT lHolds_T1 i_)),
  (let i_:In:=⟨⟨[(26,(.v 26)),(27,(.v 27)),(28,(.op .add (.v 28) (.c 1)))],[]⟩,[(0,0),(5,5)],[],[]⟩;.cut (p14_::f9_) 1 i_ [] (shT lHolds_T1 i_)),
  (let i_:In:=⟨⟨[(26,(.v 26)),(27,(.v 27)),(28,(.op .add (.v 28) (.c 1)))],[]⟩,[(0,0),(5,5)],[],[]⟩;.cut (((.eq x6_ (.c 0)),.true)::f26_) 1 i_ [] (shT lHolds_T1 i_)),
  (let i_:In:=⟨⟨[(26,(.v 26)),(27,(.v 27)),(28,(.op .add (.v 28) (.c 1)))],[]⟩,[(0,0),(5,5)],[],[]⟩;.cut (p19_::f32_) 1 i_ [] (shT lHolds_T1 i_)),
  (let i_:In:=⟨⟨[(35,(.ap 8 x26_ x5_ (.c 7) (.c 0) (.c 0) (.c 0))),(33,(.v 26)),(37,(.v 28)),(34,(.v 27)),(36,(.d 0)),(38,(.c 0))],[]⟩,[(0,0),(5,5),(7,8)],[],[]⟩;.cut (((.eq x28_ (.c 0)),.true)::f37_) 2 i_ [] (shT lHolds_T2 i_)),
  (.fin (((.eq x28_ (.c 0)),.false)::f37_) 0 ⟨⟨[],[]⟩,[],[],[]⟩ [(.eb (.c .true) (.c .false))] []),
  (let i_:In:=⟨⟨[(26,(.v 26)),(27,(.v 27)),(28,(.op .add (.v 28) (.c 1)))],[]⟩,[(0,0),(5,5)],[],[]⟩;.cut (((.eq x15_ (.c 2)),.false)::f34_) 1 i_ [] (shT lHolds_T1 i_)),
  (let i_:In:=⟨⟨[(26,(.v 26)),(27,(.v 27)),(28,(.op .add (.v 28) (.c 1)))],[]⟩,[(0,0),(5,5)],[],[]⟩;.cut (p24_::f29_) 1 i_ [] (shT lHolds_T1 i_)),
  (let i_:In:=⟨⟨[(26,(.v 26)),(27,(.v 27)),(28,(.op .add (.v 28) (.c 1)))],[]⟩,[(0,0),(5,5)],[],[]⟩;.cut (p12_::f22_) 1 i_ [] (shT lHolds_T1 i_)),
  (let i_:In:=⟨⟨[(26,(.v 26)),(27,(.v 27)),(28,(.op .add (.v 28) (.c 1)))],[]⟩,[(0,0),(5,5)],[],[]⟩;.cut (p13_::f17_) 1 i_ [] (shT lHolds_T1 i_)),
  (let i_:In:=⟨⟨[(26,(.v 26)),(27,(.v 27)),(28,(.op .add (.v 28) (.c 1)))],[]⟩,[(0,0),(5,5)],[],[]⟩;.cut (p14_::f13_) 1 i_ [] (shT lHolds_T1 i_)),
  (let i_:In:=⟨⟨[(35,(.ap 23 (.v 26) (.v 4) x4_ (.c 0) (.c 0) (.c 0))),(33,(.v 26)),(37,(.v 28)),(34,(.v 27)),(36,(.d 0)),(38,(.c 0))],[]⟩,[(0,0),(5,5),(7,7)],[],[]⟩;.cut (((.eq x22_ (.c 0)),.true)::f35_) 2 i_ [] (shT lHolds_T2 i_)),
  (.fin (((.eq x22_ (.c 0)),.false)::f35_) 0 ⟨⟨[],[]⟩,[],[],[]⟩ [(.eb (.c .true) (.c .false))] []),
  (let i_:In:=⟨⟨[(35,(.ap 23 (.v 26) (.v 4) x4_ (.c 0) (.c 0) (.c 0))),(33,(.v 26)),(37,(.v 28)),(34,(.v 27)),(36,(.d 0)),(38,(.c 0))],[]⟩,[(0,0),(5,5),(7,7)],[],[]⟩;.cut (((.eq x22_ (.c 0)),.true)::f33_) 2 i_ [] (shT lHolds_T2 i_)),
  (.fin (((.eq x22_ (.c 0)),.false)::f33_) 0 ⟨⟨[],[]⟩,[],[],[]⟩ [(.eb (.c .true) (.c .false))] []),
  (let i_:In:=⟨⟨[(26,(.v 26)),(27,(.v 27)),(28,(.op .add (.v 28) (.c 1)))],[]⟩,[(0,0),(5,5)],[],[]⟩;.cut (((.le x4_ (.c 1099511627776)),.false)::f23_) 1 i_ [] (shT lHolds_T1 i_)),
  (let i_:In:=⟨⟨[(26,(.v 26)),(27,(.v 27)),(28,(.op .add (.v 28) (.c 1)))],[]⟩,[(0,0),(5,5)],[],[]⟩;.cut (((.le (.c 0) x4_),.false)::f18_) 1 i_ [] (shT lHolds_T1 i_)),
  (let i_:In:=⟨⟨[(26,(.v 26)),(27,(.v 27)),(28,(.op .add (.v 28) (.c 1)))],[]⟩,[(0,0),(5,5)],[],[]⟩;.cut (p14_::f14_) 1 i_ [] (shT lHolds_T1 i_)),
  (.fin (((.lt (.v 28) (.v 1)),.false)::f0_) 0 ⟨⟨[],[]⟩,[],[],[]⟩ [] [])]
def lHolds_L2:List Lf:=
 let x0_:SI:=(.ap 3 (.v 33) (.v 38) (.c 0) (.c 0) (.c 0) (.c 0))
 let x1_:SI:=(.ap 3 (.v 35) (.v 38) (.c 0) (.c 0) (.c 0) (.c 0))
 let x2_:SI:=(.ap 3 (.v 33) (.v 38) (.c 1) (.c 0) (.c 0) (.c 0))
 let x3_:SI:=(.ap 3 (.v 35) (.v 38) (.c 1) (.c 0) (.c 0) (.c 0))
 let x4_:SI:=(.ap 3 (.v 33) (.v 38) (.c 2) (.c 0) (.c 0) (.c 0))
 let x5_:SI:=(.ap 3 (.v 35) (.v 38) (.c 2) (.c 0) (.c 0) (.c 0))
 let x6_:SI:=(.ap 3 (.v 33) (.v 38) (.c 3) (.c 0) (.c 0) (.c 0))
 let x7_:SI:=(.ap 3 (.v 35) (.v 38) (.c 3) (.c 0) (.c 0) (.c 0))
 let x8_:SI:=(.ap 3 (.v 33) (.v 38) (.c 4) (.c 0) (.c 0) (.c 0))
 let x9_:SI:=(.ap 3 (.v 35) (.v 38) (.c 4) (.c 0) (.c 0) (.c 0))
 let x10_:SI:=(.ap 3 (.v 33) (.v 38) (.c 5) (.c 0) (.c 0) (.c 0))
 let x11_:SI:=(.ap 3 (.v 35) (.v 38) (.c 5) (.c 0) (.c 0) (.c 0))
 let x12_:SI:=(.ap 3 (.v 33) (.v 38) (.c 6) (.c 0) (.c 0) (.c 0))
 let x13_:SI:=(.ap 3 (.v 35) (.v 38) (.c 6) (.c 0) (.c 0) (.c 0))
 let x14_:SI:=(.ap 7 (.v 33) (.v 38) (.c 7) (.c 0) (.c 0) (.c 0))
 let x15_:SI:=(.ap 7 (.v 35) (.v 38) (.c 7) (.c 0) (.c 0) (.c 0))
 let p16_:SB×Bool:=((.eq x3_ (.c 1)),.true)
 let p17_:SB×Bool:=((.eq x3_ (.c 2)),.true)
 let p18_:SB×Bool:=((.eq x3_ (.c 4)),.true)
 let p19_:SB×Bool:=((.eq x2_ (.c 1)),.true)
 let p20_:SB×Bool:=((.eq x3_ (.c 5)),.true)
 let p21_:SB×Bool:=((.eq x3_ (.c 3)),.true)
 let p22_:SB×Bool:=((.eq x2_ (.c 2)),.true)
 let p23_:SB×Bool:=((.eq x3_ (.c 1)),.false)
 let p24_:SB×Bool:=((.eq x2_ (.c 1)),.false)
 let p25_:SB×Bool:=((.eq x3_ (.c 2)),.false)
 let p26_:SB×Bool:=((.eq x2_ (.c 2)),.false)
 let p27_:SB×Bool:=((.eq x3_ (.c 4)),.false)
 let p28_:SB×Bool:=((.eq x3_ (.c 5)),.false)
 let p29_:SB×Bool:=((.eq x3_ (.c 3)),.false)
 let x30_:SI:=(.wk .i64 (.op .add x1_ (.c (-1))))
 let x31_:SI:=(.wk .i64 (.op .add x0_ (.c (-1))))
 let p32_:SB×Bool:=((.eq x1_ (.wk .i64 (.op .add x0_ (.c 1)))),.true)
 let p33_:SB×Bool:=((.eq x1_ (.wk .i64 (.op .add x0_ (.c 1)))),.false)
 let p34_:SB×Bool:=((.lt x30_ x0_),.true)
 let p35_:SB×Bool:=((.eq x0_ x30_),.true)
 let p36_:SB×Bool:=((.lt x1_ x31_),.true)
 let p37_:SB×Bool:=((.eq x31_ x1_),.true)
 let p38_:SB×Bool:=((.lt x30_ x0_),.false)
 let p39_:SB×Bool:=((.lt x1_ x31_),.false)
 let p40_:SB×Bool:=((.eq x0_ x30_),.false)
 let p41_:SB×Bool:=((.eq x31_ x1_),.false)
 let p42_:SB×Bool:=((.lt x30_ x31_),.true)
 let p43_:SB×Bool:=((.eq x31_ x30_),.true)
 let p44_:SB×Bool:=((.lt x30_ x31_),.false)
 let p45_:SB×Bool:=((.eq x31_ x30_),.false)
 let f0_:List (SB×Bool):=[((.lt (.c 60) (.v 1)),.false),((.lt (.c 4) (.v 4)),.false),((.lt (.v 4) (.c 1)),.false),((.le (.v 1) (.v 3)),.true),((.le (.c 0) (.v 3)),.true),((.le (.v 4) (.v 34)),.true),((.le (.v 4) (.v 36)),.true),((.lt (.v 37) (.v 1)),.true),((.le (.v 38) (.v 4)),.true)]
 let f1_:List (SB×Bool):=((.lt (.v 38) (.v 4)),.true)::f0_
 let f2_:List (SB×Bool):=((.eq x0_ x1_),.true)::f1_
 let f3_:List (SB×Bool):=((.eq x0_ x1_),.false)::f1_
 let f4_:List (SB×Bool):=((.eq x2_ x3_),.true)::f2_
 let f5_:List (SB×Bool):=((.eq x2_ x3_),.false)::f2_
 let f6_:List (SB×Bool):=p16_::f3_
 let f7_:List (SB×Bool):=p23_::f3_
 let f8_:List (SB×Bool):=((.eq x4_ x5_),.true)::f4_
 let f9_:List (SB×Bool):=((.eq x4_ x5_),.false)::f4_
 let f10_:List (SB×Bool):=p16_::f5_
 let f11_:List (SB×Bool):=p23_::f5_
 let f12_:List (SB×Bool):=p24_::f6_
 let f13_:List (SB×Bool):=p17_::f7_
 let f14_:List (SB×Bool):=p25_::f7_
 let f15_:List (SB×Bool):=((.eq x6_ x7_),.true)::f8_
 let f16_:List (SB×Bool):=((.eq x6_ x7_),.false)::f8_
 let f17_:List (SB×Bool):=p23_::f9_
 let f18_:List (SB×Bool):=p24_::f10_
 let f19_:List (SB×Bool):=p17_::f11_
 let f20_:List (SB×Bool):=p25_::f11_
 let f21_:List (SB×Bool):=p26_::f12_
 let f22_:List (SB×Bool):=p18_::f14_
 let f23_:List (SB×Bool):=p27_::f14_
 let f24_:List (SB×Bool):=((.eq x8_ x9_),.true)::f15_
 let f25_:List (SB×Bool):=((.eq x8_ x9_),.false)::f15_
 let f26_:List (SB×Bool):=p23_::f16_
 let f27_:List (SB×Bool):=p25_::f17_
 let f28_:List (SB×Bool):=p26_::f18_
 let f29_:List (SB×Bool):=p19_::f19_
 let f30_:List (SB×Bool):=p18_::f20_
 let f31_:List (SB×Bool):=p27_::f20_
 let f32_:List (SB×Bool):=p32_::f21_
 let f33_:List (SB×Bool):=p20_::f23_
 let f34_:List (SB×Bool):=p28_::f23_
 let f35_:List (SB×Bool):=((.eq x10_ x11_),.true)::f24_
 let f36_:List (SB×Bool):=((.eq x10_ x11_),.false)::f24_
 let f37_:List (SB×Bool):=p23_::f25_
 let f38_:List (SB×Bool):=p25_::f26_
 let f39_:List (SB×Bool):=p27_::f27_
 let f40_:List (SB×Bool):=p32_::f28_
 let f41_:List (SB×Bool):=p44_::f29_
 let f42_:List (SB×Bool):=p19_::f30_
 let f43_:List (SB×Bool):=p20_::f31_
 let f44_:List (SB×Bool):=p28_::f31_
 let f45_:List (SB×Bool):=p38_::f32_
 let f46_:List (SB×Bool):=p21_::f34_
 let f47_:List (SB×Bool):=((.eq x12_ x13_),.true)::f35_
 let f48_:List (SB×Bool):=((.eq x12_ x13_),.false)::f35_
 let f49_:List (SB×Bool):=p23_::f36_
 let f50_:List (SB×Bool):=p25_::f37_
 let f51_:List (SB×Bool):=p27_::f38_
 let f52_:List (SB×Bool):=p28_::f39_
 let f53_:List (SB×Bool):=p38_::f40_
 let f54_:List (SB×Bool):=p39_::f42_
 let f55_:List (SB×Bool):=p19_::f43_
 let f56_:List (SB×Bool):=p21_::f44_
 let f57_:List (SB×Bool):=((.eq x14_ x15_),.true)::f47_
 let f58_:List (SB×Bool):=((.eq x14_ x15_),.false)::f47_
 let f59_:List (SB×Bool):=p23_::f48_
 let f60_:List (SB×Bool):=p25_::f49_
 let f61_:List (SB×Bool):=p27_::f50_
 let f62_:List (SB×Bool):=p28_::f51_
 let f63_:List (SB×Bool):=p39_::f55_
 let f64_:List (SB×Bool):=p22_::f56_
 let f65_:List (SB×Bool):=p19_::f57_
 let f66_:List (SB×Bool):=p24_::f57_
 let f67_:List (SB×Bool):=p23_::f58_
 let f68_:List (SB×Bool):=p25_::f59_
 let f69_:List (SB×Bool):=p27_::f60_
 let f70_:List (SB×Bool):=p28_::f61_
 let f71_:List (SB×Bool):=p39_::f64_
 let f72_:List (SB×Bool):=p44_::f65_
 let f73_:List (SB×Bool):=p22_::f66_
 let f74_:List (SB×Bool):=p26_::f66_
 let f75_:List (SB×Bool):=p25_::f67_
 let f76_:List (SB×Bool):=p27_::f68_
 let f77_:List (SB×Bool):=p28_::f69_
 let f78_:List (SB×Bool):=p44_::f73_
 let f79_:List (SB×Bool):=p16_::f74_
 let f80_:List (SB×Bool):=p23_::f74_
 let f81_:List (SB×Bool):=p27_::f75_
 let f82_:List (SB×Bool):=p28_::f76_
 let f83_:List (SB×Bool):=p38_::f79_
 let f84_:List (SB×Bool):=p17_::f80_
 let f85_:List (SB×Bool):=p28_::f81_
 let f86_:List (SB×Bool):=p38_::f84_
 [(.fin (p42_::f65_) 0 ⟨⟨[],[]⟩,[],[],[]⟩ [(.eb (.c .true) (.c .false))] []),
  (let i_:In:=⟨⟨[(35,(.v 35)),(33,(.v 33)),(37,(.v 37)),(34,(.v 34)),(36,(.v 36)),(38,(.op .add (.v 38) (.c 1)))],[]⟩,[(0,0),(5,5),(7,7)],[],[]⟩;.cut (p43_::f72_) 2 i_ [] (shT lHolds_T2 i_)),
  (let i_:In:=⟨⟨[(35,(.v 35)),(33,(.v 33)),(37,(.v 37)),(34,(.v 34)),(36,(.v 36)),(38,(.op .add (.v 38) (.c 1)))],[]⟩,[(0,0),(5,5),(7,7)],[],[]⟩;.cut (p45_::f72_) 2 i_ [] (shT lHolds_T2 i_)),
  (.fin (p42_::f73_) 0 ⟨⟨[],[]⟩,[],[],[]⟩ [(.eb (.c .true) (.c .false))] []),
  (let i_:In:=⟨⟨[(35,(.v 35)),(33,(.v 33)),(37,(.v 37)),(34,(.v 34)),(36,(.v 36)),(38,(.op .add (.v 38) (.c 1)))],[]⟩,[(0,0),(5,5),(7,7)],[],[]⟩;.cut (p43_::f78_) 2 i_ [] (shT lHolds_T2 i_)),
  (let i_:In:=⟨⟨[(35,(.v 35)),(33,(.v 33)),(37,(.v 37)),(34,(.v 34)),(36,(.v 36)),(38,(.op .add (.v 38) (.c 1)))],[]⟩,[(0,0),(5,5),(7,7)],[],[]⟩;.cut (p45_::f78_) 2 i_ [] (shT lHolds_T2 i_)),
  (.fin (p34_::f79_) 0 ⟨⟨[],[]⟩,[],[],[]⟩ [(.eb (.c .true) (.c .false))] []),
  (let i_:In:=⟨⟨[(35,(.v 35)),(33,(.v 33)),(37,(.v 37)),(34,(.v 34)),(36,(.v 36)),(38,(.op .add (.v 38) (.c 1)))],[]⟩,[(0,0),(5,5),(7,7)],[],[]⟩;.cut (p35_::f83_) 2 i_ [] (shT lHolds_T2 i_)),
  (let i_:In:=⟨⟨[(35,(.v 35)),(33,(.v 33)),(37,(.v 37)),(34,(.v 34)),(36,(.v 36)),(38,(.op .add (.v 38) (.c 1)))],[]⟩,[(0,0),(5,5),(7,7)],[],[]⟩;.cut (p40_::f83_) 2 i_ [] (shT lHolds_T2 i_)),
  (.fin (p34_::f84_) 0 ⟨⟨[],[]⟩,[],[],[]⟩ [(.eb (.c .true) (.c .false))] []),
  (let i_:In:=⟨⟨[(35,(.v 35)),(33,(.v 33)),(37,(.v 37)),(34,(.v 34)),(36,(.v 36)),(38,(.op .add (.v 38) (.c 1)))],[]⟩,[(0,0),(5,5),(7,7)],[],[]⟩;.cut (p35_::f86_) 2 i_ [] (shT lHolds_T2 i_)),
  (let i_:In:=⟨⟨[(35,(.v 35)),(33,(.v 33)),(37,(.v 37)),(34,(.v 34)),(36,(.v 36)),(38,(.op .add (.v 38) (.c 1)))],[]⟩,[(0,0),(5,5),(7,7)],[],[]⟩;.cut (p40_::f86_) 2 i_ [] (shT lHolds_T2 i_)),
  (let i_:In:=⟨⟨[(35,(.v 35)),(33,(.v 33)),(37,(.v 37)),(34,(.v 34)),(36,(.v 36)),(38,(.op .add (.v 38) (.c 1)))],[]⟩,[(0,0),(5,5),(7,7)],[],[]⟩;.cut (p25_::f80_) 2 i_ [] (shT lHolds_T2 i_)),
  (.fin (p16_::f58_) 0 ⟨⟨[],[]⟩,[],[],[]⟩ [(.eb (.c .true) (.c .false))] []),
  (.fin (p17_::f67_) 0 ⟨⟨[],[]⟩,[],[],[]⟩ [(.eb (.c .true) (.c .false))] []),
  (.fin (p18_::f75_) 0 ⟨⟨[],[]⟩,[],[],[]⟩ [(.eb (.c .true) (.c .false))] []),
  (.fin (p20_::f81_) 0 ⟨⟨[],[]⟩,[],[],[]⟩ [(.eb (.c .true) (.c .false))] []),
  (.fin (p21_::f85_) 0 ⟨⟨[],[]⟩,[],[],[]⟩ [(.eb (.c .true) (.c .false))] []),
  (.fin (p29_::f85_) 0 ⟨⟨[],[]⟩,[],[],[]⟩ [(.eb (.c .true) (.c .false))] []),
  (.fin (p16_::f48_) 0 ⟨⟨[],[]⟩,[],[],[]⟩ [(.eb (.c .true) (.c .false))] []),
  (.fin (p17_::f59_) 0 ⟨⟨[],[]⟩,[],[],[]⟩ [(.eb (.c .true) (.c .false))] []),
  (.fin (p18_::f68_) 0 ⟨⟨[],[]⟩,[],[],[]⟩ [(.eb (.c .true) (.c .false))] []),
  (.fin (p20_::f76_) 0 ⟨⟨[],[]⟩,[],[],[]⟩ [(.eb (.c .true) (.c .false))] []),
  (.fin (p21_::f82_) 0 ⟨⟨[],[]⟩,[],[],[]⟩ [(.eb (.c .true) (.c .false))] []),
  (.fin (p29_::f82_) 0 ⟨⟨[],[]⟩,[],[],[]⟩ [(.eb (.c .true) (.c .false))] []),
  (.fin (p16_::f36_) 0 ⟨⟨[],[]⟩,[],[],[]⟩ [(.eb (.c .true) (.c .false))] []),
  (.fin (p17_::f49_) 0 ⟨⟨[],[]⟩,[],[],[]⟩ [(.eb (.c .true) (.c .false))] []),
  (.fin (p18_::f60_) 0 ⟨⟨[],[]⟩,[],[],[]⟩ [(.eb (.c .true) (.c .false))] []),
  (.fin (p20_::f69_) 0 ⟨⟨[],[]⟩,[],[],[]⟩ [(.eb (.c .true) (.c .false))] []),
  (.fin (p21_::f77_) 0 ⟨⟨[],[]⟩,[],[],[]⟩ [(.eb (.c .true) (.c .false))] []),
  (.fin (p29_::f77_) 0 ⟨⟨[],[]⟩,[],[],[]⟩ [(.eb (.c .true) (.c .false))] []),
  (.fin (p16_::f25_) 0 ⟨⟨[],[]⟩,[],[],[]⟩ [(.eb (.c .true) (.c .false))] []),
  (.fin (p17_::f37_) 0 ⟨⟨[],[]⟩,[],[],[]⟩ [(.eb (.c .true) (.c .false))] []),
  (.fin (p18_::f50_) 0 ⟨⟨[],[]⟩,[],[],[]⟩ [(.eb (.c .true) (.c .false))] []),
  (.fin (p20_::f61_) 0 ⟨⟨[],[]⟩,[],[],[]⟩ [(.eb (.c .true) (.c .false))] []),
  (.fin (p21_::f70_) 0 ⟨⟨[],[]⟩,[],[],[]⟩ [(.eb (.c .true) (.c .false))] []),
  (.fin (p29_::f70_) 0 ⟨⟨[],[]⟩,[],[],[]⟩ [(.eb (.c .true) (.c .false))] []),
  (.fin (p16_::f16_) 0 ⟨⟨[],[]⟩,[],[],[]⟩ [(.eb (.c .true) (.c .false))] []),
  (.fin (p17_::f26_) 0 ⟨⟨[],[]⟩,[],[],[]⟩ [(.eb (.c .true) (.c .false))] []),
  (.fin (p18_::f38_) 0 ⟨⟨[],[]⟩,[],[],[]⟩ [(.eb (.c .true) (.c .false))] []),
  (.fin (p20_::f51_) 0 ⟨⟨[],[]⟩,[],[],[]⟩ [(.eb (.c .true) (.c .false))] []),
  (.fin (p21_::f62_) 0 ⟨⟨[],[]⟩,[],[],[]⟩ [(.eb (.c .true) (.c .false))] []),
  (.fin (p29_::f62_) 0 ⟨⟨[],[]⟩,[],[],[]⟩ [(.eb (.c .true) (.c .false))] []),
  (.fin (p16_::f9_) 0 ⟨⟨[],[]⟩,[],[],[]⟩ [(.eb (.c .true) (.c .false))] []),
  (.fin (p17_::f17_) 0 ⟨⟨[],[]⟩,[],[],[]⟩ [(.eb (.c .true) (.c .false))] []),
  (.fin (p18_::f27_) 0 ⟨⟨[],[]⟩,[],[],[]⟩ [(.eb (.c .true) (.c .false))] []),
  (.fin (p20_::f39_) 0 ⟨⟨[],[]⟩,[],[],[]⟩ [(.eb (.c .true) (.c .false))] []),
  (.fin (p21_::f52_) 0 ⟨⟨[],[]⟩,[],[],[]⟩ [(.eb (.c .true) (.c .false))] []),
  (.fin (p29_::f52_) 0 ⟨⟨[],[]⟩,[],[],[]⟩ [(.eb (.c .true) (.c .false))] []),
  (.fin (p19_::f10_) 0 ⟨⟨[],[]⟩,[],[],[]⟩ [(.eb (.c .true) (.c .false))] []),
  (.fin (p22_::f18_) 0 ⟨⟨[],[]⟩,[],[],[]⟩ [(.eb (.c .true) (.c .false))] []),
  (.fin (p34_::f40_) 0 ⟨⟨[],[]⟩,[],[],[]⟩ [(.eb (.c .true) (.c .false))] []),
  (let i_:In:=⟨⟨[(35,(.v 35)),(33,(.v 33)),(37,(.v 37)),(34,(.v 34)),(36,(.v 36)),(38,(.op .add (.v 38) (.c 1)))],[]⟩,[(0,0),(5,5),(7,7)],[],[]⟩;.cut (p35_::f53_) 2 i_ [] (shT lHolds_T2 i_)),
  (let i_:In:=⟨⟨[(35,(.v 35)),(33,(.v 33)),(37,(.v 37)),(34,(.v 34)),(36,(.v 36)),(38,(.op .add (.v 38) (.c 1)))],[]⟩,[(0,0),(5,5),(7,7)],[],[]⟩;.cut (p40_::f53_) 2 i_ [] (shT lHolds_T2 i_)),
  (.fin (p33_::f28_) 0 ⟨⟨[],[]⟩,[],[],[]⟩ [(.eb (.c .true) (.c .false))] []),
  (.fin (p42_::f29_) 0 ⟨⟨[],[]⟩,[],[],[]⟩ [(.eb (.c .true) (.c .false))] []),
  (let i_:In:=⟨⟨[(35,(.v 35)),(33,(.v 33)),(37,(.v 37)),(34,(.v 34)),(36,(.v 36)),(38,(.op .add (.v 38) (.c 1)))],[]⟩,[(0,0),(5,5),(7,7)],[],[]⟩;.cut (p43_::f41_) 2 i_ [] (shT lHolds_T2 i_)),
  (let i_:In:=⟨⟨[(35,(.v 35)),(33,(.v 33)),(37,(.v 37)),(34,(.v 34)),(36,(.v 36)),(38,(.op .add (.v 38) (.c 1)))],[]⟩,[(0,0),(5,5),(7,7)],[],[]⟩;.cut (p45_::f41_) 2 i_ [] (shT lHolds_T2 i_)),
  (.fin (p24_::f19_) 0 ⟨⟨[],[]⟩,[],[],[]⟩ [(.eb (.c .true) (.c .false))] []),
  (.fin (p36_::f42_) 0 ⟨⟨[],[]⟩,[],[],[]⟩ [(.eb (.c .true) (.c .false))] []),
  (.fin (p37_::f54_) 0 ⟨⟨[],[]⟩,[],[],[]⟩ [(.eb (.c .true) (.c .false))] []),
  (let i_:In:=⟨⟨[(35,(.v 35)),(33,(.v 33)),(37,(.v 37)),(34,(.v 34)),(36,(.v 36)),(38,(.op .add (.v 38) (.c 1)))],[]⟩,[(0,0),(5,5),(7,7)],[],[]⟩;.cut (p41_::f54_) 2 i_ [] (shT lHolds_T2 i_)),
  (.fin (p24_::f30_) 0 ⟨⟨[],[]⟩,[],[],[]⟩ [(.eb (.c .true) (.c .false))] []),
  (.fin (p36_::f55_) 0 ⟨⟨[],[]⟩,[],[],[]⟩ [(.eb (.c .true) (.c .false))] []),
  (.fin (p37_::f63_) 0 ⟨⟨[],[]⟩,[],[],[]⟩ [(.eb (.c .true) (.c .false))] []),
  (let i_:In:=⟨⟨[(35,(.v 35)),(33,(.v 33)),(37,(.v 37)),(34,(.v 34)),(36,(.v 36)),(38,(.op .add (.v 38) (.c 1)))],[]⟩,[(0,0),(5,5),(7,7)],[],[]⟩;.cut (p41_::f63_) 2 i_ [] (shT lHolds_T2 i_)),
  (.fin (p24_::f43_) 0 ⟨⟨[],[]⟩,[],[],[]⟩ [(.eb (.c .true) (.c .false))] []),
  (.fin (p36_::f64_) 0 ⟨⟨[],[]⟩,[],[],[]⟩ [(.eb (.c .true) (.c .false))] []),
  (.fin (p37_::f71_) 0 ⟨⟨[],[]⟩,[],[],[]⟩ [(.eb (.c .true) (.c .false))] []),
  (let i_:In:=⟨⟨[(35,(.v 35)),(33,(.v 33)),(37,(.v 37)),(34,(.v 34)),(36,(.v 36)),(38,(.op .add (.v 38) (.c 1)))],[]⟩,[(0,0),(5,5),(7,7)],[],[]⟩;.cut (p41_::f71_) 2 i_ [] (shT lHolds_T2 i_)),
  (.fin (p26_::f56_) 0 ⟨⟨[],[]⟩,[],[],[]⟩ [(.eb (.c .true) (.c .false))] []),
  (.fin (p29_::f44_) 0 ⟨⟨[],[]⟩,[],[],[]⟩ [(.eb (.c .true) (.c .false))] []),
  (.fin (p19_::f6_) 0 ⟨⟨[],[]⟩,[],[],[]⟩ [(.eb (.c .true) (.c .false))] []),
  (.fin (p22_::f12_) 0 ⟨⟨[],[]⟩,[],[],[]⟩ [(.eb (.c .true) (.c .false))] []),
  (.fin (p34_::f32_) 0 ⟨⟨[],[]⟩,[],[],[]⟩ [(.eb (.c .true) (.c .false))] []),
  (let i_:In:=⟨⟨[(35,(.v 35)),(33,(.v 33)),(37,(.v 37)),(34,(.v 34)),(36,(.v 36)),(38,(.op .add (.v 38) (.c 1)))],[]⟩,[(0,0),(5,5),(7,7)],[],[]⟩;.cut (p35_::f45_) 2 i_ [] (shT lHolds_T2 i_)),
  (let i_:In:=⟨⟨[(35,(.v 35)),(33,(.v 33)),(37,(.v 37)),(34,(.v 34)),(36,(.v 36)),(38,(.op .add (.v 38) (.c 1)))],[]⟩,[(0,0),(5,5),(7,7)],[],[]⟩;.cut (p40_::f45_) 2 i_ [] (shT lHolds_T2 i_)),
  (.fin (p33_::f21_) 0 ⟨⟨[],[]⟩,[],[],[]⟩ [(.eb (.c .true) (.c .false))] []),
  (.fin (p19_::f13_) 0 ⟨⟨[],[]⟩,[],[],[]⟩ [(.eb (.c .true) (.c .false))] []),
  (.fin (p24_::f13_) 0 ⟨⟨[],[]⟩,[],[],[]⟩ [(.eb (.c .true) (.c .false))] []),
  (.fin (p19_::f22_) 0 ⟨⟨[],[]⟩,[],[],[]⟩ [(.eb (.c .true) (.c .false))] []),
  (.fin (p24_::f22_) 0 ⟨⟨[],[]⟩,[],[],[]⟩ [(.eb (.c .true) (.c .false))] []),
  (.fin (p19_::f33_) 0 ⟨⟨[],[]⟩,[],[],[]⟩ [(.eb (.c .true) (.c .false))] []),
  (.fin (p24_::f33_) 0 ⟨⟨[],[]⟩,[],[],[]⟩ [(.eb (.c .true) (.c .false))] []),
  (.fin (p22_::f46_) 0 ⟨⟨[],[]⟩,[],[],[]⟩ [(.eb (.c .true) (.c .false))] []),
  (.fin (p26_::f46_) 0 ⟨⟨[],[]⟩,[],[],[]⟩ [(.eb (.c .true) (.c .false))] []),
  (.fin (p29_::f34_) 0 ⟨⟨[],[]⟩,[],[],[]⟩ [(.eb (.c .true) (.c .false))] []),
  (let i_:In:=⟨⟨[(26,(.v 35)),(27,(.v 36)),(28,(.op .add (.v 37) (.c 1)))],[]⟩,[(0,0),(5,7)],[],[]⟩;.cut (((.lt (.v 38) (.v 4)),.false)::f0_) 1 i_ [(.rn (.op .add (.v 37) (.c 1)) 0 60)] (shT lHolds_T1 i_))]
def lHolds_run (T:Tm):=(ex (ccOf Tryz.prog BF [55,53,52,54,60,59] lHolds) ((fun cc=>[cWorks.ent cc,sMy.ent cc,sAcq.ent cc,sGrt.ent cc,sCan.ent cc,sRel.ent cc,sLat.ent cc,sChk.ent cc]) (ccOf Tryz.prog BF [55,53,52,54,60,59] lHolds)) (dw (ccOf Tryz.prog BF [55,53,52,54,60,59] lHolds) ((fun cc=>[cWorks.ent cc,sMy.ent cc,sAcq.ent cc,sGrt.ent cc,sCan.ent cc,sRel.ent cc,sLat.ent cc,sChk.ent cc]) (ccOf Tryz.prog BF [55,53,52,54,60,59] lHolds)) 1000 4) (stopX [14,60,66,89,91,58,69,93,72]) 20000 T.f T.fs T.H).lfs (ccOf Tryz.prog BF [55,53,52,54,60,59] lHolds) ((tm0 lHolds Tryz.f5 (Tryz.f5.body.getD .skip))::[lHolds_T1,lHolds_T2]) lHolds.os
theorem lHolds_h0:lHolds_run (tm0 lHolds Tryz.f5 (Tryz.f5.body.getD .skip))=some lHolds_L0:=by kernel_rfl
theorem lHolds_h1:lHolds_run lHolds_T1=some lHolds_L1:=by kernel_rfl
theorem lHolds_h2:lHolds_run lHolds_T2=some lHolds_L2:=by kernel_rfl
def lHolds_inv:(Nat→Int)→(Nat→Bool)→Nat→(Nat→Int)→(Nat→Bool)→Prop:=fun iv0 _ k iv _=>match k with | 0=>True | 1=>0≤iv 28∧iv 28≤iv0 1∧iv0 4≤iv 27∧okS (iv 26) (iv0 4) | _=>0≤iv 37∧iv 37 < iv0 1∧0≤iv 38∧iv 38≤iv0 4∧iv0 4≤iv 34∧iv0 4≤iv 36∧okS (iv 33) (iv0 4)∧okS (iv 35) (iv0 4)∧∀ j:Nat,(j:Int) < iv0 4→stp (iv 33) (iv 35) j
def lHolds_mu:(Nat→Int)→(Nat→Bool)→Nat→(Nat→Int)→(Nat→Bool)→Nat:=fun iv0 _ k iv _=>match k with | 0=>2 ^ 90 | 1=>(iv0 1 - iv 28).toNat * 2 ^ 71+2 ^ 70 | _=>(iv0 1 - iv 37).toNat * 2 ^ 71+(iv0 4 - iv 38).toNat
theorem lHolds_b {iv0:Nat→Int} (hin:InB lHolds.B iv0):((-9223372036854775808)≤iv0 4∧iv0 4≤9223372036854775807)∧(0≤iv0 1∧iv0 1≤9223372036854775807)∧0≤iv0 2:=by
 have b4:=hin 4 (-9223372036854775808) 9223372036854775807 (by simp [lHolds,kS,slV,mayV,i64s,i64b,lmap,lS,gS,bS,fS,bdS,shV,o1,frS,stS,chS,mAS,usS,acS,erS,chE,gS2,lS2,bS2,fS2,sAcq,laS,lwS,lcS,kI1,nwB,oLat,rgB,clS,grB,rwS,erG,okG,bG,zrS,erE,okE,tkB,sEnd,slW,eq8,myF,kA,gA,bZ,sCan,sRel])
 simp only [Int.reduceLE,reduceIte,Int.reduceNeg] at b4
 have b1:=hin 1 0 9223372036854775807 (by simp [lHolds,kS,slV,mayV,i64s,i64b,lmap,lS,gS,bS,fS,bdS,shV,o1,frS,stS,chS,mAS,usS,acS,erS,chE,gS2,lS2,bS2,fS2,sAcq,laS,lwS,lcS,kI1,nwB,oLat,rgB,clS,grB,rwS,erG,okG,bG,zrS,erE,okE,tkB,sEnd,slW,eq8,myF,kA,gA,bZ,sCan,sRel])
 simp only [Int.reduceLE,reduceIte,Int.reduceNeg] at b1
 have b2:=hin 2 0 (-1) (by simp [lHolds,kS,slV,mayV,i64s,i64b,lmap,lS,gS,bS,fS,bdS,shV,o1,frS,stS,chS,mAS,usS,acS,erS,chE,gS2,lS2,bS2,fS2,sAcq,laS,lwS,lcS,kI1,nwB,oLat,rgB,clS,grB,rwS,erG,okG,bG,zrS,erE,okE,tkB,sEnd,slW,eq8,myF,kA,gA,bZ,sCan,sRel])
 simp only [Int.reduceLE,reduceIte,Int.reduceNeg] at b2
 exact ⟨b4,b1,b2.1⟩
def lHolds_ob (k:Nat) (l:List Lf):Prop:=∀ (kv:Kv) (iv0:Nat→Int) (bv0:Nat→Bool),InB lHolds.B iv0→FT (sta FI FB kv iv0 bv0) (dlt dyn0) lHolds.F→∀ (iv:Nat→Int) (bv:Nat→Bool),Agr 5 iv0 bv0 iv bv→lHolds_inv iv0 bv0 k iv bv→∀ lf∈l,LfT (sta FI FB kv) lHolds.os (lHolds_inv iv0 bv0) (lHolds_mu iv0 bv0) k iv bv lf
theorem lHolds_o0:lHolds_ob 0 lHolds_L0:=by
 intro kv iv0 bv0 hin hF iv bv ha hi
 unfold lHolds_L0
 refine List.forall_mem_cons.2 ⟨?_,List.forall_mem_cons.2 ⟨?_,List.forall_mem_cons.2 ⟨?_,List.forall_mem_cons.2 ⟨?_,List.forall_mem_nil _⟩⟩⟩⟩
 all_goals
  intro δ hf
 all_goals
  obtain ⟨b4,b1,b2⟩:=lHolds_b hin
 all_goals
  have a0:=ha.1 0 (by omega)
  have a1:=ha.1 1 (by omega)
  have a2:=ha.1 2 (by omega)
  have a3:=ha.1 3 (by omega)
  have a4:=ha.1 4 (by omega)
 all_goals
  simp only [FT,TP,SB.tp,SI.tv,sta,IB.eval,and_true,true_and,ObsT,Ob.Tv,rowT,kix,In.tiv,↓tbvT,In.tbv,get_cons,get_nil,reduceIte,Nat.reduceEqDiff,Int.reduceToNat,Int.reduceAdd,Int.reduceSub,Int.reduceLE,Int.reduceLT,Int.reduceEq,ne_eq,Bool.false_eq_true,not_true_eq_false,not_false_eq_true,true_iff,false_iff,iff_true,iff_false,false_implies,implies_true,decT,decide_true,decide_false,Bool.decide_eq_true,ap2,pb2,FI_3,FI_3u,FI_8,FI_9,FI_3g,FI_3k,FI_8s,FI_8l,FI_8d,FB_1h,FB_1a,Int.toNat_natCast,Int.toNat_zero,FI_20,FI_21,FI_22,FI_23,FI_24,FB_20,FB_21,FB_22,FB_23,FB_24,lHolds_inv,lHolds_mu,lHolds,o1,othT,kS,slV,mayV,i64s,i64b,lmap,lS,gS,bS,fS,bdS,shV,o1,frS,stS,chS,mAS,usS,acS,erS,chE,gS2,lS2,bS2,fS2,sAcq,laS,lwS,lcS,kI1,nwB,oLat,rgB,clS,grB,rwS,erG,okG,bG,zrS,erE,okE,tkB,sEnd,slW,eq8,myF,kA,gA,bZ,sCan,sRel,a0,a1,a2,a3,a4] at hf hi ⊢
 all_goals
  have hz:=ok_zero (iv0 4)
 all_goals
  (repeat' (with_reducible apply And.intro))<;>first
  | omega
  | assumption
  | (unfold inM;omega)
  | exact trivial
  | (clear hin hF ha;grind)
theorem lHolds_o1:lHolds_ob 1 lHolds_L1:=by
 intro kv iv0 bv0 hin hF iv bv ha hi
 unfold lHolds_L1
 refine List.forall_mem_cons.2 ⟨?_,List.forall_mem_cons.2 ⟨?_,List.forall_mem_cons.2 ⟨?_,List.forall_mem_cons.2 ⟨?_,List.forall_mem_cons.2 ⟨?_,List.forall_mem_cons.2 ⟨?_,List.forall_mem_cons.2 ⟨?_,List.forall_mem_cons.2 ⟨?_,List.forall_mem_cons.2 ⟨?_,List.forall_mem_cons.2 ⟨?_,List.forall_mem_cons.2 ⟨?_,List.forall_mem_cons.2 ⟨?_,List.forall_mem_cons.2 ⟨?_,List.forall_mem_cons.2 ⟨?_,List.forall_mem_cons.2 ⟨?_,List.forall_mem_cons.2 ⟨?_,List.forall_mem_cons.2 ⟨?_,List.forall_mem_cons.2 ⟨?_,List.forall_mem_cons.2 ⟨?_,List.forall_mem_cons.2 ⟨?_,List.forall_mem_cons.2 ⟨?_,List.forall_mem_cons.2 ⟨?_,List.forall_mem_cons.2 ⟨?_,List.forall_mem_cons.2 ⟨?_,List.forall_mem_cons.2 ⟨?_,List.forall_mem_cons.2 ⟨?_,List.forall_mem_cons.2 ⟨?_,List.forall_mem_cons.2 ⟨?_,List.forall_mem_cons.2 ⟨?_,List.forall_mem_cons.2 ⟨?_,List.forall_mem_cons.2 ⟨?_,List.forall_mem_cons.2 ⟨?_,List.forall_mem_cons.2 ⟨?_,List.forall_mem_cons.2 ⟨?_,List.forall_mem_cons.2 ⟨?_,List.forall_mem_cons.2 ⟨?_,List.forall_mem_cons.2 ⟨?_,List.forall_mem_cons.2 ⟨?_,List.forall_mem_cons.2 ⟨?_,List.forall_mem_nil _⟩⟩⟩⟩⟩⟩⟩⟩⟩⟩⟩⟩⟩⟩⟩⟩⟩⟩⟩⟩⟩⟩⟩⟩⟩⟩⟩⟩⟩⟩⟩⟩⟩⟩⟩⟩⟩⟩⟩
 all_goals
  intro δ hf
 all_goals
  obtain ⟨b4,b1,b2⟩:=lHolds_b hin
 all_goals
  have a0:=ha.1 0 (by omega)
  have a1:=ha.1 1 (by omega)
  have a2:=ha.1 2 (by omega)
  have a3:=ha.1 3 (by omega)
  have a4:=ha.1 4 (by omega)
 all_goals
  simp only [FT,TP,SB.tp,SI.tv,sta,IB.eval,and_true,true_and,ObsT,Ob.Tv,rowT,kix,In.tiv,↓tbvT,In.tbv,get_cons,get_nil,reduceIte,Nat.reduceEqDiff,Int.reduceToNat,Int.reduceAdd,Int.reduceSub,Int.reduceLE,Int.reduceLT,Int.reduceEq,ne_eq,Bool.false_eq_true,not_true_eq_false,not_false_eq_true,true_iff,false_iff,iff_true,iff_false,false_implies,implies_true,decT,decide_true,decide_false,Bool.decide_eq_true,ap2,pb2,FI_3,FI_3u,FI_8,FI_9,FI_3g,FI_3k,FI_8s,FI_8l,FI_8d,FB_1h,FB_1a,Int.toNat_natCast,Int.toNat_zero,FI_20,FI_21,FI_22,FI_23,FI_24,FB_20,FB_21,FB_22,FB_23,FB_24,lHolds_inv,lHolds_mu,lHolds,o1,othT,kS,slV,mayV,i64s,i64b,lmap,lS,gS,bS,fS,bdS,shV,o1,frS,stS,chS,mAS,usS,acS,erS,chE,gS2,lS2,bS2,fS2,sAcq,laS,lwS,lcS,kI1,nwB,oLat,rgB,clS,grB,rwS,erG,okG,bG,zrS,erE,okE,tkB,sEnd,slW,eq8,myF,kA,gA,bZ,sCan,sRel,a0,a1,a2,a3,a4] at hf hi ⊢
 all_goals
  obtain ⟨g0,g1,g2,hok⟩:=hi
 all_goals
  try simp only [rowD_def] at hf ⊢
 all_goals
  have ck:∀ d,okS d (iv0 4)→chkI d (iv0 4) 1 1 (iv0 4)=0:=fun d h=>(ok_chk (by omega) (by omega)).2 h
 all_goals
  have c0:=ck _ hok
 all_goals
  have he:∀ j:Nat,(j:Int) < iv0 4→stp (iv 26) (iv 26) j:=fun j hj=>stp_eq hok hj
 all_goals
  have hL:=lat_ok (now:=(fl (iv0 0) (iv 28).toNat 4)) hok
 all_goals
  have hS:=lat_stp (now:=(fl (iv0 0) (iv 28).toNat 4)) hok
 all_goals
  have cL:=ck _ hL
 all_goals
  (repeat' (with_reducible apply And.intro))<;>first
  | omega
  | assumption
  | (unfold inM;omega)
  | exact trivial
  | (with_reducible exact he)
  | (with_reducible exact hS)
  | (with_reducible exact hL)
  | (with_reducible exact hok)
  | (with_reducible exact (acq_all (by omega) hok (by omega) (by with_reducible first | exact hf | exact hf.1 | exact hf.2.1 | exact hf.2.2.1 | exact hf.2.2.2.1 | exact hf.2.2.2.2.1 | exact hf.2.2.2.2.2.1 | exact hf.2.2.2.2.2.2.1 | exact hf.2.2.2.2.2.2.2.1 | exact hf.2.2.2.2.2.2.2.2.1 | exact hf.2.2.2.2.2.2.2.2.2.1 | exact hf.2.2.2.2.2.2.2.2.2.2.1 | exact hf.2.2.2.2.2.2.2.2.2.2.2.1 | exact hf.2.2.2.2.2.2.2.2.2.2.2.2.1 | exact hf.2.2.2.2.2.2.2.2.2.2.2.2.2.1 | exact hf.2.2.2.2.2.2.2.2.2.2.2.2.2.2.1 | exact hf.2.2.2.2.2.2.2.2.2.2.2.2.2.2.2.1 | exact hf.2.2.2.2.2.2.2.2.2.2.2.2.2.2.2.2.1 | exact hf.2.2.2.2.2.2.2.2.2.2.2.2.2.2.2.2.2.1 | exact hf.2.2.2.2.2.2.2.2.2.2.2.2.2.2.2.2.2.2.1 | exact hf.2.2.2.2.2.2.2.2.2.2.2.2.2.2.2.2.2.2.2.1 | exact hf.2.2.2.2.2.2.2.2.2.2.2.2.2.2.2.2.2.2.2.2.1 | exact hf.2.2.2.2.2.2.2.2.2.2.2.2.2.2.2.2.2.2.2.2.2.1 | exact hf.2.2.2.2.2.2.2.2.2.2.2.2.2.2.2.2.2.2.2.2.2.2.1 | exact hf.2.2.2.2.2.2.2.2.2.2.2.2.2.2.2.2.2.2.2.2.2.2.2.1 | exact hf.2.2.2.2.2.2.2.2.2.2.2.2.2.2.2.2.2.2.2.2.2.2.2.2.1 | exact hf.2.2.2.2.2.2.2.2.2.2.2.2.2.2.2.2.2.2.2.2.2.2.2.2.2.1 | exact hf.2.2.2.2.2.2.2.2.2.2.2.2.2.2.2.2.2.2.2.2.2.2.2.2.2.2.1 | exact hf.2.2.2.2.2.2.2.2.2.2.2.2.2.2.2.2.2.2.2.2.2.2.2.2.2.2.2.1 | exact hf.2.2.2.2.2.2.2.2.2.2.2.2.2.2.2.2.2.2.2.2.2.2.2.2.2.2.2.2.1 | exact hf.2.2.2.2.2.2.2.2.2.2.2.2.2.2.2.2.2.2.2.2.2.2.2.2.2.2.2.2.2.1 | exact hf.2.2.2.2.2.2.2.2.2.2.2.2.2.2.2.2.2.2.2.2.2.2.2.2.2.2.2.2.2.2.1 | exact hf.2.2.2.2.2.2.2.2.2.2.2.2.2.2.2.2.2.2.2.2.2.2.2.2.2.2.2.2.2.2.2.1 | exact hf.2.2.2.2.2.2.2.2.2.2.2.2.2.2.2.2.2.2.2.2.2.2.2.2.2.2.2.2.2.2.2.2.1 | exact hf.2.2.2.2.2.2.2.2.2.2.2.2.2.2.2.2.2.2.2.2.2.2.2.2.2.2.2.2.2.2.2.2.2.1 | exact hf.2.2.2.2.2.2.2.2.2.2.2.2.2.2.2.2.2.2.2.2.2.2.2.2.2.2.2.2.2.2.2.2.2.2.1 | exact hf.2.2.2.2.2.2.2.2.2.2.2.2.2.2.2.2.2.2.2.2.2.2.2.2.2.2.2.2.2.2.2.2.2.2.2.1 | exact hf.2.2.2.2.2.2.2.2.2.2.2.2.2.2.2.2.2.2.2.2.2.2.2.2.2.2.2.2.2.2.2.2.2.2.2.2.1 | exact hf.2.2.2.2.2.2.2.2.2.2.2.2.2.2.2.2.2.2.2.2.2.2.2.2.2.2.2.2.2.2.2.2.2.2.2.2.2.1 | exact hf.2.2.2.2.2.2.2.2.2.2.2.2.2.2.2.2.2.2.2.2.2.2.2.2.2.2.2.2.2.2.2.2.2.2.2.2.2.2.1 | exact hf.2.2.2.2.2.2.2.2.2.2.2.2.2.2.2.2.2.2.2.2.2.2.2.2.2.2.2.2.2.2.2.2.2.2.2.2.2.2.2.1 | exact hf.1.1 | exact hf.1.2 | exact hf.2.1.1 | exact hf.2.1.2 | exact hf.2.2.1.1 | exact hf.2.2.1.2 | exact hf.2.2.2.1.1 | exact hf.2.2.2.1.2 | exact hf.2.2.2.2.1.1 | exact hf.2.2.2.2.1.2 | exact hf.2.2.2.2.2.1.1 | exact hf.2.2.2.2.2.1.2 | exact hf.2.2.2.2.2.2.1.1 | exact hf.2.2.2.2.2.2.1.2 | exact hf.2.2.2.2.2.2.2.1.1 | exact hf.2.2.2.2.2.2.2.1.2 | exact hf.2.2.2.2.2.2.2.2.1.1 | exact hf.2.2.2.2.2.2.2.2.1.2 | exact hf.2.2.2.2.2.2.2.2.2.1.1 | exact hf.2.2.2.2.2.2.2.2.2.1.2 | exact hf.2.2.2.2.2.2.2.2.2.2.1.1 | exact hf.2.2.2.2.2.2.2.2.2.2.1.2 | exact hf.2.2.2.2.2.2.2.2.2.2.2.1.1 | exact hf.2.2.2.2.2.2.2.2.2.2.2.1.2 | exact hf.2.2.2.2.2.2.2.2.2.2.2.2.1.1 | exact hf.2.2.2.2.2.2.2.2.2.2.2.2.1.2 | exact hf.2.2.2.2.2.2.2.2.2.2.2.2.2.1.1 | exact hf.2.2.2.2.2.2.2.2.2.2.2.2.2.1.2 | exact hf.2.2.2.2.2.2.2.2.2.2.2.2.2.2.1.1 | exact hf.2.2.2.2.2.2.2.2.2.2.2.2.2.2.1.2 | exact hf.2.2.2.2.2.2.2.2.2.2.2.2.2.2.2.1.1 | exact hf.2.2.2.2.2.2.2.2.2.2.2.2.2.2.2.1.2 | exact hf.2.2.2.2.2.2.2.2.2.2.2.2.2.2.2.2.1.1 | exact hf.2.2.2.2.2.2.2.2.2.2.2.2.2.2.2.2.1.2 | exact hf.2.2.2.2.2.2.2.2.2.2.2.2.2.2.2.2.2.1.1 | exact hf.2.2.2.2.2.2.2.2.2.2.2.2.2.2.2.2.2.1.2 | exact hf.2.2.2.2.2.2.2.2.2.2.2.2.2.2.2.2.2.2.1.1 | exact hf.2.2.2.2.2.2.2.2.2.2.2.2.2.2.2.2.2.2.1.2 | exact hf.2.2.2.2.2.2.2.2.2.2.2.2.2.2.2.2.2.2.2.1.1 | exact hf.2.2.2.2.2.2.2.2.2.2.2.2.2.2.2.2.2.2.2.1.2 | exact hf.2.2.2.2.2.2.2.2.2.2.2.2.2.2.2.2.2.2.2.2.1.1 | exact hf.2.2.2.2.2.2.2.2.2.2.2.2.2.2.2.2.2.2.2.2.1.2 | exact hf.2.2.2.2.2.2.2.2.2.2.2.2.2.2.2.2.2.2.2.2.2.1.1 | exact hf.2.2.2.2.2.2.2.2.2.2.2.2.2.2.2.2.2.2.2.2.2.1.2 | exact hf.2.2.2.2.2.2.2.2.2.2.2.2.2.2.2.2.2.2.2.2.2.2.1.1 | exact hf.2.2.2.2.2.2.2.2.2.2.2.2.2.2.2.2.2.2.2.2.2.2.1.2 | exact hf.2.2.2.2.2.2.2.2.2.2.2.2.2.2.2.2.2.2.2.2.2.2.2.1.1 | exact hf.2.2.2.2.2.2.2.2.2.2.2.2.2.2.2.2.2.2.2.2.2.2.2.1.2 | exact hf.2.2.2.2.2.2.2.2.2.2.2.2.2.2.2.2.2.2.2.2.2.2.2.2.1.1 | exact hf.2.2.2.2.2.2.2.2.2.2.2.2.2.2.2.2.2.2.2.2.2.2.2.2.1.2 | exact hf.2.2.2.2.2.2.2.2.2.2.2.2.2.2.2.2.2.2.2.2.2.2.2.2.2.1.1 | exact hf.2.2.2.2.2.2.2.2.2.2.2.2.2.2.2.2.2.2.2.2.2.2.2.2.2.1.2 | exact hf.2.2.2.2.2.2.2.2.2.2.2.2.2.2.2.2.2.2.2.2.2.2.2.2.2.2.1.1 | exact hf.2.2.2.2.2.2.2.2.2.2.2.2.2.2.2.2.2.2.2.2.2.2.2.2.2.2.1.2 | exact hf.2.2.2.2.2.2.2.2.2.2.2.2.2.2.2.2.2.2.2.2.2.2.2.2.2.2.2.1.1 | exact hf.2.2.2.2.2.2.2.2.2.2.2.2.2.2.2.2.2.2.2.2.2.2.2.2.2.2.2.1.2 | exact hf.2.2.2.2.2.2.2.2.2.2.2.2.2.2.2.2.2.2.2.2.2.2.2.2.2.2.2.2.1.1 | exact hf.2.2.2.2.2.2.2.2.2.2.2.2.2.2.2.2.2.2.2.2.2.2.2.2.2.2.2.2.1.2 | exact hf.2.2.2.2.2.2.2.2.2.2.2.2.2.2.2.2.2.2.2.2.2.2.2.2.2.2.2.2.2.1.1 | exact hf.2.2.2.2.2.2.2.2.2.2.2.2.2.2.2.2.2.2.2.2.2.2.2.2.2.2.2.2.2.1.2 | exact hf.2.2.2.2.2.2.2.2.2.2.2.2.2.2.2.2.2.2.2.2.2.2.2.2.2.2.2.2.2.2.1.1 | exact hf.2.2.2.2.2.2.2.2.2.2.2.2.2.2.2.2.2.2.2.2.2.2.2.2.2.2.2.2.2.2.1.2 | exact hf.2.2.2.2.2.2.2.2.2.2.2.2.2.2.2.2.2.2.2.2.2.2.2.2.2.2.2.2.2.2.2.1.1 | exact hf.2.2.2.2.2.2.2.2.2.2.2.2.2.2.2.2.2.2.2.2.2.2.2.2.2.2.2.2.2.2.2.1.2 | exact hf.2.2.2.2.2.2.2.2.2.2.2.2.2.2.2.2.2.2.2.2.2.2.2.2.2.2.2.2.2.2.2.2.1.1 | exact hf.2.2.2.2.2.2.2.2.2.2.2.2.2.2.2.2.2.2.2.2.2.2.2.2.2.2.2.2.2.2.2.2.1.2 | exact hf.2.2.2.2.2.2.2.2.2.2.2.2.2.2.2.2.2.2.2.2.2.2.2.2.2.2.2.2.2.2.2.2.2.1.1 | exact hf.2.2.2.2.2.2.2.2.2.2.2.2.2.2.2.2.2.2.2.2.2.2.2.2.2.2.2.2.2.2.2.2.2.1.2 | exact hf.2.2.2.2.2.2.2.2.2.2.2.2.2.2.2.2.2.2.2.2.2.2.2.2.2.2.2.2.2.2.2.2.2.2.1.1 | exact hf.2.2.2.2.2.2.2.2.2.2.2.2.2.2.2.2.2.2.2.2.2.2.2.2.2.2.2.2.2.2.2.2.2.2.1.2 | exact hf.2.2.2.2.2.2.2.2.2.2.2.2.2.2.2.2.2.2.2.2.2.2.2.2.2.2.2.2.2.2.2.2.2.2.2.1.1 | exact hf.2.2.2.2.2.2.2.2.2.2.2.2.2.2.2.2.2.2.2.2.2.2.2.2.2.2.2.2.2.2.2.2.2.2.2.1.2 | exact hf.2.2.2.2.2.2.2.2.2.2.2.2.2.2.2.2.2.2.2.2.2.2.2.2.2.2.2.2.2.2.2.2.2.2.2.2.1.1 | exact hf.2.2.2.2.2.2.2.2.2.2.2.2.2.2.2.2.2.2.2.2.2.2.2.2.2.2.2.2.2.2.2.2.2.2.2.2.1.2 | exact hf.2.2.2.2.2.2.2.2.2.2.2.2.2.2.2.2.2.2.2.2.2.2.2.2.2.2.2.2.2.2.2.2.2.2.2.2.2.1.1 | exact hf.2.2.2.2.2.2.2.2.2.2.2.2.2.2.2.2.2.2.2.2.2.2.2.2.2.2.2.2.2.2.2.2.2.2.2.2.2.1.2 | exact hf.2.2.2.2.2.2.2.2.2.2.2.2.2.2.2.2.2.2.2.2.2.2.2.2.2.2.2.2.2.2.2.2.2.2.2.2.2.2.1.1 | exact hf.2.2.2.2.2.2.2.2.2.2.2.2.2.2.2.2.2.2.2.2.2.2.2.2.2.2.2.2.2.2.2.2.2.2.2.2.2.2.1.2 | exact hf.2.2.2.2.2.2.2.2.2.2.2.2.2.2.2.2.2.2.2.2.2.2.2.2.2.2.2.2.2.2.2.2.2.2.2.2.2.2.2.1.1 | exact hf.2.2.2.2.2.2.2.2.2.2.2.2.2.2.2.2.2.2.2.2.2.2.2.2.2.2.2.2.2.2.2.2.2.2.2.2.2.2.2.1.2)).1)
  | (with_reducible exact (acq_all (by omega) hok (by omega) (by with_reducible first | exact hf | exact hf.1 | exact hf.2.1 | exact hf.2.2.1 | exact hf.2.2.2.1 | exact hf.2.2.2.2.1 | exact hf.2.2.2.2.2.1 | exact hf.2.2.2.2.2.2.1 | exact hf.2.2.2.2.2.2.2.1 | exact hf.2.2.2.2.2.2.2.2.1 | exact hf.2.2.2.2.2.2.2.2.2.1 | exact hf.2.2.2.2.2.2.2.2.2.2.1 | exact hf.2.2.2.2.2.2.2.2.2.2.2.1 | exact hf.2.2.2.2.2.2.2.2.2.2.2.2.1 | exact hf.2.2.2.2.2.2.2.2.2.2.2.2.2.1 | exact hf.2.2.2.2.2.2.2.2.2.2.2.2.2.2.1 | exact hf.2.2.2.2.2.2.2.2.2.2.2.2.2.2.2.1 | exact hf.2.2.2.2.2.2.2.2.2.2.2.2.2.2.2.2.1 | exact hf.2.2.2.2.2.2.2.2.2.2.2.2.2.2.2.2.2.1 | exact hf.2.2.2.2.2.2.2.2.2.2.2.2.2.2.2.2.2.2.1 | exact hf.2.2.2.2.2.2.2.2.2.2.2.2.2.2.2.2.2.2.2.1 | exact hf.2.2.2.2.2.2.2.2.2.2.2.2.2.2.2.2.2.2.2.2.1 | exact hf.2.2.2.2.2.2.2.2.2.2.2.2.2.2.2.2.2.2.2.2.2.1 | exact hf.2.2.2.2.2.2.2.2.2.2.2.2.2.2.2.2.2.2.2.2.2.2.1 | exact hf.2.2.2.2.2.2.2.2.2.2.2.2.2.2.2.2.2.2.2.2.2.2.2.1 | exact hf.2.2.2.2.2.2.2.2.2.2.2.2.2.2.2.2.2.2.2.2.2.2.2.2.1 | exact hf.2.2.2.2.2.2.2.2.2.2.2.2.2.2.2.2.2.2.2.2.2.2.2.2.2.1 | exact hf.2.2.2.2.2.2.2.2.2.2.2.2.2.2.2.2.2.2.2.2.2.2.2.2.2.2.1 | exact hf.2.2.2.2.2.2.2.2.2.2.2.2.2.2.2.2.2.2.2.2.2.2.2.2.2.2.2.1 | exact hf.2.2.2.2.2.2.2.2.2.2.2.2.2.2.2.2.2.2.2.2.2.2.2.2.2.2.2.2.1 | exact hf.2.2.2.2.2.2.2.2.2.2.2.2.2.2.2.2.2.2.2.2.2.2.2.2.2.2.2.2.2.1 | exact hf.2.2.2.2.2.2.2.2.2.2.2.2.2.2.2.2.2.2.2.2.2.2.2.2.2.2.2.2.2.2.1 | exact hf.2.2.2.2.2.2.2.2.2.2.2.2.2.2.2.2.2.2.2.2.2.2.2.2.2.2.2.2.2.2.2.1 | exact hf.2.2.2.2.2.2.2.2.2.2.2.2.2.2.2.2.2.2.2.2.2.2.2.2.2.2.2.2.2.2.2.2.1 | exact hf.2.2.2.2.2.2.2.2.2.2.2.2.2.2.2.2.2.2.2.2.2.2.2.2.2.2.2.2.2.2.2.2.2.1 | exact hf.2.2.2.2.2.2.2.2.2.2.2.2.2.2.2.2.2.2.2.2.2.2.2.2.2.2.2.2.2.2.2.2.2.2.1 | exact hf.2.2.2.2.2.2.2.2.2.2.2.2.2.2.2.2.2.2.2.2.2.2.2.2.2.2.2.2.2.2.2.2.2.2.2.1 | exact hf.2.2.2.2.2.2.2.2.2.2.2.2.2.2.2.2.2.2.2.2.2.2.2.2.2.2.2.2.2.2.2.2.2.2.2.2.1 | exact hf.2.2.2.2.2.2.2.2.2.2.2.2.2.2.2.2.2.2.2.2.2.2.2.2.2.2.2.2.2.2.2.2.2.2.2.2.2.1 | exact hf.2.2.2.2.2.2.2.2.2.2.2.2.2.2.2.2.2.2.2.2.2.2.2.2.2.2.2.2.2.2.2.2.2.2.2.2.2.2.1 | exact hf.2.2.2.2.2.2.2.2.2.2.2.2.2.2.2.2.2.2.2.2.2.2.2.2.2.2.2.2.2.2.2.2.2.2.2.2.2.2.2.1 | exact hf.1.1 | exact hf.1.2 | exact hf.2.1.1 | exact hf.2.1.2 | exact hf.2.2.1.1 | exact hf.2.2.1.2 | exact hf.2.2.2.1.1 | exact hf.2.2.2.1.2 | exact hf.2.2.2.2.1.1 | exact hf.2.2.2.2.1.2 | exact hf.2.2.2.2.2.1.1 | exact hf.2.2.2.2.2.1.2 | exact hf.2.2.2.2.2.2.1.1 | exact hf.2.2.2.2.2.2.1.2 | exact hf.2.2.2.2.2.2.2.1.1 | exact hf.2.2.2.2.2.2.2.1.2 | exact hf.2.2.2.2.2.2.2.2.1.1 | exact hf.2.2.2.2.2.2.2.2.1.2 | exact hf.2.2.2.2.2.2.2.2.2.1.1 | exact hf.2.2.2.2.2.2.2.2.2.1.2 | exact hf.2.2.2.2.2.2.2.2.2.2.1.1 | exact hf.2.2.2.2.2.2.2.2.2.2.1.2 | exact hf.2.2.2.2.2.2.2.2.2.2.2.1.1 | exact hf.2.2.2.2.2.2.2.2.2.2.2.1.2 | exact hf.2.2.2.2.2.2.2.2.2.2.2.2.1.1 | exact hf.2.2.2.2.2.2.2.2.2.2.2.2.1.2 | exact hf.2.2.2.2.2.2.2.2.2.2.2.2.2.1.1 | exact hf.2.2.2.2.2.2.2.2.2.2.2.2.2.1.2 | exact hf.2.2.2.2.2.2.2.2.2.2.2.2.2.2.1.1 | exact hf.2.2.2.2.2.2.2.2.2.2.2.2.2.2.1.2 | exact hf.2.2.2.2.2.2.2.2.2.2.2.2.2.2.2.1.1 | exact hf.2.2.2.2.2.2.2.2.2.2.2.2.2.2.2.1.2 | exact hf.2.2.2.2.2.2.2.2.2.2.2.2.2.2.2.2.1.1 | exact hf.2.2.2.2.2.2.2.2.2.2.2.2.2.2.2.2.1.2 | exact hf.2.2.2.2.2.2.2.2.2.2.2.2.2.2.2.2.2.1.1 | exact hf.2.2.2.2.2.2.2.2.2.2.2.2.2.2.2.2.2.1.2 | exact hf.2.2.2.2.2.2.2.2.2.2.2.2.2.2.2.2.2.2.1.1 | exact hf.2.2.2.2.2.2.2.2.2.2.2.2.2.2.2.2.2.2.1.2 | exact hf.2.2.2.2.2.2.2.2.2.2.2.2.2.2.2.2.2.2.2.1.1 | exact hf.2.2.2.2.2.2.2.2.2.2.2.2.2.2.2.2.2.2.2.1.2 | exact hf.2.2.2.2.2.2.2.2.2.2.2.2.2.2.2.2.2.2.2.2.1.1 | exact hf.2.2.2.2.2.2.2.2.2.2.2.2.2.2.2.2.2.2.2.2.1.2 | exact hf.2.2.2.2.2.2.2.2.2.2.2.2.2.2.2.2.2.2.2.2.2.1.1 | exact hf.2.2.2.2.2.2.2.2.2.2.2.2.2.2.2.2.2.2.2.2.2.1.2 | exact hf.2.2.2.2.2.2.2.2.2.2.2.2.2.2.2.2.2.2.2.2.2.2.1.1 | exact hf.2.2.2.2.2.2.2.2.2.2.2.2.2.2.2.2.2.2.2.2.2.2.1.2 | exact hf.2.2.2.2.2.2.2.2.2.2.2.2.2.2.2.2.2.2.2.2.2.2.2.1.1 | exact hf.2.2.2.2.2.2.2.2.2.2.2.2.2.2.2.2.2.2.2.2.2.2.2.1.2 | exact hf.2.2.2.2.2.2.2.2.2.2.2.2.2.2.2.2.2.2.2.2.2.2.2.2.1.1 | exact hf.2.2.2.2.2.2.2.2.2.2.2.2.2.2.2.2.2.2.2.2.2.2.2.2.1.2 | exact hf.2.2.2.2.2.2.2.2.2.2.2.2.2.2.2.2.2.2.2.2.2.2.2.2.2.1.1 | exact hf.2.2.2.2.2.2.2.2.2.2.2.2.2.2.2.2.2.2.2.2.2.2.2.2.2.1.2 | exact hf.2.2.2.2.2.2.2.2.2.2.2.2.2.2.2.2.2.2.2.2.2.2.2.2.2.2.1.1 | exact hf.2.2.2.2.2.2.2.2.2.2.2.2.2.2.2.2.2.2.2.2.2.2.2.2.2.2.1.2 | exact hf.2.2.2.2.2.2.2.2.2.2.2.2.2.2.2.2.2.2.2.2.2.2.2.2.2.2.2.1.1 | exact hf.2.2.2.2.2.2.2.2.2.2.2.2.2.2.2.2.2.2.2.2.2.2.2.2.2.2.2.1.2 | exact hf.2.2.2.2.2.2.2.2.2.2.2.2.2.2.2.2.2.2.2.2.2.2.2.2.2.2.2.2.1.1 | exact hf.2.2.2.2.2.2.2.2.2.2.2.2.2.2.2.2.2.2.2.2.2.2.2.2.2.2.2.2.1.2 | exact hf.2.2.2.2.2.2.2.2.2.2.2.2.2.2.2.2.2.2.2.2.2.2.2.2.2.2.2.2.2.1.1 | exact hf.2.2.2.2.2.2.2.2.2.2.2.2.2.2.2.2.2.2.2.2.2.2.2.2.2.2.2.2.2.1.2 | exact hf.2.2.2.2.2.2.2.2.2.2.2.2.2.2.2.2.2.2.2.2.2.2.2.2.2.2.2.2.2.2.1.1 | exact hf.2.2.2.2.2.2.2.2.2.2.2.2.2.2.2.2.2.2.2.2.2.2.2.2.2.2.2.2.2.2.1.2 | exact hf.2.2.2.2.2.2.2.2.2.2.2.2.2.2.2.2.2.2.2.2.2.2.2.2.2.2.2.2.2.2.2.1.1 | exact hf.2.2.2.2.2.2.2.2.2.2.2.2.2.2.2.2.2.2.2.2.2.2.2.2.2.2.2.2.2.2.2.1.2 | exact hf.2.2.2.2.2.2.2.2.2.2.2.2.2.2.2.2.2.2.2.2.2.2.2.2.2.2.2.2.2.2.2.2.1.1 | exact hf.2.2.2.2.2.2.2.2.2.2.2.2.2.2.2.2.2.2.2.2.2.2.2.2.2.2.2.2.2.2.2.2.1.2 | exact hf.2.2.2.2.2.2.2.2.2.2.2.2.2.2.2.2.2.2.2.2.2.2.2.2.2.2.2.2.2.2.2.2.2.1.1 | exact hf.2.2.2.2.2.2.2.2.2.2.2.2.2.2.2.2.2.2.2.2.2.2.2.2.2.2.2.2.2.2.2.2.2.1.2 | exact hf.2.2.2.2.2.2.2.2.2.2.2.2.2.2.2.2.2.2.2.2.2.2.2.2.2.2.2.2.2.2.2.2.2.2.1.1 | exact hf.2.2.2.2.2.2.2.2.2.2.2.2.2.2.2.2.2.2.2.2.2.2.2.2.2.2.2.2.2.2.2.2.2.2.1.2 | exact hf.2.2.2.2.2.2.2.2.2.2.2.2.2.2.2.2.2.2.2.2.2.2.2.2.2.2.2.2.2.2.2.2.2.2.2.1.1 | exact hf.2.2.2.2.2.2.2.2.2.2.2.2.2.2.2.2.2.2.2.2.2.2.2.2.2.2.2.2.2.2.2.2.2.2.2.1.2 | exact hf.2.2.2.2.2.2.2.2.2.2.2.2.2.2.2.2.2.2.2.2.2.2.2.2.2.2.2.2.2.2.2.2.2.2.2.2.1.1 | exact hf.2.2.2.2.2.2.2.2.2.2.2.2.2.2.2.2.2.2.2.2.2.2.2.2.2.2.2.2.2.2.2.2.2.2.2.2.1.2 | exact hf.2.2.2.2.2.2.2.2.2.2.2.2.2.2.2.2.2.2.2.2.2.2.2.2.2.2.2.2.2.2.2.2.2.2.2.2.2.1.1 | exact hf.2.2.2.2.2.2.2.2.2.2.2.2.2.2.2.2.2.2.2.2.2.2.2.2.2.2.2.2.2.2.2.2.2.2.2.2.2.1.2 | exact hf.2.2.2.2.2.2.2.2.2.2.2.2.2.2.2.2.2.2.2.2.2.2.2.2.2.2.2.2.2.2.2.2.2.2.2.2.2.2.1.1 | exact hf.2.2.2.2.2.2.2.2.2.2.2.2.2.2.2.2.2.2.2.2.2.2.2.2.2.2.2.2.2.2.2.2.2.2.2.2.2.2.1.2 | exact hf.2.2.2.2.2.2.2.2.2.2.2.2.2.2.2.2.2.2.2.2.2.2.2.2.2.2.2.2.2.2.2.2.2.2.2.2.2.2.2.1.1 | exact hf.2.2.2.2.2.2.2.2.2.2.2.2.2.2.2.2.2.2.2.2.2.2.2.2.2.2.2.2.2.2.2.2.2.2.2.2.2.2.2.1.2)).2)
  | (with_reducible exact (grt_all hok (by omega) (by omega) (by omega)).1)
  | (with_reducible exact (grt_all hok (by omega) (by omega) (by omega)).2)
  | (with_reducible exact (end_all hok (by omega) (by omega) (by omega) (.inl ⟨rfl,by omega⟩)).1)
  | (with_reducible exact (end_all hok (by omega) (by omega) (by omega) (.inl ⟨rfl,by omega⟩)).2)
  | (with_reducible exact (end_all hok (by omega) (by omega) (by omega) (.inr ⟨rfl,by omega⟩)).1)
  | (with_reducible exact (end_all hok (by omega) (by omega) (by omega) (.inr ⟨rfl,by omega⟩)).2)
  | (intro h;omega)
  | (with_reducible exact absurd (ck _ (@acq_all (iv 26) (iv0 4) (fl (iv0 0) (iv 28).toNat 5) (fl (iv0 0) (iv 28).toNat 2) (fl (iv0 0) (iv 28).toNat 4) (by omega) hok (by omega) (by with_reducible first | exact hf | exact hf.1 | exact hf.2.1 | exact hf.2.2.1 | exact hf.2.2.2.1 | exact hf.2.2.2.2.1 | exact hf.2.2.2.2.2.1 | exact hf.2.2.2.2.2.2.1 | exact hf.2.2.2.2.2.2.2.1 | exact hf.2.2.2.2.2.2.2.2.1 | exact hf.2.2.2.2.2.2.2.2.2.1 | exact hf.2.2.2.2.2.2.2.2.2.2.1 | exact hf.2.2.2.2.2.2.2.2.2.2.2.1 | exact hf.2.2.2.2.2.2.2.2.2.2.2.2.1 | exact hf.2.2.2.2.2.2.2.2.2.2.2.2.2.1 | exact hf.2.2.2.2.2.2.2.2.2.2.2.2.2.2.1 | exact hf.2.2.2.2.2.2.2.2.2.2.2.2.2.2.2.1 | exact hf.2.2.2.2.2.2.2.2.2.2.2.2.2.2.2.2.1 | exact hf.2.2.2.2.2.2.2.2.2.2.2.2.2.2.2.2.2.1 | exact hf.2.2.2.2.2.2.2.2.2.2.2.2.2.2.2.2.2.2.1 | exact hf.2.2.2.2.2.2.2.2.2.2.2.2.2.2.2.2.2.2.2.1 | exact hf.2.2.2.2.2.2.2.2.2.2.2.2.2.2.2.2.2.2.2.2.1 | exact hf.2.2.2.2.2.2.2.2.2.2.2.2.2.2.2.2.2.2.2.2.2.1 | exact hf.2.2.2.2.2.2.2.2.2.2.2.2.2.2.2.2.2.2.2.2.2.2.1 | exact hf.2.2.2.2.2.2.2.2.2.2.2.2.2.2.2.2.2.2.2.2.2.2.2.1 | exact hf.2.2.2.2.2.2.2.2.2.2.2.2.2.2.2.2.2.2.2.2.2.2.2.2.1 | exact hf.2.2.2.2.2.2.2.2.2.2.2.2.2.2.2.2.2.2.2.2.2.2.2.2.2.1 | exact hf.2.2.2.2.2.2.2.2.2.2.2.2.2.2.2.2.2.2.2.2.2.2.2.2.2.2.1 | exact hf.2.2.2.2.2.2.2.2.2.2.2.2.2.2.2.2.2.2.2.2.2.2.2.2.2.2.2.1 | exact hf.2.2.2.2.2.2.2.2.2.2.2.2.2.2.2.2.2.2.2.2.2.2.2.2.2.2.2.2.1 | exact hf.2.2.2.2.2.2.2.2.2.2.2.2.2.2.2.2.2.2.2.2.2.2.2.2.2.2.2.2.2.1 | exact hf.2.2.2.2.2.2.2.2.2.2.2.2.2.2.2.2.2.2.2.2.2.2.2.2.2.2.2.2.2.2.1 | exact hf.2.2.2.2.2.2.2.2.2.2.2.2.2.2.2.2.2.2.2.2.2.2.2.2.2.2.2.2.2.2.2.1 | exact hf.2.2.2.2.2.2.2.2.2.2.2.2.2.2.2.2.2.2.2.2.2.2.2.2.2.2.2.2.2.2.2.2.1 | exact hf.2.2.2.2.2.2.2.2.2.2.2.2.2.2.2.2.2.2.2.2.2.2.2.2.2.2.2.2.2.2.2.2.2.1 | exact hf.2.2.2.2.2.2.2.2.2.2.2.2.2.2.2.2.2.2.2.2.2.2.2.2.2.2.2.2.2.2.2.2.2.2.1 | exact hf.2.2.2.2.2.2.2.2.2.2.2.2.2.2.2.2.2.2.2.2.2.2.2.2.2.2.2.2.2.2.2.2.2.2.2.1 | exact hf.2.2.2.2.2.2.2.2.2.2.2.2.2.2.2.2.2.2.2.2.2.2.2.2.2.2.2.2.2.2.2.2.2.2.2.2.1 | exact hf.2.2.2.2.2.2.2.2.2.2.2.2.2.2.2.2.2.2.2.2.2.2.2.2.2.2.2.2.2.2.2.2.2.2.2.2.2.1 | exact hf.2.2.2.2.2.2.2.2.2.2.2.2.2.2.2.2.2.2.2.2.2.2.2.2.2.2.2.2.2.2.2.2.2.2.2.2.2.2.1 | exact hf.2.2.2.2.2.2.2.2.2.2.2.2.2.2.2.2.2.2.2.2.2.2.2.2.2.2.2.2.2.2.2.2.2.2.2.2.2.2.2.1 | exact hf.1.1 | exact hf.1.2 | exact hf.2.1.1 | exact hf.2.1.2 | exact hf.2.2.1.1 | exact hf.2.2.1.2 | exact hf.2.2.2.1.1 | exact hf.2.2.2.1.2 | exact hf.2.2.2.2.1.1 | exact hf.2.2.2.2.1.2 | exact hf.2.2.2.2.2.1.1 | exact hf.2.2.2.2.2.1.2 | exact hf.2.2.2.2.2.2.1.1 | exact hf.2.2.2.2.2.2.1.2 | exact hf.2.2.2.2.2.2.2.1.1 | exact hf.2.2.2.2.2.2.2.1.2 | exact hf.2.2.2.2.2.2.2.2.1.1 | exact hf.2.2.2.2.2.2.2.2.1.2 | exact hf.2.2.2.2.2.2.2.2.2.1.1 | exact hf.2.2.2.2.2.2.2.2.2.1.2 | exact hf.2.2.2.2.2.2.2.2.2.2.1.1 | exact hf.2.2.2.2.2.2.2.2.2.2.1.2 | exact hf.2.2.2.2.2.2.2.2.2.2.2.1.1 | exact hf.2.2.2.2.2.2.2.2.2.2.2.1.2 | exact hf.2.2.2.2.2.2.2.2.2.2.2.2.1.1 | exact hf.2.2.2.2.2.2.2.2.2.2.2.2.1.2 | exact hf.2.2.2.2.2.2.2.2.2.2.2.2.2.1.1 | exact hf.2.2.2.2.2.2.2.2.2.2.2.2.2.1.2 | exact hf.2.2.2.2.2.2.2.2.2.2.2.2.2.2.1.1 | exact hf.2.2.2.2.2.2.2.2.2.2.2.2.2.2.1.2 | exact hf.2.2.2.2.2.2.2.2.2.2.2.2.2.2.2.1.1 | exact hf.2.2.2.2.2.2.2.2.2.2.2.2.2.2.2.1.2 | exact hf.2.2.2.2.2.2.2.2.2.2.2.2.2.2.2.2.1.1 | exact hf.2.2.2.2.2.2.2.2.2.2.2.2.2.2.2.2.1.2 | exact hf.2.2.2.2.2.2.2.2.2.2.2.2.2.2.2.2.2.1.1 | exact hf.2.2.2.2.2.2.2.2.2.2.2.2.2.2.2.2.2.1.2 | exact hf.2.2.2.2.2.2.2.2.2.2.2.2.2.2.2.2.2.2.1.1 | exact hf.2.2.2.2.2.2.2.2.2.2.2.2.2.2.2.2.2.2.1.2 | exact hf.2.2.2.2.2.2.2.2.2.2.2.2.2.2.2.2.2.2.2.1.1 | exact hf.2.2.2.2.2.2.2.2.2.2.2.2.2.2.2.2.2.2.2.1.2 | exact hf.2.2.2.2.2.2.2.2.2.2.2.2.2.2.2.2.2.2.2.2.1.1 | exact hf.2.2.2.2.2.2.2.2.2.2.2.2.2.2.2.2.2.2.2.2.1.2 | exact hf.2.2.2.2.2.2.2.2.2.2.2.2.2.2.2.2.2.2.2.2.2.1.1 | exact hf.2.2.2.2.2.2.2.2.2.2.2.2.2.2.2.2.2.2.2.2.2.1.2 | exact hf.2.2.2.2.2.2.2.2.2.2.2.2.2.2.2.2.2.2.2.2.2.2.1.1 | exact hf.2.2.2.2.2.2.2.2.2.2.2.2.2.2.2.2.2.2.2.2.2.2.1.2 | exact hf.2.2.2.2.2.2.2.2.2.2.2.2.2.2.2.2.2.2.2.2.2.2.2.1.1 | exact hf.2.2.2.2.2.2.2.2.2.2.2.2.2.2.2.2.2.2.2.2.2.2.2.1.2 | exact hf.2.2.2.2.2.2.2.2.2.2.2.2.2.2.2.2.2.2.2.2.2.2.2.2.1.1 | exact hf.2.2.2.2.2.2.2.2.2.2.2.2.2.2.2.2.2.2.2.2.2.2.2.2.1.2 | exact hf.2.2.2.2.2.2.2.2.2.2.2.2.2.2.2.2.2.2.2.2.2.2.2.2.2.1.1 | exact hf.2.2.2.2.2.2.2.2.2.2.2.2.2.2.2.2.2.2.2.2.2.2.2.2.2.1.2 | exact hf.2.2.2.2.2.2.2.2.2.2.2.2.2.2.2.2.2.2.2.2.2.2.2.2.2.2.1.1 | exact hf.2.2.2.2.2.2.2.2.2.2.2.2.2.2.2.2.2.2.2.2.2.2.2.2.2.2.1.2 | exact hf.2.2.2.2.2.2.2.2.2.2.2.2.2.2.2.2.2.2.2.2.2.2.2.2.2.2.2.1.1 | exact hf.2.2.2.2.2.2.2.2.2.2.2.2.2.2.2.2.2.2.2.2.2.2.2.2.2.2.2.1.2 | exact hf.2.2.2.2.2.2.2.2.2.2.2.2.2.2.2.2.2.2.2.2.2.2.2.2.2.2.2.2.1.1 | exact hf.2.2.2.2.2.2.2.2.2.2.2.2.2.2.2.2.2.2.2.2.2.2.2.2.2.2.2.2.1.2 | exact hf.2.2.2.2.2.2.2.2.2.2.2.2.2.2.2.2.2.2.2.2.2.2.2.2.2.2.2.2.2.1.1 | exact hf.2.2.2.2.2.2.2.2.2.2.2.2.2.2.2.2.2.2.2.2.2.2.2.2.2.2.2.2.2.1.2 | exact hf.2.2.2.2.2.2.2.2.2.2.2.2.2.2.2.2.2.2.2.2.2.2.2.2.2.2.2.2.2.2.1.1 | exact hf.2.2.2.2.2.2.2.2.2.2.2.2.2.2.2.2.2.2.2.2.2.2.2.2.2.2.2.2.2.2.1.2 | exact hf.2.2.2.2.2.2.2.2.2.2.2.2.2.2.2.2.2.2.2.2.2.2.2.2.2.2.2.2.2.2.2.1.1 | exact hf.2.2.2.2.2.2.2.2.2.2.2.2.2.2.2.2.2.2.2.2.2.2.2.2.2.2.2.2.2.2.2.1.2 | exact hf.2.2.2.2.2.2.2.2.2.2.2.2.2.2.2.2.2.2.2.2.2.2.2.2.2.2.2.2.2.2.2.2.1.1 | exact hf.2.2.2.2.2.2.2.2.2.2.2.2.2.2.2.2.2.2.2.2.2.2.2.2.2.2.2.2.2.2.2.2.1.2 | exact hf.2.2.2.2.2.2.2.2.2.2.2.2.2.2.2.2.2.2.2.2.2.2.2.2.2.2.2.2.2.2.2.2.2.1.1 | exact hf.2.2.2.2.2.2.2.2.2.2.2.2.2.2.2.2.2.2.2.2.2.2.2.2.2.2.2.2.2.2.2.2.2.1.2 | exact hf.2.2.2.2.2.2.2.2.2.2.2.2.2.2.2.2.2.2.2.2.2.2.2.2.2.2.2.2.2.2.2.2.2.2.1.1 | exact hf.2.2.2.2.2.2.2.2.2.2.2.2.2.2.2.2.2.2.2.2.2.2.2.2.2.2.2.2.2.2.2.2.2.2.1.2 | exact hf.2.2.2.2.2.2.2.2.2.2.2.2.2.2.2.2.2.2.2.2.2.2.2.2.2.2.2.2.2.2.2.2.2.2.2.1.1 | exact hf.2.2.2.2.2.2.2.2.2.2.2.2.2.2.2.2.2.2.2.2.2.2.2.2.2.2.2.2.2.2.2.2.2.2.2.1.2 | exact hf.2.2.2.2.2.2.2.2.2.2.2.2.2.2.2.2.2.2.2.2.2.2.2.2.2.2.2.2.2.2.2.2.2.2.2.2.1.1 | exact hf.2.2.2.2.2.2.2.2.2.2.2.2.2.2.2.2.2.2.2.2.2.2.2.2.2.2.2.2.2.2.2.2.2.2.2.2.1.2 | exact hf.2.2.2.2.2.2.2.2.2.2.2.2.2.2.2.2.2.2.2.2.2.2.2.2.2.2.2.2.2.2.2.2.2.2.2.2.2.1.1 | exact hf.2.2.2.2.2.2.2.2.2.2.2.2.2.2.2.2.2.2.2.2.2.2.2.2.2.2.2.2.2.2.2.2.2.2.2.2.2.1.2 | exact hf.2.2.2.2.2.2.2.2.2.2.2.2.2.2.2.2.2.2.2.2.2.2.2.2.2.2.2.2.2.2.2.2.2.2.2.2.2.2.1.1 | exact hf.2.2.2.2.2.2.2.2.2.2.2.2.2.2.2.2.2.2.2.2.2.2.2.2.2.2.2.2.2.2.2.2.2.2.2.2.2.2.1.2 | exact hf.2.2.2.2.2.2.2.2.2.2.2.2.2.2.2.2.2.2.2.2.2.2.2.2.2.2.2.2.2.2.2.2.2.2.2.2.2.2.2.1.1 | exact hf.2.2.2.2.2.2.2.2.2.2.2.2.2.2.2.2.2.2.2.2.2.2.2.2.2.2.2.2.2.2.2.2.2.2.2.2.2.2.2.1.2)).1) (by with_reducible first | exact hf | exact hf.1 | exact hf.2.1 | exact hf.2.2.1 | exact hf.2.2.2.1 | exact hf.2.2.2.2.1 | exact hf.2.2.2.2.2.1 | exact hf.2.2.2.2.2.2.1 | exact hf.2.2.2.2.2.2.2.1 | exact hf.2.2.2.2.2.2.2.2.1 | exact hf.2.2.2.2.2.2.2.2.2.1 | exact hf.2.2.2.2.2.2.2.2.2.2.1 | exact hf.2.2.2.2.2.2.2.2.2.2.2.1 | exact hf.2.2.2.2.2.2.2.2.2.2.2.2.1 | exact hf.2.2.2.2.2.2.2.2.2.2.2.2.2.1 | exact hf.2.2.2.2.2.2.2.2.2.2.2.2.2.2.1 | exact hf.2.2.2.2.2.2.2.2.2.2.2.2.2.2.2.1 | exact hf.2.2.2.2.2.2.2.2.2.2.2.2.2.2.2.2.1 | exact hf.2.2.2.2.2.2.2.2.2.2.2.2.2.2.2.2.2.1 | exact hf.2.2.2.2.2.2.2.2.2.2.2.2.2.2.2.2.2.2.1 | exact hf.2.2.2.2.2.2.2.2.2.2.2.2.2.2.2.2.2.2.2.1 | exact hf.2.2.2.2.2.2.2.2.2.2.2.2.2.2.2.2.2.2.2.2.1 | exact hf.2.2.2.2.2.2.2.2.2.2.2.2.2.2.2.2.2.2.2.2.2.1 | exact hf.2.2.2.2.2.2.2.2.2.2.2.2.2.2.2.2.2.2.2.2.2.2.1 | exact hf.2.2.2.2.2.2.2.2.2.2.2.2.2.2.2.2.2.2.2.2.2.2.2.1 | exact hf.2.2.2.2.2.2.2.2.2.2.2.2.2.2.2.2.2.2.2.2.2.2.2.2.1 | exact hf.2.2.2.2.2.2.2.2.2.2.2.2.2.2.2.2.2.2.2.2.2.2.2.2.2.1 | exact hf.2.2.2.2.2.2.2.2.2.2.2.2.2.2.2.2.2.2.2.2.2.2.2.2.2.2.1 | exact hf.2.2.2.2.2.2.2.2.2.2.2.2.2.2.2.2.2.2.2.2.2.2.2.2.2.2.2.1 | exact hf.2.2.2.2.2.2.2.2.2.2.2.2.2.2.2.2.2.2.2.2.2.2.2.2.2.2.2.2.1 | exact hf.2.2.2.2.2.2.2.2.2.2.2.2.2.2.2.2.2.2.2.2.2.2.2.2.2.2.2.2.2.1 | exact hf.2.2.2.2.2.2.2.2.2.2.2.2.2.2.2.2.2.2.2.2.2.2.2.2.2.2.2.2.2.2.1 | exact hf.2.2.2.2.2.2.2.2.2.2.2.2.2.2.2.2.2.2.2.2.2.2.2.2.2.2.2.2.2.2.2.1 | exact hf.2.2.2.2.2.2.2.2.2.2.2.2.2.2.2.2.2.2.2.2.2.2.2.2.2.2.2.2.2.2.2.2.1 | exact hf.2.2.2.2.2.2.2.2.2.2.2.2.2.2.2.2.2.2.2.2.2.2.2.2.2.2.2.2.2.2.2.2.2.1 | exact hf.2.2.2.2.2.2.2.2.2.2.2.2.2.2.2.2.2.2.2.2.2.2.2.2.2.2.2.2.2.2.2.2.2.2.1 | exact hf.2.2.2.2.2.2.2.2.2.2.2.2.2.2.2.2.2.2.2.2.2.2.2.2.2.2.2.2.2.2.2.2.2.2.2.1 | exact hf.2.2.2.2.2.2.2.2.2.2.2.2.2.2.2.2.2.2.2.2.2.2.2.2.2.2.2.2.2.2.2.2.2.2.2.2.1 | exact hf.2.2.2.2.2.2.2.2.2.2.2.2.2.2.2.2.2.2.2.2.2.2.2.2.2.2.2.2.2.2.2.2.2.2.2.2.2.1 | exact hf.2.2.2.2.2.2.2.2.2.2.2.2.2.2.2.2.2.2.2.2.2.2.2.2.2.2.2.2.2.2.2.2.2.2.2.2.2.2.1 | exact hf.2.2.2.2.2.2.2.2.2.2.2.2.2.2.2.2.2.2.2.2.2.2.2.2.2.2.2.2.2.2.2.2.2.2.2.2.2.2.2.1 | exact hf.1.1 | exact hf.1.2 | exact hf.2.1.1 | exact hf.2.1.2 | exact hf.2.2.1.1 | exact hf.2.2.1.2 | exact hf.2.2.2.1.1 | exact hf.2.2.2.1.2 | exact hf.2.2.2.2.1.1 | exact hf.2.2.2.2.1.2 | exact hf.2.2.2.2.2.1.1 | exact hf.2.2.2.2.2.1.2 | exact hf.2.2.2.2.2.2.1.1 | exact hf.2.2.2.2.2.2.1.2 | exact hf.2.2.2.2.2.2.2.1.1 | exact hf.2.2.2.2.2.2.2.1.2 | exact hf.2.2.2.2.2.2.2.2.1.1 | exact hf.2.2.2.2.2.2.2.2.1.2 | exact hf.2.2.2.2.2.2.2.2.2.1.1 | exact hf.2.2.2.2.2.2.2.2.2.1.2 | exact hf.2.2.2.2.2.2.2.2.2.2.1.1 | exact hf.2.2.2.2.2.2.2.2.2.2.1.2 | exact hf.2.2.2.2.2.2.2.2.2.2.2.1.1 | exact hf.2.2.2.2.2.2.2.2.2.2.2.1.2 | exact hf.2.2.2.2.2.2.2.2.2.2.2.2.1.1 | exact hf.2.2.2.2.2.2.2.2.2.2.2.2.1.2 | exact hf.2.2.2.2.2.2.2.2.2.2.2.2.2.1.1 | exact hf.2.2.2.2.2.2.2.2.2.2.2.2.2.1.2 | exact hf.2.2.2.2.2.2.2.2.2.2.2.2.2.2.1.1 | exact hf.2.2.2.2.2.2.2.2.2.2.2.2.2.2.1.2 | exact hf.2.2.2.2.2.2.2.2.2.2.2.2.2.2.2.1.1 | exact hf.2.2.2.2.2.2.2.2.2.2.2.2.2.2.2.1.2 | exact hf.2.2.2.2.2.2.2.2.2.2.2.2.2.2.2.2.1.1 | exact hf.2.2.2.2.2.2.2.2.2.2.2.2.2.2.2.2.1.2 | exact hf.2.2.2.2.2.2.2.2.2.2.2.2.2.2.2.2.2.1.1 | exact hf.2.2.2.2.2.2.2.2.2.2.2.2.2.2.2.2.2.1.2 | exact hf.2.2.2.2.2.2.2.2.2.2.2.2.2.2.2.2.2.2.1.1 | exact hf.2.2.2.2.2.2.2.2.2.2.2.2.2.2.2.2.2.2.1.2 | exact hf.2.2.2.2.2.2.2.2.2.2.2.2.2.2.2.2.2.2.2.1.1 | exact hf.2.2.2.2.2.2.2.2.2.2.2.2.2.2.2.2.2.2.2.1.2 | exact hf.2.2.2.2.2.2.2.2.2.2.2.2.2.2.2.2.2.2.2.2.1.1 | exact hf.2.2.2.2.2.2.2.2.2.2.2.2.2.2.2.2.2.2.2.2.1.2 | exact hf.2.2.2.2.2.2.2.2.2.2.2.2.2.2.2.2.2.2.2.2.2.1.1 | exact hf.2.2.2.2.2.2.2.2.2.2.2.2.2.2.2.2.2.2.2.2.2.1.2 | exact hf.2.2.2.2.2.2.2.2.2.2.2.2.2.2.2.2.2.2.2.2.2.2.1.1 | exact hf.2.2.2.2.2.2.2.2.2.2.2.2.2.2.2.2.2.2.2.2.2.2.1.2 | exact hf.2.2.2.2.2.2.2.2.2.2.2.2.2.2.2.2.2.2.2.2.2.2.2.1.1 | exact hf.2.2.2.2.2.2.2.2.2.2.2.2.2.2.2.2.2.2.2.2.2.2.2.1.2 | exact hf.2.2.2.2.2.2.2.2.2.2.2.2.2.2.2.2.2.2.2.2.2.2.2.2.1.1 | exact hf.2.2.2.2.2.2.2.2.2.2.2.2.2.2.2.2.2.2.2.2.2.2.2.2.1.2 | exact hf.2.2.2.2.2.2.2.2.2.2.2.2.2.2.2.2.2.2.2.2.2.2.2.2.2.1.1 | exact hf.2.2.2.2.2.2.2.2.2.2.2.2.2.2.2.2.2.2.2.2.2.2.2.2.2.1.2 | exact hf.2.2.2.2.2.2.2.2.2.2.2.2.2.2.2.2.2.2.2.2.2.2.2.2.2.2.1.1 | exact hf.2.2.2.2.2.2.2.2.2.2.2.2.2.2.2.2.2.2.2.2.2.2.2.2.2.2.1.2 | exact hf.2.2.2.2.2.2.2.2.2.2.2.2.2.2.2.2.2.2.2.2.2.2.2.2.2.2.2.1.1 | exact hf.2.2.2.2.2.2.2.2.2.2.2.2.2.2.2.2.2.2.2.2.2.2.2.2.2.2.2.1.2 | exact hf.2.2.2.2.2.2.2.2.2.2.2.2.2.2.2.2.2.2.2.2.2.2.2.2.2.2.2.2.1.1 | exact hf.2.2.2.2.2.2.2.2.2.2.2.2.2.2.2.2.2.2.2.2.2.2.2.2.2.2.2.2.1.2 | exact hf.2.2.2.2.2.2.2.2.2.2.2.2.2.2.2.2.2.2.2.2.2.2.2.2.2.2.2.2.2.1.1 | exact hf.2.2.2.2.2.2.2.2.2.2.2.2.2.2.2.2.2.2.2.2.2.2.2.2.2.2.2.2.2.1.2 | exact hf.2.2.2.2.2.2.2.2.2.2.2.2.2.2.2.2.2.2.2.2.2.2.2.2.2.2.2.2.2.2.1.1 | exact hf.2.2.2.2.2.2.2.2.2.2.2.2.2.2.2.2.2.2.2.2.2.2.2.2.2.2.2.2.2.2.1.2 | exact hf.2.2.2.2.2.2.2.2.2.2.2.2.2.2.2.2.2.2.2.2.2.2.2.2.2.2.2.2.2.2.2.1.1 | exact hf.2.2.2.2.2.2.2.2.2.2.2.2.2.2.2.2.2.2.2.2.2.2.2.2.2.2.2.2.2.2.2.1.2 | exact hf.2.2.2.2.2.2.2.2.2.2.2.2.2.2.2.2.2.2.2.2.2.2.2.2.2.2.2.2.2.2.2.2.1.1 | exact hf.2.2.2.2.2.2.2.2.2.2.2.2.2.2.2.2.2.2.2.2.2.2.2.2.2.2.2.2.2.2.2.2.1.2 | exact hf.2.2.2.2.2.2.2.2.2.2.2.2.2.2.2.2.2.2.2.2.2.2.2.2.2.2.2.2.2.2.2.2.2.1.1 | exact hf.2.2.2.2.2.2.2.2.2.2.2.2.2.2.2.2.2.2.2.2.2.2.2.2.2.2.2.2.2.2.2.2.2.1.2 | exact hf.2.2.2.2.2.2.2.2.2.2.2.2.2.2.2.2.2.2.2.2.2.2.2.2.2.2.2.2.2.2.2.2.2.2.1.1 | exact hf.2.2.2.2.2.2.2.2.2.2.2.2.2.2.2.2.2.2.2.2.2.2.2.2.2.2.2.2.2.2.2.2.2.2.1.2 | exact hf.2.2.2.2.2.2.2.2.2.2.2.2.2.2.2.2.2.2.2.2.2.2.2.2.2.2.2.2.2.2.2.2.2.2.2.1.1 | exact hf.2.2.2.2.2.2.2.2.2.2.2.2.2.2.2.2.2.2.2.2.2.2.2.2.2.2.2.2.2.2.2.2.2.2.2.1.2 | exact hf.2.2.2.2.2.2.2.2.2.2.2.2.2.2.2.2.2.2.2.2.2.2.2.2.2.2.2.2.2.2.2.2.2.2.2.2.1.1 | exact hf.2.2.2.2.2.2.2.2.2.2.2.2.2.2.2.2.2.2.2.2.2.2.2.2.2.2.2.2.2.2.2.2.2.2.2.2.1.2 | exact hf.2.2.2.2.2.2.2.2.2.2.2.2.2.2.2.2.2.2.2.2.2.2.2.2.2.2.2.2.2.2.2.2.2.2.2.2.2.1.1 | exact hf.2.2.2.2.2.2.2.2.2.2.2.2.2.2.2.2.2.2.2.2.2.2.2.2.2.2.2.2.2.2.2.2.2.2.2.2.2.1.2 | exact hf.2.2.2.2.2.2.2.2.2.2.2.2.2.2.2.2.2.2.2.2.2.2.2.2.2.2.2.2.2.2.2.2.2.2.2.2.2.2.1.1 | exact hf.2.2.2.2.2.2.2.2.2.2.2.2.2.2.2.2.2.2.2.2.2.2.2.2.2.2.2.2.2.2.2.2.2.2.2.2.2.2.1.2 | exact hf.2.2.2.2.2.2.2.2.2.2.2.2.2.2.2.2.2.2.2.2.2.2.2.2.2.2.2.2.2.2.2.2.2.2.2.2.2.2.2.1.1 | exact hf.2.2.2.2.2.2.2.2.2.2.2.2.2.2.2.2.2.2.2.2.2.2.2.2.2.2.2.2.2.2.2.2.2.2.2.2.2.2.2.1.2))
  | (with_reducible exact absurd (ck _ (@grt_all (iv 26) (iv0 4) (fl (iv0 0) (iv 28).toNat 1) hok (by omega) (by omega) (by omega)).1) (by with_reducible first | exact hf | exact hf.1 | exact hf.2.1 | exact hf.2.2.1 | exact hf.2.2.2.1 | exact hf.2.2.2.2.1 | exact hf.2.2.2.2.2.1 | exact hf.2.2.2.2.2.2.1 | exact hf.2.2.2.2.2.2.2.1 | exact hf.2.2.2.2.2.2.2.2.1 | exact hf.2.2.2.2.2.2.2.2.2.1 | exact hf.2.2.2.2.2.2.2.2.2.2.1 | exact hf.2.2.2.2.2.2.2.2.2.2.2.1 | exact hf.2.2.2.2.2.2.2.2.2.2.2.2.1 | exact hf.2.2.2.2.2.2.2.2.2.2.2.2.2.1 | exact hf.2.2.2.2.2.2.2.2.2.2.2.2.2.2.1 | exact hf.2.2.2.2.2.2.2.2.2.2.2.2.2.2.2.1 | exact hf.2.2.2.2.2.2.2.2.2.2.2.2.2.2.2.2.1 | exact hf.2.2.2.2.2.2.2.2.2.2.2.2.2.2.2.2.2.1 | exact hf.2.2.2.2.2.2.2.2.2.2.2.2.2.2.2.2.2.2.1 | exact hf.2.2.2.2.2.2.2.2.2.2.2.2.2.2.2.2.2.2.2.1 | exact hf.2.2.2.2.2.2.2.2.2.2.2.2.2.2.2.2.2.2.2.2.1 | exact hf.2.2.2.2.2.2.2.2.2.2.2.2.2.2.2.2.2.2.2.2.2.1 | exact hf.2.2.2.2.2.2.2.2.2.2.2.2.2.2.2.2.2.2.2.2.2.2.1 | exact hf.2.2.2.2.2.2.2.2.2.2.2.2.2.2.2.2.2.2.2.2.2.2.2.1 | exact hf.2.2.2.2.2.2.2.2.2.2.2.2.2.2.2.2.2.2.2.2.2.2.2.2.1 | exact hf.2.2.2.2.2.2.2.2.2.2.2.2.2.2.2.2.2.2.2.2.2.2.2.2.2.1 | exact hf.2.2.2.2.2.2.2.2.2.2.2.2.2.2.2.2.2.2.2.2.2.2.2.2.2.2.1 | exact hf.2.2.2.2.2.2.2.2.2.2.2.2.2.2.2.2.2.2.2.2.2.2.2.2.2.2.2.1 | exact hf.2.2.2.2.2.2.2.2.2.2.2.2.2.2.2.2.2.2.2.2.2.2.2.2.2.2.2.2.1 | exact hf.2.2.2.2.2.2.2.2.2.2.2.2.2.2.2.2.2.2.2.2.2.2.2.2.2.2.2.2.2.1 | exact hf.2.2.2.2.2.2.2.2.2.2.2.2.2.2.2.2.2.2.2.2.2.2.2.2.2.2.2.2.2.2.1 | exact hf.2.2.2.2.2.2.2.2.2.2.2.2.2.2.2.2.2.2.2.2.2.2.2.2.2.2.2.2.2.2.2.1 | exact hf.2.2.2.2.2.2.2.2.2.2.2.2.2.2.2.2.2.2.2.2.2.2.2.2.2.2.2.2.2.2.2.2.1 | exact hf.2.2.2.2.2.2.2.2.2.2.2.2.2.2.2.2.2.2.2.2.2.2.2.2.2.2.2.2.2.2.2.2.2.1 | exact hf.2.2.2.2.2.2.2.2.2.2.2.2.2.2.2.2.2.2.2.2.2.2.2.2.2.2.2.2.2.2.2.2.2.2.1 | exact hf.2.2.2.2.2.2.2.2.2.2.2.2.2.2.2.2.2.2.2.2.2.2.2.2.2.2.2.2.2.2.2.2.2.2.2.1 | exact hf.2.2.2.2.2.2.2.2.2.2.2.2.2.2.2.2.2.2.2.2.2.2.2.2.2.2.2.2.2.2.2.2.2.2.2.2.1 | exact hf.2.2.2.2.2.2.2.2.2.2.2.2.2.2.2.2.2.2.2.2.2.2.2.2.2.2.2.2.2.2.2.2.2.2.2.2.2.1 | exact hf.2.2.2.2.2.2.2.2.2.2.2.2.2.2.2.2.2.2.2.2.2.2.2.2.2.2.2.2.2.2.2.2.2.2.2.2.2.2.1 | exact hf.2.2.2.2.2.2.2.2.2.2.2.2.2.2.2.2.2.2.2.2.2.2.2.2.2.2.2.2.2.2.2.2.2.2.2.2.2.2.2.1 | exact hf.1.1 | exact hf.1.2 | exact hf.2.1.1 | exact hf.2.1.2 | exact hf.2.2.1.1 | exact hf.2.2.1.2 | exact hf.2.2.2.1.1 | exact hf.2.2.2.1.2 | exact hf.2.2.2.2.1.1 | exact hf.2.2.2.2.1.2 | exact hf.2.2.2.2.2.1.1 | exact hf.2.2.2.2.2.1.2 | exact hf.2.2.2.2.2.2.1.1 | exact hf.2.2.2.2.2.2.1.2 | exact hf.2.2.2.2.2.2.2.1.1 | exact hf.2.2.2.2.2.2.2.1.2 | exact hf.2.2.2.2.2.2.2.2.1.1 | exact hf.2.2.2.2.2.2.2.2.1.2 | exact hf.2.2.2.2.2.2.2.2.2.1.1 | exact hf.2.2.2.2.2.2.2.2.2.1.2 | exact hf.2.2.2.2.2.2.2.2.2.2.1.1 | exact hf.2.2.2.2.2.2.2.2.2.2.1.2 | exact hf.2.2.2.2.2.2.2.2.2.2.2.1.1 | exact hf.2.2.2.2.2.2.2.2.2.2.2.1.2 | exact hf.2.2.2.2.2.2.2.2.2.2.2.2.1.1 | exact hf.2.2.2.2.2.2.2.2.2.2.2.2.1.2 | exact hf.2.2.2.2.2.2.2.2.2.2.2.2.2.1.1 | exact hf.2.2.2.2.2.2.2.2.2.2.2.2.2.1.2 | exact hf.2.2.2.2.2.2.2.2.2.2.2.2.2.2.1.1 | exact hf.2.2.2.2.2.2.2.2.2.2.2.2.2.2.1.2 | exact hf.2.2.2.2.2.2.2.2.2.2.2.2.2.2.2.1.1 | exact hf.2.2.2.2.2.2.2.2.2.2.2.2.2.2.2.1.2 | exact hf.2.2.2.2.2.2.2.2.2.2.2.2.2.2.2.2.1.1 | exact hf.2.2.2.2.2.2.2.2.2.2.2.2.2.2.2.2.1.2 | exact hf.2.2.2.2.2.2.2.2.2.2.2.2.2.2.2.2.2.1.1 | exact hf.2.2.2.2.2.2.2.2.2.2.2.2.2.2.2.2.2.1.2 | exact hf.2.2.2.2.2.2.2.2.2.2.2.2.2.2.2.2.2.2.1.1 | exact hf.2.2.2.2.2.2.2.2.2.2.2.2.2.2.2.2.2.2.1.2 | exact hf.2.2.2.2.2.2.2.2.2.2.2.2.2.2.2.2.2.2.2.1.1 | exact hf.2.2.2.2.2.2.2.2.2.2.2.2.2.2.2.2.2.2.2.1.2 | exact hf.2.2.2.2.2.2.2.2.2.2.2.2.2.2.2.2.2.2.2.2.1.1 | exact hf.2.2.2.2.2.2.2.2.2.2.2.2.2.2.2.2.2.2.2.2.1.2 | exact hf.2.2.2.2.2.2.2.2.2.2.2.2.2.2.2.2.2.2.2.2.2.1.1 | exact hf.2.2.2.2.2.2.2.2.2.2.2.2.2.2.2.2.2.2.2.2.2.1.2 | exact hf.2.2.2.2.2.2.2.2.2.2.2.2.2.2.2.2.2.2.2.2.2.2.1.1 | exact hf.2.2.2.2.2.2.2.2.2.2.2.2.2.2.2.2.2.2.2.2.2.2.1.2 | exact hf.2.2.2.2.2.2.2.2.2.2.2.2.2.2.2.2.2.2.2.2.2.2.2.1.1 | exact hf.2.2.2.2.2.2.2.2.2.2.2.2.2.2.2.2.2.2.2.2.2.2.2.1.2 | exact hf.2.2.2.2.2.2.2.2.2.2.2.2.2.2.2.2.2.2.2.2.2.2.2.2.1.1 | exact hf.2.2.2.2.2.2.2.2.2.2.2.2.2.2.2.2.2.2.2.2.2.2.2.2.1.2 | exact hf.2.2.2.2.2.2.2.2.2.2.2.2.2.2.2.2.2.2.2.2.2.2.2.2.2.1.1 | exact hf.2.2.2.2.2.2.2.2.2.2.2.2.2.2.2.2.2.2.2.2.2.2.2.2.2.1.2 | exact hf.2.2.2.2.2.2.2.2.2.2.2.2.2.2.2.2.2.2.2.2.2.2.2.2.2.2.1.1 | exact hf.2.2.2.2.2.2.2.2.2.2.2.2.2.2.2.2.2.2.2.2.2.2.2.2.2.2.1.2 | exact hf.2.2.2.2.2.2.2.2.2.2.2.2.2.2.2.2.2.2.2.2.2.2.2.2.2.2.2.1.1 | exact hf.2.2.2.2.2.2.2.2.2.2.2.2.2.2.2.2.2.2.2.2.2.2.2.2.2.2.2.1.2 | exact hf.2.2.2.2.2.2.2.2.2.2.2.2.2.2.2.2.2.2.2.2.2.2.2.2.2.2.2.2.1.1 | exact hf.2.2.2.2.2.2.2.2.2.2.2.2.2.2.2.2.2.2.2.2.2.2.2.2.2.2.2.2.1.2 | exact hf.2.2.2.2.2.2.2.2.2.2.2.2.2.2.2.2.2.2.2.2.2.2.2.2.2.2.2.2.2.1.1 | exact hf.2.2.2.2.2.2.2.2.2.2.2.2.2.2.2.2.2.2.2.2.2.2.2.2.2.2.2.2.2.1.2 | exact hf.2.2.2.2.2.2.2.2.2.2.2.2.2.2.2.2.2.2.2.2.2.2.2.2.2.2.2.2.2.2.1.1 | exact hf.2.2.2.2.2.2.2.2.2.2.2.2.2.2.2.2.2.2.2.2.2.2.2.2.2.2.2.2.2.2.1.2 | exact hf.2.2.2.2.2.2.2.2.2.2.2.2.2.2.2.2.2.2.2.2.2.2.2.2.2.2.2.2.2.2.2.1.1 | exact hf.2.2.2.2.2.2.2.2.2.2.2.2.2.2.2.2.2.2.2.2.2.2.2.2.2.2.2.2.2.2.2.1.2 | exact hf.2.2.2.2.2.2.2.2.2.2.2.2.2.2.2.2.2.2.2.2.2.2.2.2.2.2.2.2.2.2.2.2.1.1 | exact hf.2.2.2.2.2.2.2.2.2.2.2.2.2.2.2.2.2.2.2.2.2.2.2.2.2.2.2.2.2.2.2.2.1.2 | exact hf.2.2.2.2.2.2.2.2.2.2.2.2.2.2.2.2.2.2.2.2.2.2.2.2.2.2.2.2.2.2.2.2.2.1.1 | exact hf.2.2.2.2.2.2.2.2.2.2.2.2.2.2.2.2.2.2.2.2.2.2.2.2.2.2.2.2.2.2.2.2.2.1.2 | exact hf.2.2.2.2.2.2.2.2.2.2.2.2.2.2.2.2.2.2.2.2.2.2.2.2.2.2.2.2.2.2.2.2.2.2.1.1 | exact hf.2.2.2.2.2.2.2.2.2.2.2.2.2.2.2.2.2.2.2.2.2.2.2.2.2.2.2.2.2.2.2.2.2.2.1.2 | exact hf.2.2.2.2.2.2.2.2.2.2.2.2.2.2.2.2.2.2.2.2.2.2.2.2.2.2.2.2.2.2.2.2.2.2.2.1.1 | exact hf.2.2.2.2.2.2.2.2.2.2.2.2.2.2.2.2.2.2.2.2.2.2.2.2.2.2.2.2.2.2.2.2.2.2.2.1.2 | exact hf.2.2.2.2.2.2.2.2.2.2.2.2.2.2.2.2.2.2.2.2.2.2.2.2.2.2.2.2.2.2.2.2.2.2.2.2.1.1 | exact hf.2.2.2.2.2.2.2.2.2.2.2.2.2.2.2.2.2.2.2.2.2.2.2.2.2.2.2.2.2.2.2.2.2.2.2.2.1.2 | exact hf.2.2.2.2.2.2.2.2.2.2.2.2.2.2.2.2.2.2.2.2.2.2.2.2.2.2.2.2.2.2.2.2.2.2.2.2.2.1.1 | exact hf.2.2.2.2.2.2.2.2.2.2.2.2.2.2.2.2.2.2.2.2.2.2.2.2.2.2.2.2.2.2.2.2.2.2.2.2.2.1.2 | exact hf.2.2.2.2.2.2.2.2.2.2.2.2.2.2.2.2.2.2.2.2.2.2.2.2.2.2.2.2.2.2.2.2.2.2.2.2.2.2.1.1 | exact hf.2.2.2.2.2.2.2.2.2.2.2.2.2.2.2.2.2.2.2.2.2.2.2.2.2.2.2.2.2.2.2.2.2.2.2.2.2.2.1.2 | exact hf.2.2.2.2.2.2.2.2.2.2.2.2.2.2.2.2.2.2.2.2.2.2.2.2.2.2.2.2.2.2.2.2.2.2.2.2.2.2.2.1.1 | exact hf.2.2.2.2.2.2.2.2.2.2.2.2.2.2.2.2.2.2.2.2.2.2.2.2.2.2.2.2.2.2.2.2.2.2.2.2.2.2.2.1.2))
  | (with_reducible exact absurd (ck _ (@end_all (iv 26) (iv0 4) (fl (iv0 0) (iv 28).toNat 1) (fl (iv0 0) (iv 28).toNat 3) 4 hok (by omega) (by omega) (by omega) (.inl ⟨rfl,by omega⟩)).1) (by with_reducible first | exact hf | exact hf.1 | exact hf.2.1 | exact hf.2.2.1 | exact hf.2.2.2.1 | exact hf.2.2.2.2.1 | exact hf.2.2.2.2.2.1 | exact hf.2.2.2.2.2.2.1 | exact hf.2.2.2.2.2.2.2.1 | exact hf.2.2.2.2.2.2.2.2.1 | exact hf.2.2.2.2.2.2.2.2.2.1 | exact hf.2.2.2.2.2.2.2.2.2.2.1 | exact hf.2.2.2.2.2.2.2.2.2.2.2.1 | exact hf.2.2.2.2.2.2.2.2.2.2.2.2.1 | exact hf.2.2.2.2.2.2.2.2.2.2.2.2.2.1 | exact hf.2.2.2.2.2.2.2.2.2.2.2.2.2.2.1 | exact hf.2.2.2.2.2.2.2.2.2.2.2.2.2.2.2.1 | exact hf.2.2.2.2.2.2.2.2.2.2.2.2.2.2.2.2.1 | exact hf.2.2.2.2.2.2.2.2.2.2.2.2.2.2.2.2.2.1 | exact hf.2.2.2.2.2.2.2.2.2.2.2.2.2.2.2.2.2.2.1 | exact hf.2.2.2.2.2.2.2.2.2.2.2.2.2.2.2.2.2.2.2.1 | exact hf.2.2.2.2.2.2.2.2.2.2.2.2.2.2.2.2.2.2.2.2.1 | exact hf.2.2.2.2.2.2.2.2.2.2.2.2.2.2.2.2.2.2.2.2.2.1 | exact hf.2.2.2.2.2.2.2.2.2.2.2.2.2.2.2.2.2.2.2.2.2.2.1 | exact hf.2.2.2.2.2.2.2.2.2.2.2.2.2.2.2.2.2.2.2.2.2.2.2.1 | exact hf.2.2.2.2.2.2.2.2.2.2.2.2.2.2.2.2.2.2.2.2.2.2.2.2.1 | exact hf.2.2.2.2.2.2.2.2.2.2.2.2.2.2.2.2.2.2.2.2.2.2.2.2.2.1 | exact hf.2.2.2.2.2.2.2.2.2.2.2.2.2.2.2.2.2.2.2.2.2.2.2.2.2.2.1 | exact hf.2.2.2.2.2.2.2.2.2.2.2.2.2.2.2.2.2.2.2.2.2.2.2.2.2.2.2.1 | exact hf.2.2.2.2.2.2.2.2.2.2.2.2.2.2.2.2.2.2.2.2.2.2.2.2.2.2.2.2.1 | exact hf.2.2.2.2.2.2.2.2.2.2.2.2.2.2.2.2.2.2.2.2.2.2.2.2.2.2.2.2.2.1 | exact hf.2.2.2.2.2.2.2.2.2.2.2.2.2.2.2.2.2.2.2.2.2.2.2.2.2.2.2.2.2.2.1 | exact hf.2.2.2.2.2.2.2.2.2.2.2.2.2.2.2.2.2.2.2.2.2.2.2.2.2.2.2.2.2.2.2.1 | exact hf.2.2.2.2.2.2.2.2.2.2.2.2.2.2.2.2.2.2.2.2.2.2.2.2.2.2.2.2.2.2.2.2.1 | exact hf.2.2.2.2.2.2.2.2.2.2.2.2.2.2.2.2.2.2.2.2.2.2.2.2.2.2.2.2.2.2.2.2.2.1 | exact hf.2.2.2.2.2.2.2.2.2.2.2.2.2.2.2.2.2.2.2.2.2.2.2.2.2.2.2.2.2.2.2.2.2.2.1 | exact hf.2.2.2.2.2.2.2.2.2.2.2.2.2.2.2.2.2.2.2.2.2.2.2.2.2.2.2.2.2.2.2.2.2.2.2.1 | exact hf.2.2.2.2.2.2.2.2.2.2.2.2.2.2.2.2.2.2.2.2.2.2.2.2.2.2.2.2.2.2.2.2.2.2.2.2.1 | exact hf.2.2.2.2.2.2.2.2.2.2.2.2.2.2.2.2.2.2.2.2.2.2.2.2.2.2.2.2.2.2.2.2.2.2.2.2.2.1 | exact hf.2.2.2.2.2.2.2.2.2.2.2.2.2.2.2.2.2.2.2.2.2.2.2.2.2.2.2.2.2.2.2.2.2.2.2.2.2.2.1 | exact hf.2.2.2.2.2.2.2.2.2.2.2.2.2.2.2.2.2.2.2.2.2.2.2.2.2.2.2.2.2.2.2.2.2.2.2.2.2.2.2.1 | exact hf.1.1 | exact hf.1.2 | exact hf.2.1.1 | exact hf.2.1.2 | exact hf.2.2.1.1 | exact hf.2.2.1.2 | exact hf.2.2.2.1.1 | exact hf.2.2.2.1.2 | exact hf.2.2.2.2.1.1 | exact hf.2.2.2.2.1.2 | exact hf.2.2.2.2.2.1.1 | exact hf.2.2.2.2.2.1.2 | exact hf.2.2.2.2.2.2.1.1 | exact hf.2.2.2.2.2.2.1.2 | exact hf.2.2.2.2.2.2.2.1.1 | exact hf.2.2.2.2.2.2.2.1.2 | exact hf.2.2.2.2.2.2.2.2.1.1 | exact hf.2.2.2.2.2.2.2.2.1.2 | exact hf.2.2.2.2.2.2.2.2.2.1.1 | exact hf.2.2.2.2.2.2.2.2.2.1.2 | exact hf.2.2.2.2.2.2.2.2.2.2.1.1 | exact hf.2.2.2.2.2.2.2.2.2.2.1.2 | exact hf.2.2.2.2.2.2.2.2.2.2.2.1.1 | exact hf.2.2.2.2.2.2.2.2.2.2.2.1.2 | exact hf.2.2.2.2.2.2.2.2.2.2.2.2.1.1 | exact hf.2.2.2.2.2.2.2.2.2.2.2.2.1.2 | exact hf.2.2.2.2.2.2.2.2.2.2.2.2.2.1.1 | exact hf.2.2.2.2.2.2.2.2.2.2.2.2.2.1.2 | exact hf.2.2.2.2.2.2.2.2.2.2.2.2.2.2.1.1 | exact hf.2.2.2.2.2.2.2.2.2.2.2.2.2.2.1.2 | exact hf.2.2.2.2.2.2.2.2.2.2.2.2.2.2.2.1.1 | exact hf.2.2.2.2.2.2.2.2.2.2.2.2.2.2.2.1.2 | exact hf.2.2.2.2.2.2.2.2.2.2.2.2.2.2.2.2.1.1 | exact hf.2.2.2.2.2.2.2.2.2.2.2.2.2.2.2.2.1.2 | exact hf.2.2.2.2.2.2.2.2.2.2.2.2.2.2.2.2.2.1.1 | exact hf.2.2.2.2.2.2.2.2.2.2.2.2.2.2.2.2.2.1.2 | exact hf.2.2.2.2.2.2.2.2.2.2.2.2.2.2.2.2.2.2.1.1 | exact hf.2.2.2.2.2.2.2.2.2.2.2.2.2.2.2.2.2.2.1.2 | exact hf.2.2.2.2.2.2.2.2.2.2.2.2.2.2.2.2.2.2.2.1.1 | exact hf.2.2.2.2.2.2.2.2.2.2.2.2.2.2.2.2.2.2.2.1.2 | exact hf.2.2.2.2.2.2.2.2.2.2.2.2.2.2.2.2.2.2.2.2.1.1 | exact hf.2.2.2.2.2.2.2.2.2.2.2.2.2.2.2.2.2.2.2.2.1.2 | exact hf.2.2.2.2.2.2.2.2.2.2.2.2.2.2.2.2.2.2.2.2.2.1.1 | exact hf.2.2.2.2.2.2.2.2.2.2.2.2.2.2.2.2.2.2.2.2.2.1.2 | exact hf.2.2.2.2.2.2.2.2.2.2.2.2.2.2.2.2.2.2.2.2.2.2.1.1 | exact hf.2.2.2.2.2.2.2.2.2.2.2.2.2.2.2.2.2.2.2.2.2.2.1.2 | exact hf.2.2.2.2.2.2.2.2.2.2.2.2.2.2.2.2.2.2.2.2.2.2.2.1.1 | exact hf.2.2.2.2.2.2.2.2.2.2.2.2.2.2.2.2.2.2.2.2.2.2.2.1.2 | exact hf.2.2.2.2.2.2.2.2.2.2.2.2.2.2.2.2.2.2.2.2.2.2.2.2.1.1 | exact hf.2.2.2.2.2.2.2.2.2.2.2.2.2.2.2.2.2.2.2.2.2.2.2.2.1.2 | exact hf.2.2.2.2.2.2.2.2.2.2.2.2.2.2.2.2.2.2.2.2.2.2.2.2.2.1.1 | exact hf.2.2.2.2.2.2.2.2.2.2.2.2.2.2.2.2.2.2.2.2.2.2.2.2.2.1.2 | exact hf.2.2.2.2.2.2.2.2.2.2.2.2.2.2.2.2.2.2.2.2.2.2.2.2.2.2.1.1 | exact hf.2.2.2.2.2.2.2.2.2.2.2.2.2.2.2.2.2.2.2.2.2.2.2.2.2.2.1.2 | exact hf.2.2.2.2.2.2.2.2.2.2.2.2.2.2.2.2.2.2.2.2.2.2.2.2.2.2.2.1.1 | exact hf.2.2.2.2.2.2.2.2.2.2.2.2.2.2.2.2.2.2.2.2.2.2.2.2.2.2.2.1.2 | exact hf.2.2.2.2.2.2.2.2.2.2.2.2.2.2.2.2.2.2.2.2.2.2.2.2.2.2.2.2.1.1 | exact hf.2.2.2.2.2.2.2.2.2.2.2.2.2.2.2.2.2.2.2.2.2.2.2.2.2.2.2.2.1.2 | exact hf.2.2.2.2.2.2.2.2.2.2.2.2.2.2.2.2.2.2.2.2.2.2.2.2.2.2.2.2.2.1.1 | exact hf.2.2.2.2.2.2.2.2.2.2.2.2.2.2.2.2.2.2.2.2.2.2.2.2.2.2.2.2.2.1.2 | exact hf.2.2.2.2.2.2.2.2.2.2.2.2.2.2.2.2.2.2.2.2.2.2.2.2.2.2.2.2.2.2.1.1 | exact hf.2.2.2.2.2.2.2.2.2.2.2.2.2.2.2.2.2.2.2.2.2.2.2.2.2.2.2.2.2.2.1.2 | exact hf.2.2.2.2.2.2.2.2.2.2.2.2.2.2.2.2.2.2.2.2.2.2.2.2.2.2.2.2.2.2.2.1.1 | exact hf.2.2.2.2.2.2.2.2.2.2.2.2.2.2.2.2.2.2.2.2.2.2.2.2.2.2.2.2.2.2.2.1.2 | exact hf.2.2.2.2.2.2.2.2.2.2.2.2.2.2.2.2.2.2.2.2.2.2.2.2.2.2.2.2.2.2.2.2.1.1 | exact hf.2.2.2.2.2.2.2.2.2.2.2.2.2.2.2.2.2.2.2.2.2.2.2.2.2.2.2.2.2.2.2.2.1.2 | exact hf.2.2.2.2.2.2.2.2.2.2.2.2.2.2.2.2.2.2.2.2.2.2.2.2.2.2.2.2.2.2.2.2.2.1.1 | exact hf.2.2.2.2.2.2.2.2.2.2.2.2.2.2.2.2.2.2.2.2.2.2.2.2.2.2.2.2.2.2.2.2.2.1.2 | exact hf.2.2.2.2.2.2.2.2.2.2.2.2.2.2.2.2.2.2.2.2.2.2.2.2.2.2.2.2.2.2.2.2.2.2.1.1 | exact hf.2.2.2.2.2.2.2.2.2.2.2.2.2.2.2.2.2.2.2.2.2.2.2.2.2.2.2.2.2.2.2.2.2.2.1.2 | exact hf.2.2.2.2.2.2.2.2.2.2.2.2.2.2.2.2.2.2.2.2.2.2.2.2.2.2.2.2.2.2.2.2.2.2.2.1.1 | exact hf.2.2.2.2.2.2.2.2.2.2.2.2.2.2.2.2.2.2.2.2.2.2.2.2.2.2.2.2.2.2.2.2.2.2.2.1.2 | exact hf.2.2.2.2.2.2.2.2.2.2.2.2.2.2.2.2.2.2.2.2.2.2.2.2.2.2.2.2.2.2.2.2.2.2.2.2.1.1 | exact hf.2.2.2.2.2.2.2.2.2.2.2.2.2.2.2.2.2.2.2.2.2.2.2.2.2.2.2.2.2.2.2.2.2.2.2.2.1.2 | exact hf.2.2.2.2.2.2.2.2.2.2.2.2.2.2.2.2.2.2.2.2.2.2.2.2.2.2.2.2.2.2.2.2.2.2.2.2.2.1.1 | exact hf.2.2.2.2.2.2.2.2.2.2.2.2.2.2.2.2.2.2.2.2.2.2.2.2.2.2.2.2.2.2.2.2.2.2.2.2.2.1.2 | exact hf.2.2.2.2.2.2.2.2.2.2.2.2.2.2.2.2.2.2.2.2.2.2.2.2.2.2.2.2.2.2.2.2.2.2.2.2.2.2.1.1 | exact hf.2.2.2.2.2.2.2.2.2.2.2.2.2.2.2.2.2.2.2.2.2.2.2.2.2.2.2.2.2.2.2.2.2.2.2.2.2.2.1.2 | exact hf.2.2.2.2.2.2.2.2.2.2.2.2.2.2.2.2.2.2.2.2.2.2.2.2.2.2.2.2.2.2.2.2.2.2.2.2.2.2.2.1.1 | exact hf.2.2.2.2.2.2.2.2.2.2.2.2.2.2.2.2.2.2.2.2.2.2.2.2.2.2.2.2.2.2.2.2.2.2.2.2.2.2.2.1.2))
  | (with_reducible exact absurd (ck _ (@end_all (iv 26) (iv0 4) (fl (iv0 0) (iv 28).toNat 1) (fl (iv0 0) (iv 28).toNat 3) 3 hok (by omega) (by omega) (by omega) (.inr ⟨rfl,by omega⟩)).1) (by with_reducible first | exact hf | exact hf.1 | exact hf.2.1 | exact hf.2.2.1 | exact hf.2.2.2.1 | exact hf.2.2.2.2.1 | exact hf.2.2.2.2.2.1 | exact hf.2.2.2.2.2.2.1 | exact hf.2.2.2.2.2.2.2.1 | exact hf.2.2.2.2.2.2.2.2.1 | exact hf.2.2.2.2.2.2.2.2.2.1 | exact hf.2.2.2.2.2.2.2.2.2.2.1 | exact hf.2.2.2.2.2.2.2.2.2.2.2.1 | exact hf.2.2.2.2.2.2.2.2.2.2.2.2.1 | exact hf.2.2.2.2.2.2.2.2.2.2.2.2.2.1 | exact hf.2.2.2.2.2.2.2.2.2.2.2.2.2.2.1 | exact hf.2.2.2.2.2.2.2.2.2.2.2.2.2.2.2.1 | exact hf.2.2.2.2.2.2.2.2.2.2.2.2.2.2.2.2.1 | exact hf.2.2.2.2.2.2.2.2.2.2.2.2.2.2.2.2.2.1 | exact hf.2.2.2.2.2.2.2.2.2.2.2.2.2.2.2.2.2.2.1 | exact hf.2.2.2.2.2.2.2.2.2.2.2.2.2.2.2.2.2.2.2.1 | exact hf.2.2.2.2.2.2.2.2.2.2.2.2.2.2.2.2.2.2.2.2.1 | exact hf.2.2.2.2.2.2.2.2.2.2.2.2.2.2.2.2.2.2.2.2.2.1 | exact hf.2.2.2.2.2.2.2.2.2.2.2.2.2.2.2.2.2.2.2.2.2.2.1 | exact hf.2.2.2.2.2.2.2.2.2.2.2.2.2.2.2.2.2.2.2.2.2.2.2.1 | exact hf.2.2.2.2.2.2.2.2.2.2.2.2.2.2.2.2.2.2.2.2.2.2.2.2.1 | exact hf.2.2.2.2.2.2.2.2.2.2.2.2.2.2.2.2.2.2.2.2.2.2.2.2.2.1 | exact hf.2.2.2.2.2.2.2.2.2.2.2.2.2.2.2.2.2.2.2.2.2.2.2.2.2.2.1 | exact hf.2.2.2.2.2.2.2.2.2.2.2.2.2.2.2.2.2.2.2.2.2.2.2.2.2.2.2.1 | exact hf.2.2.2.2.2.2.2.2.2.2.2.2.2.2.2.2.2.2.2.2.2.2.2.2.2.2.2.2.1 | exact hf.2.2.2.2.2.2.2.2.2.2.2.2.2.2.2.2.2.2.2.2.2.2.2.2.2.2.2.2.2.1 | exact hf.2.2.2.2.2.2.2.2.2.2.2.2.2.2.2.2.2.2.2.2.2.2.2.2.2.2.2.2.2.2.1 | exact hf.2.2.2.2.2.2.2.2.2.2.2.2.2.2.2.2.2.2.2.2.2.2.2.2.2.2.2.2.2.2.2.1 | exact hf.2.2.2.2.2.2.2.2.2.2.2.2.2.2.2.2.2.2.2.2.2.2.2.2.2.2.2.2.2.2.2.2.1 | exact hf.2.2.2.2.2.2.2.2.2.2.2.2.2.2.2.2.2.2.2.2.2.2.2.2.2.2.2.2.2.2.2.2.2.1 | exact hf.2.2.2.2.2.2.2.2.2.2.2.2.2.2.2.2.2.2.2.2.2.2.2.2.2.2.2.2.2.2.2.2.2.2.1 | exact hf.2.2.2.2.2.2.2.2.2.2.2.2.2.2.2.2.2.2.2.2.2.2.2.2.2.2.2.2.2.2.2.2.2.2.2.1 | exact hf.2.2.2.2.2.2.2.2.2.2.2.2.2.2.2.2.2.2.2.2.2.2.2.2.2.2.2.2.2.2.2.2.2.2.2.2.1 | exact hf.2.2.2.2.2.2.2.2.2.2.2.2.2.2.2.2.2.2.2.2.2.2.2.2.2.2.2.2.2.2.2.2.2.2.2.2.2.1 | exact hf.2.2.2.2.2.2.2.2.2.2.2.2.2.2.2.2.2.2.2.2.2.2.2.2.2.2.2.2.2.2.2.2.2.2.2.2.2.2.1 | exact hf.2.2.2.2.2.2.2.2.2.2.2.2.2.2.2.2.2.2.2.2.2.2.2.2.2.2.2.2.2.2.2.2.2.2.2.2.2.2.2.1 | exact hf.1.1 | exact hf.1.2 | exact hf.2.1.1 | exact hf.2.1.2 | exact hf.2.2.1.1 | exact hf.2.2.1.2 | exact hf.2.2.2.1.1 | exact hf.2.2.2.1.2 | exact hf.2.2.2.2.1.1 | exact hf.2.2.2.2.1.2 | exact hf.2.2.2.2.2.1.1 | exact hf.2.2.2.2.2.1.2 | exact hf.2.2.2.2.2.2.1.1 | exact hf.2.2.2.2.2.2.1.2 | exact hf.2.2.2.2.2.2.2.1.1 | exact hf.2.2.2.2.2.2.2.1.2 | exact hf.2.2.2.2.2.2.2.2.1.1 | exact hf.2.2.2.2.2.2.2.2.1.2 | exact hf.2.2.2.2.2.2.2.2.2.1.1 | exact hf.2.2.2.2.2.2.2.2.2.1.2 | exact hf.2.2.2.2.2.2.2.2.2.2.1.1 | exact hf.2.2.2.2.2.2.2.2.2.2.1.2 | exact hf.2.2.2.2.2.2.2.2.2.2.2.1.1 | exact hf.2.2.2.2.2.2.2.2.2.2.2.1.2 | exact hf.2.2.2.2.2.2.2.2.2.2.2.2.1.1 | exact hf.2.2.2.2.2.2.2.2.2.2.2.2.1.2 | exact hf.2.2.2.2.2.2.2.2.2.2.2.2.2.1.1 | exact hf.2.2.2.2.2.2.2.2.2.2.2.2.2.1.2 | exact hf.2.2.2.2.2.2.2.2.2.2.2.2.2.2.1.1 | exact hf.2.2.2.2.2.2.2.2.2.2.2.2.2.2.1.2 | exact hf.2.2.2.2.2.2.2.2.2.2.2.2.2.2.2.1.1 | exact hf.2.2.2.2.2.2.2.2.2.2.2.2.2.2.2.1.2 | exact hf.2.2.2.2.2.2.2.2.2.2.2.2.2.2.2.2.1.1 | exact hf.2.2.2.2.2.2.2.2.2.2.2.2.2.2.2.2.1.2 | exact hf.2.2.2.2.2.2.2.2.2.2.2.2.2.2.2.2.2.1.1 | exact hf.2.2.2.2.2.2.2.2.2.2.2.2.2.2.2.2.2.1.2 | exact hf.2.2.2.2.2.2.2.2.2.2.2.2.2.2.2.2.2.2.1.1 | exact hf.2.2.2.2.2.2.2.2.2.2.2.2.2.2.2.2.2.2.1.2 | exact hf.2.2.2.2.2.2.2.2.2.2.2.2.2.2.2.2.2.2.2.1.1 | exact hf.2.2.2.2.2.2.2.2.2.2.2.2.2.2.2.2.2.2.2.1.2 | exact hf.2.2.2.2.2.2.2.2.2.2.2.2.2.2.2.2.2.2.2.2.1.1 | exact hf.2.2.2.2.2.2.2.2.2.2.2.2.2.2.2.2.2.2.2.2.1.2 | exact hf.2.2.2.2.2.2.2.2.2.2.2.2.2.2.2.2.2.2.2.2.2.1.1 | exact hf.2.2.2.2.2.2.2.2.2.2.2.2.2.2.2.2.2.2.2.2.2.1.2 | exact hf.2.2.2.2.2.2.2.2.2.2.2.2.2.2.2.2.2.2.2.2.2.2.1.1 | exact hf.2.2.2.2.2.2.2.2.2.2.2.2.2.2.2.2.2.2.2.2.2.2.1.2 | exact hf.2.2.2.2.2.2.2.2.2.2.2.2.2.2.2.2.2.2.2.2.2.2.2.1.1 | exact hf.2.2.2.2.2.2.2.2.2.2.2.2.2.2.2.2.2.2.2.2.2.2.2.1.2 | exact hf.2.2.2.2.2.2.2.2.2.2.2.2.2.2.2.2.2.2.2.2.2.2.2.2.1.1 | exact hf.2.2.2.2.2.2.2.2.2.2.2.2.2.2.2.2.2.2.2.2.2.2.2.2.1.2 | exact hf.2.2.2.2.2.2.2.2.2.2.2.2.2.2.2.2.2.2.2.2.2.2.2.2.2.1.1 | exact hf.2.2.2.2.2.2.2.2.2.2.2.2.2.2.2.2.2.2.2.2.2.2.2.2.2.1.2 | exact hf.2.2.2.2.2.2.2.2.2.2.2.2.2.2.2.2.2.2.2.2.2.2.2.2.2.2.1.1 | exact hf.2.2.2.2.2.2.2.2.2.2.2.2.2.2.2.2.2.2.2.2.2.2.2.2.2.2.1.2 | exact hf.2.2.2.2.2.2.2.2.2.2.2.2.2.2.2.2.2.2.2.2.2.2.2.2.2.2.2.1.1 | exact hf.2.2.2.2.2.2.2.2.2.2.2.2.2.2.2.2.2.2.2.2.2.2.2.2.2.2.2.1.2 | exact hf.2.2.2.2.2.2.2.2.2.2.2.2.2.2.2.2.2.2.2.2.2.2.2.2.2.2.2.2.1.1 | exact hf.2.2.2.2.2.2.2.2.2.2.2.2.2.2.2.2.2.2.2.2.2.2.2.2.2.2.2.2.1.2 | exact hf.2.2.2.2.2.2.2.2.2.2.2.2.2.2.2.2.2.2.2.2.2.2.2.2.2.2.2.2.2.1.1 | exact hf.2.2.2.2.2.2.2.2.2.2.2.2.2.2.2.2.2.2.2.2.2.2.2.2.2.2.2.2.2.1.2 | exact hf.2.2.2.2.2.2.2.2.2.2.2.2.2.2.2.2.2.2.2.2.2.2.2.2.2.2.2.2.2.2.1.1 | exact hf.2.2.2.2.2.2.2.2.2.2.2.2.2.2.2.2.2.2.2.2.2.2.2.2.2.2.2.2.2.2.1.2 | exact hf.2.2.2.2.2.2.2.2.2.2.2.2.2.2.2.2.2.2.2.2.2.2.2.2.2.2.2.2.2.2.2.1.1 | exact hf.2.2.2.2.2.2.2.2.2.2.2.2.2.2.2.2.2.2.2.2.2.2.2.2.2.2.2.2.2.2.2.1.2 | exact hf.2.2.2.2.2.2.2.2.2.2.2.2.2.2.2.2.2.2.2.2.2.2.2.2.2.2.2.2.2.2.2.2.1.1 | exact hf.2.2.2.2.2.2.2.2.2.2.2.2.2.2.2.2.2.2.2.2.2.2.2.2.2.2.2.2.2.2.2.2.1.2 | exact hf.2.2.2.2.2.2.2.2.2.2.2.2.2.2.2.2.2.2.2.2.2.2.2.2.2.2.2.2.2.2.2.2.2.1.1 | exact hf.2.2.2.2.2.2.2.2.2.2.2.2.2.2.2.2.2.2.2.2.2.2.2.2.2.2.2.2.2.2.2.2.2.1.2 | exact hf.2.2.2.2.2.2.2.2.2.2.2.2.2.2.2.2.2.2.2.2.2.2.2.2.2.2.2.2.2.2.2.2.2.2.1.1 | exact hf.2.2.2.2.2.2.2.2.2.2.2.2.2.2.2.2.2.2.2.2.2.2.2.2.2.2.2.2.2.2.2.2.2.2.1.2 | exact hf.2.2.2.2.2.2.2.2.2.2.2.2.2.2.2.2.2.2.2.2.2.2.2.2.2.2.2.2.2.2.2.2.2.2.2.1.1 | exact hf.2.2.2.2.2.2.2.2.2.2.2.2.2.2.2.2.2.2.2.2.2.2.2.2.2.2.2.2.2.2.2.2.2.2.2.1.2 | exact hf.2.2.2.2.2.2.2.2.2.2.2.2.2.2.2.2.2.2.2.2.2.2.2.2.2.2.2.2.2.2.2.2.2.2.2.2.1.1 | exact hf.2.2.2.2.2.2.2.2.2.2.2.2.2.2.2.2.2.2.2.2.2.2.2.2.2.2.2.2.2.2.2.2.2.2.2.2.1.2 | exact hf.2.2.2.2.2.2.2.2.2.2.2.2.2.2.2.2.2.2.2.2.2.2.2.2.2.2.2.2.2.2.2.2.2.2.2.2.2.1.1 | exact hf.2.2.2.2.2.2.2.2.2.2.2.2.2.2.2.2.2.2.2.2.2.2.2.2.2.2.2.2.2.2.2.2.2.2.2.2.2.1.2 | exact hf.2.2.2.2.2.2.2.2.2.2.2.2.2.2.2.2.2.2.2.2.2.2.2.2.2.2.2.2.2.2.2.2.2.2.2.2.2.2.1.1 | exact hf.2.2.2.2.2.2.2.2.2.2.2.2.2.2.2.2.2.2.2.2.2.2.2.2.2.2.2.2.2.2.2.2.2.2.2.2.2.2.1.2 | exact hf.2.2.2.2.2.2.2.2.2.2.2.2.2.2.2.2.2.2.2.2.2.2.2.2.2.2.2.2.2.2.2.2.2.2.2.2.2.2.2.1.1 | exact hf.2.2.2.2.2.2.2.2.2.2.2.2.2.2.2.2.2.2.2.2.2.2.2.2.2.2.2.2.2.2.2.2.2.2.2.2.2.2.2.1.2))
theorem lHolds_o2:lHolds_ob 2 lHolds_L2:=by
 intro kv iv0 bv0 hin hF iv bv ha hi
 unfold lHolds_L2
 refine List.forall_mem_cons.2 ⟨?_,List.forall_mem_cons.2 ⟨?_,List.forall_mem_cons.2 ⟨?_,List.forall_mem_cons.2 ⟨?_,List.forall_mem_cons.2 ⟨?_,List.forall_mem_cons.2 ⟨?_,List.forall_mem_cons.2 ⟨?_,List.forall_mem_cons.2 ⟨?_,List.forall_mem_cons.2 ⟨?_,List.forall_mem_cons.2 ⟨?_,List.forall_mem_cons.2 ⟨?_,List.forall_mem_cons.2 ⟨?_,List.forall_mem_cons.2 ⟨?_,List.forall_mem_cons.2 ⟨?_,List.forall_mem_cons.2 ⟨?_,List.forall_mem_cons.2 ⟨?_,List.forall_mem_cons.2 ⟨?_,List.forall_mem_cons.2 ⟨?_,List.forall_mem_cons.2 ⟨?_,List.forall_mem_cons.2 ⟨?_,List.forall_mem_cons.2 ⟨?_,List.forall_mem_cons.2 ⟨?_,List.forall_mem_cons.2 ⟨?_,List.forall_mem_cons.2 ⟨?_,List.forall_mem_cons.2 ⟨?_,List.forall_mem_cons.2 ⟨?_,List.forall_mem_cons.2 ⟨?_,List.forall_mem_cons.2 ⟨?_,List.forall_mem_cons.2 ⟨?_,List.forall_mem_cons.2 ⟨?_,List.forall_mem_cons.2 ⟨?_,List.forall_mem_cons.2 ⟨?_,List.forall_mem_cons.2 ⟨?_,List.forall_mem_cons.2 ⟨?_,List.forall_mem_cons.2 ⟨?_,List.forall_mem_cons.2 ⟨?_,List.forall_mem_cons.2 ⟨?_,List.forall_mem_cons.2 ⟨?_,List.forall_mem_cons.2 ⟨?_,List.forall_mem_cons.2 ⟨?_,List.forall_mem_cons.2 ⟨?_,List.forall_mem_cons.2 ⟨?_,List.forall_mem_cons.2 ⟨?_,List.forall_mem_cons.2 ⟨?_,List.forall_mem_cons.2 ⟨?_,List.forall_mem_cons.2 ⟨?_,List.forall_mem_cons.2 ⟨?_,List.forall_mem_cons.2 ⟨?_,List.forall_mem_cons.2 ⟨?_,List.forall_mem_cons.2 ⟨?_,List.forall_mem_cons.2 ⟨?_,List.forall_mem_cons.2 ⟨?_,List.forall_mem_cons.2 ⟨?_,List.forall_mem_cons.2 ⟨?_,List.forall_mem_cons.2 ⟨?_,List.forall_mem_cons.2 ⟨?_,List.forall_mem_cons.2 ⟨?_,List.forall_mem_cons.2 ⟨?_,List.forall_mem_cons.2 ⟨?_,List.forall_mem_cons.2 ⟨?_,List.forall_mem_cons.2 ⟨?_,List.forall_mem_cons.2 ⟨?_,List.forall_mem_cons.2 ⟨?_,List.forall_mem_cons.2 ⟨?_,List.forall_mem_cons.2 ⟨?_,List.forall_mem_cons.2 ⟨?_,List.forall_mem_cons.2 ⟨?_,List.forall_mem_cons.2 ⟨?_,List.forall_mem_cons.2 ⟨?_,List.forall_mem_cons.2 ⟨?_,List.forall_mem_cons.2 ⟨?_,List.forall_mem_cons.2 ⟨?_,List.forall_mem_cons.2 ⟨?_,List.forall_mem_cons.2 ⟨?_,List.forall_mem_cons.2 ⟨?_,List.forall_mem_cons.2 ⟨?_,List.forall_mem_cons.2 ⟨?_,List.forall_mem_cons.2 ⟨?_,List.forall_mem_cons.2 ⟨?_,List.forall_mem_cons.2 ⟨?_,List.forall_mem_cons.2 ⟨?_,List.forall_mem_cons.2 ⟨?_,List.forall_mem_cons.2 ⟨?_,List.forall_mem_cons.2 ⟨?_,List.forall_mem_cons.2 ⟨?_,List.forall_mem_cons.2 ⟨?_,List.forall_mem_cons.2 ⟨?_,List.forall_mem_cons.2 ⟨?_,List.forall_mem_nil _⟩⟩⟩⟩⟩⟩⟩⟩⟩⟩⟩⟩⟩⟩⟩⟩⟩⟩⟩⟩⟩⟩⟩⟩⟩⟩⟩⟩⟩⟩⟩⟩⟩⟩⟩⟩⟩⟩⟩⟩⟩⟩⟩⟩⟩⟩⟩⟩⟩⟩⟩⟩⟩⟩⟩⟩⟩⟩⟩⟩⟩⟩⟩⟩⟩⟩⟩⟩⟩⟩⟩⟩⟩⟩⟩⟩⟩⟩⟩⟩⟩⟩⟩⟩⟩⟩⟩⟩
 all_goals
  intro δ hf
 all_goals
  obtain ⟨b4,b1,b2⟩:=lHolds_b hin
 all_goals
  have a0:=ha.1 0 (by omega)
  have a1:=ha.1 1 (by omega)
  have a2:=ha.1 2 (by omega)
  have a3:=ha.1 3 (by omega)
  have a4:=ha.1 4 (by omega)
 all_goals
  simp only [FT,TP,SB.tp,SI.tv,sta,IB.eval,and_true,true_and,ObsT,Ob.Tv,rowT,kix,In.tiv,↓tbvT,In.tbv,get_cons,get_nil,reduceIte,Nat.reduceEqDiff,Int.reduceToNat,Int.reduceAdd,Int.reduceSub,Int.reduceLE,Int.reduceLT,Int.reduceEq,ne_eq,Bool.false_eq_true,not_true_eq_false,not_false_eq_true,true_iff,false_iff,iff_true,iff_false,false_implies,implies_true,decT,decide_true,decide_false,Bool.decide_eq_true,ap2,pb2,FI_3,FI_3u,FI_8,FI_9,FI_3g,FI_3k,FI_8s,FI_8l,FI_8d,FB_1h,FB_1a,Int.toNat_natCast,Int.toNat_zero,FI_20,FI_21,FI_22,FI_23,FI_24,FB_20,FB_21,FB_22,FB_23,FB_24,lHolds_inv,lHolds_mu,lHolds,o1,othT,kS,slV,mayV,i64s,i64b,lmap,lS,gS,bS,fS,bdS,shV,o1,frS,stS,chS,mAS,usS,acS,erS,chE,gS2,lS2,bS2,fS2,sAcq,laS,lwS,lcS,kI1,nwB,oLat,rgB,clS,grB,rwS,erG,okG,bG,zrS,erE,okE,tkB,sEnd,slW,eq8,myF,kA,gA,bZ,sCan,sRel,a0,a1,a2,a3,a4] at hf hi ⊢
 all_goals
  obtain ⟨g0,g1,g2,g3,g4,g5,hok,hok2,hS⟩:=hi
 all_goals
  have u1:=fun h=>use_in hok (j:=(iv 38).toNat) h
 all_goals
  have u2:=fun h=>use_in hok2 (j:=(iv 38).toNat) h
 all_goals
  have hs:=fun h=>hS (iv 38).toNat h
 all_goals
  have w1:((iv 38).toNat:Int) < iv0 4→IntKind.i64.wrap (fl (iv 33) (iv 38).toNat 0+1)=fl (iv 33) (iv 38).toNat 0+1:=fun h=>w64_eq (by have:=u1 h;unfold in64;omega)
 all_goals
  have w2:((iv 38).toNat:Int) < iv0 4→IntKind.i64.wrap (fl (iv 33) (iv 38).toNat 0+-1)=fl (iv 33) (iv 38).toNat 0+-1:=fun h=>w64_eq (by have:=u1 h;unfold in64;omega)
 all_goals
  have w3:((iv 38).toNat:Int) < iv0 4→IntKind.i64.wrap (fl (iv 35) (iv 38).toNat 0+-1)=fl (iv 35) (iv 38).toNat 0+-1:=fun h=>w64_eq (by have:=u2 h;unfold in64;omega)
 all_goals
  (repeat' (with_reducible apply And.intro))<;>first
  | omega
  | assumption
  | (unfold inM;omega)
  | exact trivial
  | (have q:((iv 38).toNat:Int) < iv0 4:=(by omega);have q1:=hs q;have q2:=w1 q;have q3:=w2 q;have q4:=w3 q;have q5:=u1 q;have q6:=u2 q;unfold stp at q1;clear hin hF ha u1 u2 hs w1 w2 w3 hS hok hok2;grind)
theorem lHolds_c:LsC ((tm0 lHolds Tryz.f5 (Tryz.f5.body.getD .skip))::[lHolds_T1,lHolds_T2]) lHolds.os [lHolds_L0,lHolds_L1,lHolds_L2]:=by
 unfold lHolds_L0 lHolds_L1 lHolds_L2
 exact ⟨List.forall_mem_cons.2 ⟨⟨⟨_,rfl,rfl⟩,by kernel_rfl⟩,List.forall_mem_cons.2 ⟨⟨⟨_,rfl,rfl⟩,by kernel_rfl⟩,List.forall_mem_cons.2 ⟨⟨⟨_,rfl,rfl⟩,by kernel_rfl⟩,List.forall_mem_cons.2 ⟨⟨⟨_,rfl,rfl⟩,by kernel_rfl⟩,List.forall_mem_nil _⟩⟩⟩⟩,List.forall_mem_cons.2 ⟨⟨⟨_,rfl,rfl⟩,by kernel_rfl⟩,List.forall_mem_cons.2 ⟨⟨⟨_,rfl,rfl⟩,by kernel_rfl⟩,List.forall_mem_cons.2 ⟨⟨⟨_,rfl,rfl⟩,by kernel_rfl⟩,List.forall_mem_cons.2 ⟨⟨⟨_,rfl,rfl⟩,by kernel_rfl⟩,List.forall_mem_cons.2 ⟨⟨⟨_,rfl,rfl⟩,by kernel_rfl⟩,List.forall_mem_cons.2 ⟨⟨⟨_,rfl,rfl⟩,by kernel_rfl⟩,List.forall_mem_cons.2 ⟨⟨⟨_,rfl,rfl⟩,by kernel_rfl⟩,List.forall_mem_cons.2 ⟨⟨⟨_,rfl,rfl⟩,by kernel_rfl⟩,List.forall_mem_cons.2 ⟨⟨⟨_,rfl,rfl⟩,by kernel_rfl⟩,List.forall_mem_cons.2 ⟨⟨⟨_,rfl,rfl⟩,by kernel_rfl⟩,List.forall_mem_cons.2 ⟨⟨⟨_,rfl,rfl⟩,by kernel_rfl⟩,List.forall_mem_cons.2 ⟨⟨⟨_,rfl,rfl⟩,by kernel_rfl⟩,List.forall_mem_cons.2 ⟨⟨⟨_,rfl,rfl⟩,by kernel_rfl⟩,List.forall_mem_cons.2 ⟨⟨⟨_,rfl,rfl⟩,by kernel_rfl⟩,List.forall_mem_cons.2 ⟨⟨⟨_,rfl,rfl⟩,by kernel_rfl⟩,List.forall_mem_cons.2 ⟨⟨⟨_,rfl,rfl⟩,by kernel_rfl⟩,List.forall_mem_cons.2 ⟨⟨⟨_,rfl,rfl⟩,by kernel_rfl⟩,List.forall_mem_cons.2 ⟨⟨⟨_,rfl,rfl⟩,by kernel_rfl⟩,List.forall_mem_cons.2 ⟨⟨⟨_,rfl,rfl⟩,by kernel_rfl⟩,List.forall_mem_cons.2 ⟨⟨⟨_,rfl,rfl⟩,by kernel_rfl⟩,List.forall_mem_cons.2 ⟨⟨⟨_,rfl,rfl⟩,by kernel_rfl⟩,List.forall_mem_cons.2 ⟨⟨⟨_,rfl,rfl⟩,by kernel_rfl⟩,List.forall_mem_cons.2 ⟨⟨⟨_,rfl,rfl⟩,by kernel_rfl⟩,List.forall_mem_cons.2 ⟨⟨⟨_,rfl,rfl⟩,by kernel_rfl⟩,List.forall_mem_cons.2 ⟨⟨⟨_,rfl,rfl⟩,by kernel_rfl⟩,List.forall_mem_cons.2 ⟨⟨⟨_,rfl,rfl⟩,by kernel_rfl⟩,List.forall_mem_cons.2 ⟨⟨⟨_,rfl,rfl⟩,by kernel_rfl⟩,List.forall_mem_cons.2 ⟨⟨⟨_,rfl,rfl⟩,by kernel_rfl⟩,List.forall_mem_cons.2 ⟨⟨⟨_,rfl,rfl⟩,by kernel_rfl⟩,List.forall_mem_cons.2 ⟨⟨⟨_,rfl,rfl⟩,by kernel_rfl⟩,List.forall_mem_cons.2 ⟨⟨⟨_,rfl,rfl⟩,by kernel_rfl⟩,List.forall_mem_cons.2 ⟨⟨⟨_,rfl,rfl⟩,by kernel_rfl⟩,List.forall_mem_cons.2 ⟨⟨⟨_,rfl,rfl⟩,by kernel_rfl⟩,List.forall_mem_cons.2 ⟨⟨⟨_,rfl,rfl⟩,by kernel_rfl⟩,List.forall_mem_cons.2 ⟨⟨⟨_,rfl,rfl⟩,by kernel_rfl⟩,List.forall_mem_cons.2 ⟨⟨⟨_,rfl,rfl⟩,by kernel_rfl⟩,List.forall_mem_cons.2 ⟨⟨⟨_,rfl,rfl⟩,by kernel_rfl⟩,List.forall_mem_cons.2 ⟨⟨⟨_,rfl,rfl⟩,by kernel_rfl⟩,List.forall_mem_cons.2 ⟨⟨⟨_,rfl,rfl⟩,by kernel_rfl⟩,List.forall_mem_nil _⟩⟩⟩⟩⟩⟩⟩⟩⟩⟩⟩⟩⟩⟩⟩⟩⟩⟩⟩⟩⟩⟩⟩⟩⟩⟩⟩⟩⟩⟩⟩⟩⟩⟩⟩⟩⟩⟩⟩,List.forall_mem_cons.2 ⟨⟨⟨_,rfl,rfl⟩,by kernel_rfl⟩,List.forall_mem_cons.2 ⟨⟨⟨_,rfl,rfl⟩,by kernel_rfl⟩,List.forall_mem_cons.2 ⟨⟨⟨_,rfl,rfl⟩,by kernel_rfl⟩,List.forall_mem_cons.2 ⟨⟨⟨_,rfl,rfl⟩,by kernel_rfl⟩,List.forall_mem_cons.2 ⟨⟨⟨_,rfl,rfl⟩,by kernel_rfl⟩,List.forall_mem_cons.2 ⟨⟨⟨_,rfl,rfl⟩,by kernel_rfl⟩,List.forall_mem_cons.2 ⟨⟨⟨_,rfl,rfl⟩,by kernel_rfl⟩,List.forall_mem_cons.2 ⟨⟨⟨_,rfl,rfl⟩,by kernel_rfl⟩,List.forall_mem_cons.2 ⟨⟨⟨_,rfl,rfl⟩,by kernel_rfl⟩,List.forall_mem_cons.2 ⟨⟨⟨_,rfl,rfl⟩,by kernel_rfl⟩,List.forall_mem_cons.2 ⟨⟨⟨_,rfl,rfl⟩,by kernel_rfl⟩,List.forall_mem_cons.2 ⟨⟨⟨_,rfl,rfl⟩,by kernel_rfl⟩,List.forall_mem_cons.2 ⟨⟨⟨_,rfl,rfl⟩,by kernel_rfl⟩,List.forall_mem_cons.2 ⟨⟨⟨_,rfl,rfl⟩,by kernel_rfl⟩,List.forall_mem_cons.2 ⟨⟨⟨_,rfl,rfl⟩,by kernel_rfl⟩,List.forall_mem_cons.2 ⟨⟨⟨_,rfl,rfl⟩,by kernel_rfl⟩,List.forall_mem_cons.2 ⟨⟨⟨_,rfl,rfl⟩,by kernel_rfl⟩,List.forall_mem_cons.2 ⟨⟨⟨_,rfl,rfl⟩,by kernel_rfl⟩,List.forall_mem_cons.2 ⟨⟨⟨_,rfl,rfl⟩,by kernel_rfl⟩,List.forall_mem_cons.2 ⟨⟨⟨_,rfl,rfl⟩,by kernel_rfl⟩,List.forall_mem_cons.2 ⟨⟨⟨_,rfl,rfl⟩,by kernel_rfl⟩,List.forall_mem_cons.2 ⟨⟨⟨_,rfl,rfl⟩,by kernel_rfl⟩,List.forall_mem_cons.2 ⟨⟨⟨_,rfl,rfl⟩,by kernel_rfl⟩,List.forall_mem_cons.2 ⟨⟨⟨_,rfl,rfl⟩,by kernel_rfl⟩,List.forall_mem_cons.2 ⟨⟨⟨_,rfl,rfl⟩,by kernel_rfl⟩,List.forall_mem_cons.2 ⟨⟨⟨_,rfl,rfl⟩,by kernel_rfl⟩,List.forall_mem_cons.2 ⟨⟨⟨_,rfl,rfl⟩,by kernel_rfl⟩,List.forall_mem_cons.2 ⟨⟨⟨_,rfl,rfl⟩,by kernel_rfl⟩,List.forall_mem_cons.2 ⟨⟨⟨_,rfl,rfl⟩,by kernel_rfl⟩,List.forall_mem_cons.2 ⟨⟨⟨_,rfl,rfl⟩,by kernel_rfl⟩,List.forall_mem_cons.2 ⟨⟨⟨_,rfl,rfl⟩,by kernel_rfl⟩,List.forall_mem_cons.2 ⟨⟨⟨_,rfl,rfl⟩,by kernel_rfl⟩,List.forall_mem_cons.2 ⟨⟨⟨_,rfl,rfl⟩,by kernel_rfl⟩,List.forall_mem_cons.2 ⟨⟨⟨_,rfl,rfl⟩,by kernel_rfl⟩,List.forall_mem_cons.2 ⟨⟨⟨_,rfl,rfl⟩,by kernel_rfl⟩,List.forall_mem_cons.2 ⟨⟨⟨_,rfl,rfl⟩,by kernel_rfl⟩,List.forall_mem_cons.2 ⟨⟨⟨_,rfl,rfl⟩,by kernel_rfl⟩,List.forall_mem_cons.2 ⟨⟨⟨_,rfl,rfl⟩,by kernel_rfl⟩,List.forall_mem_cons.2 ⟨⟨⟨_,rfl,rfl⟩,by kernel_rfl⟩,List.forall_mem_cons.2 ⟨⟨⟨_,rfl,rfl⟩,by kernel_rfl⟩,List.forall_mem_cons.2 ⟨⟨⟨_,rfl,rfl⟩,by kernel_rfl⟩,List.forall_mem_cons.2 ⟨⟨⟨_,rfl,rfl⟩,by kernel_rfl⟩,List.forall_mem_cons.2 ⟨⟨⟨_,rfl,rfl⟩,by kernel_rfl⟩,List.forall_mem_cons.2 ⟨⟨⟨_,rfl,rfl⟩,by kernel_rfl⟩,List.forall_mem_cons.2 ⟨⟨⟨_,rfl,rfl⟩,by kernel_rfl⟩,List.forall_mem_cons.2 ⟨⟨⟨_,rfl,rfl⟩,by kernel_rfl⟩,List.forall_mem_cons.2 ⟨⟨⟨_,rfl,rfl⟩,by kernel_rfl⟩,List.forall_mem_cons.2 ⟨⟨⟨_,rfl,rfl⟩,by kernel_rfl⟩,List.forall_mem_cons.2 ⟨⟨⟨_,rfl,rfl⟩,by kernel_rfl⟩,List.forall_mem_cons.2 ⟨⟨⟨_,rfl,rfl⟩,by kernel_rfl⟩,List.forall_mem_cons.2 ⟨⟨⟨_,rfl,rfl⟩,by kernel_rfl⟩,List.forall_mem_cons.2 ⟨⟨⟨_,rfl,rfl⟩,by kernel_rfl⟩,List.forall_mem_cons.2 ⟨⟨⟨_,rfl,rfl⟩,by kernel_rfl⟩,List.forall_mem_cons.2 ⟨⟨⟨_,rfl,rfl⟩,by kernel_rfl⟩,List.forall_mem_cons.2 ⟨⟨⟨_,rfl,rfl⟩,by kernel_rfl⟩,List.forall_mem_cons.2 ⟨⟨⟨_,rfl,rfl⟩,by kernel_rfl⟩,List.forall_mem_cons.2 ⟨⟨⟨_,rfl,rfl⟩,by kernel_rfl⟩,List.forall_mem_cons.2 ⟨⟨⟨_,rfl,rfl⟩,by kernel_rfl⟩,List.forall_mem_cons.2 ⟨⟨⟨_,rfl,rfl⟩,by kernel_rfl⟩,List.forall_mem_cons.2 ⟨⟨⟨_,rfl,rfl⟩,by kernel_rfl⟩,List.forall_mem_cons.2 ⟨⟨⟨_,rfl,rfl⟩,by kernel_rfl⟩,List.forall_mem_cons.2 ⟨⟨⟨_,rfl,rfl⟩,by kernel_rfl⟩,List.forall_mem_cons.2 ⟨⟨⟨_,rfl,rfl⟩,by kernel_rfl⟩,List.forall_mem_cons.2 ⟨⟨⟨_,rfl,rfl⟩,by kernel_rfl⟩,List.forall_mem_cons.2 ⟨⟨⟨_,rfl,rfl⟩,by kernel_rfl⟩,List.forall_mem_cons.2 ⟨⟨⟨_,rfl,rfl⟩,by kernel_rfl⟩,List.forall_mem_cons.2 ⟨⟨⟨_,rfl,rfl⟩,by kernel_rfl⟩,List.forall_mem_cons.2 ⟨⟨⟨_,rfl,rfl⟩,by kernel_rfl⟩,List.forall_mem_cons.2 ⟨⟨⟨_,rfl,rfl⟩,by kernel_rfl⟩,List.forall_mem_cons.2 ⟨⟨⟨_,rfl,rfl⟩,by kernel_rfl⟩,List.forall_mem_cons.2 ⟨⟨⟨_,rfl,rfl⟩,by kernel_rfl⟩,List.forall_mem_cons.2 ⟨⟨⟨_,rfl,rfl⟩,by kernel_rfl⟩,List.forall_mem_cons.2 ⟨⟨⟨_,rfl,rfl⟩,by kernel_rfl⟩,List.forall_mem_cons.2 ⟨⟨⟨_,rfl,rfl⟩,by kernel_rfl⟩,List.forall_mem_cons.2 ⟨⟨⟨_,rfl,rfl⟩,by kernel_rfl⟩,List.forall_mem_cons.2 ⟨⟨⟨_,rfl,rfl⟩,by kernel_rfl⟩,List.forall_mem_cons.2 ⟨⟨⟨_,rfl,rfl⟩,by kernel_rfl⟩,List.forall_mem_cons.2 ⟨⟨⟨_,rfl,rfl⟩,by kernel_rfl⟩,List.forall_mem_cons.2 ⟨⟨⟨_,rfl,rfl⟩,by kernel_rfl⟩,List.forall_mem_cons.2 ⟨⟨⟨_,rfl,rfl⟩,by kernel_rfl⟩,List.forall_mem_cons.2 ⟨⟨⟨_,rfl,rfl⟩,by kernel_rfl⟩,List.forall_mem_cons.2 ⟨⟨⟨_,rfl,rfl⟩,by kernel_rfl⟩,List.forall_mem_cons.2 ⟨⟨⟨_,rfl,rfl⟩,by kernel_rfl⟩,List.forall_mem_cons.2 ⟨⟨⟨_,rfl,rfl⟩,by kernel_rfl⟩,List.forall_mem_cons.2 ⟨⟨⟨_,rfl,rfl⟩,by kernel_rfl⟩,List.forall_mem_cons.2 ⟨⟨⟨_,rfl,rfl⟩,by kernel_rfl⟩,List.forall_mem_cons.2 ⟨⟨⟨_,rfl,rfl⟩,by kernel_rfl⟩,List.forall_mem_cons.2 ⟨⟨⟨_,rfl,rfl⟩,by kernel_rfl⟩,List.forall_mem_nil _⟩⟩⟩⟩⟩⟩⟩⟩⟩⟩⟩⟩⟩⟩⟩⟩⟩⟩⟩⟩⟩⟩⟩⟩⟩⟩⟩⟩⟩⟩⟩⟩⟩⟩⟩⟩⟩⟩⟩⟩⟩⟩⟩⟩⟩⟩⟩⟩⟩⟩⟩⟩⟩⟩⟩⟩⟩⟩⟩⟩⟩⟩⟩⟩⟩⟩⟩⟩⟩⟩⟩⟩⟩⟩⟩⟩⟩⟩⟩⟩⟩⟩⟩⟩⟩⟩⟩⟩,trivial⟩
theorem lHolds_ok:lHolds.Ok Tryz.prog FI FB:=
 Con.of_plain (body:=Tryz.f5.body.getD .skip) pok2 fiok (EntsFor.cons cWorks_ok (EntsFor.cons sMy_ok (EntsFor.cons sAcq_ok (EntsFor.cons sGrt_ok (EntsFor.cons sCan_ok (EntsFor.cons sRel_ok (EntsFor.cons sLat_ok (EntsFor.cons sChk_ok EntsFor.nil)))))))) lHolds Tryz.func5 (by kernel_rfl) 5 [lHolds_T1,lHolds_T2] (by kernel_rfl) [lHolds_L0,lHolds_L1,lHolds_L2] ⟨lHolds_h0,lHolds_h1,lHolds_h2,trivial⟩ lHolds_c
  lHolds_inv lHolds_mu (fun _ _ _=>trivial) fun kv iv0 bv0 hin hF k l iv bv hk ha hi=>match k,hk,hi with
  | 0,hk,hi=>by
    cases hk
    exact lHolds_o0 kv iv0 bv0 hin hF iv bv ha hi
  | 1,hk,hi=>by
    cases hk
    exact lHolds_o1 kv iv0 bv0 hin hF iv bv ha hi
  | 2,hk,hi=>by
    cases hk
    exact lHolds_o2 kv iv0 bv0 hin hF iv bv ha hi
  | k+3,hk,_=>by simp at hk
def lHolds0_T1:Tm:=⟨⟨5,163,[(8,(.it .i64 (.c 0))),(6,(.sl (.n 5) (.c 0) (.v 4) (.v 4))),(5,(.pt (.n 0) (.c 0))),(1,.sn)],[(.code (atC Tryz.f5 [1,1,1,1,1,0,1,0,0])),(.inLoop (atC Tryz.f5 [1,1,1,1,1,0,1,0,0])),(.inBlock 0),(.code (atC Tryz.f5 [1,1,1,1,1,1]))],[],.none⟩,[],
    ⟨[(0,(.cells [(.it .i64 (.c 1)),(.it .i64 (.c 1)),(.it .i64 (.v 4))] 23)),(5,(.arr [(.nt .i64),(.nt .i64),(.nt .i64),(.nt .i64),(.nt .i64),(.nt .i64),(.nt .i64),(.nt .u64)] (.c 0) (.v 4) 55 (.v 4)))],6,0,0,[((.lt (.c 4) (.v 4)),.false),((.lt (.v 4) (.c 1)),.false)],[0],[(4,(1,4)),(4,(1,9223372036854775807)),(4,((-9223372036854775808),9223372036854775807))]⟩,[]⟩
def lHolds0_L0:List Lf:=
 [(.fin ([((.lt (.v 4) (.c 1)),.true)]) 0 ⟨⟨[],[]⟩,[],[],[]⟩ [] []),
  (.fin ([((.lt (.c 4) (.v 4)),.true),((.lt (.v 4) (.c 1)),.false)]) 0 ⟨⟨[],[]⟩,[],[],[]⟩ [] []),
  (.cut ([((.lt (.c 4) (.v 4)),.false),((.lt (.v 4) (.c 1)),.false)]) 1 ⟨⟨[],[]⟩,[(0,0),(5,5)],[],[]⟩ [] (shT lHolds0_T1 ⟨⟨[],[]⟩,[(0,0),(5,5)],[],[]⟩))]
def lHolds0_L1:List Lf:=
 [(.fin ([((.lt (.c 4) (.v 4)),.false),((.lt (.v 4) (.c 1)),.false)]) 0 ⟨⟨[],[]⟩,[],[],[]⟩ [] [])]
def lHolds0_run (T:Tm):=(ex (ccOf Tryz.prog BF [55,53,52,54,60,59] lHolds0) ((fun cc=>[cWorks.ent cc,sMy.ent cc,sAcq.ent cc,sGrt.ent cc,sCan.ent cc,sRel.ent cc,sLat.ent cc,sChk.ent cc]) (ccOf Tryz.prog BF [55,53,52,54,60,59] lHolds0)) (dw (ccOf Tryz.prog BF [55,53,52,54,60,59] lHolds0) ((fun cc=>[cWorks.ent cc,sMy.ent cc,sAcq.ent cc,sGrt.ent cc,sCan.ent cc,sRel.ent cc,sLat.ent cc,sChk.ent cc]) (ccOf Tryz.prog BF [55,53,52,54,60,59] lHolds0)) 1000 4) (stopX [14,60,66,89,91,58,69,93,72]) 20000 T.f T.fs T.H).lfs (ccOf Tryz.prog BF [55,53,52,54,60,59] lHolds0) ((tm0 lHolds0 Tryz.f5 (Tryz.f5.body.getD .skip))::[lHolds0_T1]) lHolds0.os
theorem lHolds0_h0:lHolds0_run (tm0 lHolds0 Tryz.f5 (Tryz.f5.body.getD .skip))=some lHolds0_L0:=by kernel_rfl
theorem lHolds0_h1:lHolds0_run lHolds0_T1=some lHolds0_L1:=by kernel_rfl
def lHolds0_inv:(Nat→Int)→(Nat→Bool)→Nat→(Nat→Int)→(Nat→Bool)→Prop:=fun _ _ _ _ _=>True
def lHolds0_mu:(Nat→Int)→(Nat→Bool)→Nat→(Nat→Int)→(Nat→Bool)→Nat:=fun _ _ k _ _=>match k with | 0=>1 | _=>0
theorem lHolds0_b {iv0:Nat→Int} (hin:InB lHolds0.B iv0):((-9223372036854775808)≤iv0 4∧iv0 4≤9223372036854775807):=by
 have b4:=hin 4 (-9223372036854775808) 9223372036854775807 (by simp [lHolds0,kS,slV,mayV,i64s,i64b,lmap,lS,gS,bS,fS,bdS,shV,o1,frS,stS,chS,mAS,usS,acS,erS,chE,gS2,lS2,bS2,fS2,sAcq,laS,lwS,lcS,kI1,nwB,oLat,rgB,clS,grB,rwS,erG,okG,bG,zrS,erE,okE,tkB,sEnd,slW,eq8,myF,kA,gA,bZ,sCan,sRel])
 simp only [Int.reduceLE,reduceIte,Int.reduceNeg] at b4
 exact b4
def lHolds0_ob (k:Nat) (l:List Lf):Prop:=∀ (kv:Kv) (iv0:Nat→Int) (bv0:Nat→Bool),InB lHolds0.B iv0→FT (sta FI FB kv iv0 bv0) (dlt dyn0) lHolds0.F→∀ (iv:Nat→Int) (bv:Nat→Bool),Agr 5 iv0 bv0 iv bv→lHolds0_inv iv0 bv0 k iv bv→∀ lf∈l,LfT (sta FI FB kv) lHolds0.os (lHolds0_inv iv0 bv0) (lHolds0_mu iv0 bv0) k iv bv lf
theorem lHolds0_o0:lHolds0_ob 0 lHolds0_L0:=by
 intro kv iv0 bv0 hin hF iv bv ha hi
 unfold lHolds0_L0
 refine List.forall_mem_cons.2 ⟨?_,List.forall_mem_cons.2 ⟨?_,List.forall_mem_cons.2 ⟨?_,List.forall_mem_nil _⟩⟩⟩
 all_goals
  intro δ hf
 all_goals
  have b4:=lHolds0_b hin
 all_goals
  have a4:=ha.1 4 (by omega)
 all_goals
  simp only [FT,TP,SB.tp,SI.tv,sta,IB.eval,and_true,true_and,ObsT,Ob.Tv,rowT,kix,In.tiv,↓tbvT,In.tbv,get_cons,get_nil,reduceIte,Nat.reduceEqDiff,Int.reduceToNat,Int.reduceAdd,Int.reduceSub,Int.reduceLE,Int.reduceLT,Int.reduceEq,ne_eq,Bool.false_eq_true,not_true_eq_false,not_false_eq_true,true_iff,false_iff,iff_true,iff_false,false_implies,implies_true,decT,decide_true,decide_false,Bool.decide_eq_true,ap2,pb2,FI_3,FI_3u,FI_8,FI_9,FI_3g,FI_3k,FI_8s,FI_8l,FI_8d,FB_1h,FB_1a,Int.toNat_natCast,Int.toNat_zero,lHolds0_inv,lHolds0_mu,lHolds0,o1,othT,kS,slV,mayV,i64s,i64b,lmap,lS,gS,bS,fS,bdS,shV,o1,frS,stS,chS,mAS,usS,acS,erS,chE,gS2,lS2,bS2,fS2,sAcq,laS,lwS,lcS,kI1,nwB,oLat,rgB,clS,grB,rwS,erG,okG,bG,zrS,erE,okE,tkB,sEnd,slW,eq8,myF,kA,gA,bZ,sCan,sRel,a4] at hf hi ⊢
 all_goals
  (repeat' (with_reducible apply And.intro))<;>first
  | omega
  | assumption
  | (unfold inM;omega)
  | exact trivial
  | (clear hin hF ha;grind)
theorem lHolds0_o1:lHolds0_ob 1 lHolds0_L1:=by
 intro kv iv0 bv0 hin hF iv bv ha hi
 unfold lHolds0_L1
 refine List.forall_mem_cons.2 ⟨?_,List.forall_mem_nil _⟩
 all_goals
  intro δ hf
 all_goals
  have b4:=lHolds0_b hin
 all_goals
  have a4:=ha.1 4 (by omega)
 all_goals
  simp only [FT,TP,SB.tp,SI.tv,sta,IB.eval,and_true,true_and,ObsT,Ob.Tv,rowT,kix,In.tiv,↓tbvT,In.tbv,get_cons,get_nil,reduceIte,Nat.reduceEqDiff,Int.reduceToNat,Int.reduceAdd,Int.reduceSub,Int.reduceLE,Int.reduceLT,Int.reduceEq,ne_eq,Bool.false_eq_true,not_true_eq_false,not_false_eq_true,true_iff,false_iff,iff_true,iff_false,false_implies,implies_true,decT,decide_true,decide_false,Bool.decide_eq_true,ap2,pb2,FI_3,FI_3u,FI_8,FI_9,FI_3g,FI_3k,FI_8s,FI_8l,FI_8d,FB_1h,FB_1a,Int.toNat_natCast,Int.toNat_zero,lHolds0_inv,lHolds0_mu,lHolds0,o1,othT,kS,slV,mayV,i64s,i64b,lmap,lS,gS,bS,fS,bdS,shV,o1,frS,stS,chS,mAS,usS,acS,erS,chE,gS2,lS2,bS2,fS2,sAcq,laS,lwS,lcS,kI1,nwB,oLat,rgB,clS,grB,rwS,erG,okG,bG,zrS,erE,okE,tkB,sEnd,slW,eq8,myF,kA,gA,bZ,sCan,sRel,a4] at hf hi ⊢
 all_goals
  (repeat' (with_reducible apply And.intro))<;>first
  | omega
  | assumption
  | (unfold inM;omega)
  | exact trivial
  | (clear hin hF ha;grind)
theorem lHolds0_c:LsC ((tm0 lHolds0 Tryz.f5 (Tryz.f5.body.getD .skip))::[lHolds0_T1]) lHolds0.os [lHolds0_L0,lHolds0_L1]:=by
 unfold lHolds0_L0 lHolds0_L1
 exact ⟨List.forall_mem_cons.2 ⟨⟨⟨_,rfl,rfl⟩,by kernel_rfl⟩,List.forall_mem_cons.2 ⟨⟨⟨_,rfl,rfl⟩,by kernel_rfl⟩,List.forall_mem_cons.2 ⟨⟨⟨_,rfl,rfl⟩,by kernel_rfl⟩,List.forall_mem_nil _⟩⟩⟩,List.forall_mem_cons.2 ⟨⟨⟨_,rfl,rfl⟩,by kernel_rfl⟩,List.forall_mem_nil _⟩,trivial⟩
theorem lHolds0_ok:lHolds0.Ok Tryz.prog FI FB:=
 Con.of_plain (body:=Tryz.f5.body.getD .skip) pok2 fiok (EntsFor.cons cWorks_ok (EntsFor.cons sMy_ok (EntsFor.cons sAcq_ok (EntsFor.cons sGrt_ok (EntsFor.cons sCan_ok (EntsFor.cons sRel_ok (EntsFor.cons sLat_ok (EntsFor.cons sChk_ok EntsFor.nil)))))))) lHolds0 Tryz.func5 (by kernel_rfl) 5 [lHolds0_T1] (by kernel_rfl) [lHolds0_L0,lHolds0_L1] ⟨lHolds0_h0,lHolds0_h1,trivial⟩ lHolds0_c
  lHolds0_inv lHolds0_mu (fun _ _ _=>trivial) fun kv iv0 bv0 hin hF k l iv bv hk ha hi=>match k,hk,hi with
  | 0,hk,hi=>by
    cases hk
    exact lHolds0_o0 kv iv0 bv0 hin hF iv bv ha hi
  | 1,hk,hi=>by
    cases hk
    exact lHolds0_o1 kv iv0 bv0 hin hF iv bv ha hi
  | k+2,hk,_=>by simp at hk
end
end Go.Sx.Sl
