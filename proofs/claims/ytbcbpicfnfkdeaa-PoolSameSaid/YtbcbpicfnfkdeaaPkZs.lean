/- The pool: PoolSame. -/
import Derived.Test.YtbcbpicfnfkdeaaPkC
import Derived.Test.YtbcbpicfnfkdeaaPkW
import Derived.Test.YtbcbpicfnfkdeaaPkPb
import Derived.Test.YtbcbpicfnfkdeaaPkSc
import Derived.Test.YtbcbpicfnfkdeaaPkSd
namespace Go.Sx.Pk
set_option linter.unusedVariables false
set_option linter.unusedSimpArgs false
set_option maxRecDepth 100000
set_option maxHeartbeats 0
noncomputable section
open Go Go.Sx Go.Proofs
def mxF (i:Nat):SB×Bool:=(.le (SI.fl (.v i)) (.c 9223372036854775807),true)
def pSame:Con:=⟨6,[0,1,2,3],[.fs 6 (.v 0),.ag [.it .i64 (.v 1),.it .i64 (.v 2),.fs 2 (.v 3)]],[],[i64b 1,i64b 2],[(.le (SI.fl (.v 0)) (.c 3518437208780),true),mxF 3],o1 (.bo (.c true)),[29,48]⟩
def pSame_T1:Tm:=⟨⟨6,105,[(8,(.it .i64 (.c 0))),(7,(.pt (.n 6) (.c 0))),(5,(.pt (.n 5) (.c 0))),(3,(.pt (.n 0) (.c 0))),(0,(.fs 6 (.v 0)))],[(.code (atC Try.f6 [1,1,1,1,1,0,1,0,0])),(.inLoop (atC Try.f6 [1,1,1,1,1,0,1,0,0])),(.inBlock 0),(.code (atC Try.f6 [1,1,1,1,1,1]))],[],.none⟩,[],
    ⟨[(0,(.cells [(.it .i64 (.v 1)),(.it .i64 (.v 2)),(.fs 2 (.v 3))] 48)),(5,(.cells [.sn,(.it .i64 (.c 4))] 59)),(6,(.cells [(.it .i64 (.c 4)),.sn] 41))],7,0,0,[((.ap 30 (.ap 8 (.ap 8 (.ap 8 (.v 0) (.ap 200 (.v 0) (.c 0) (.c 0) (.c 0) (.c 0) (.c 0)) (.c 0) (.v 1) (.c 0) (.c 0)) (.ap 200 (.v 0) (.c 0) (.c 0) (.c 0) (.c 0) (.c 0)) (.c 1) (.v 2) (.c 0) (.c 0)) (.ap 200 (.v 0) (.c 0) (.c 0) (.c 0) (.c 0) (.c 0)) (.c 2) (.v 3) (.c 0) (.c 0)) (.op .add (.ap 200 (.v 0) (.c 0) (.c 0) (.c 0) (.c 0) (.c 0)) (.c 1)) (.c 21) (.c 0) (.c 0) (.c 0)),.true),((.le (.ap 200 (.v 0) (.c 0) (.c 0) (.c 0) (.c 0) (.c 0)) (.c 3518437208780)),.true),((.le (.ap 200 (.v 3) (.c 0) (.c 0) (.c 0) (.c 0) (.c 0)) (.c 9223372036854775807)),.true)],[0],[(1,((-9223372036854775808),9223372036854775807)),(2,((-9223372036854775808),9223372036854775807))]⟩,[]⟩
def pSame_T2:Tm:=⟨⟨6,105,[(8,(.it .i64 (.v 34))),(7,(.pt (.n 6) (.c 0))),(5,(.pt (.n 5) (.c 0))),(3,(.pt (.n 0) (.c 0))),(0,(.fs 6 (.v 0)))],[(.code (atC Try.f6 [1,1,1,1,1,0,1,0,0])),(.inLoop (atC Try.f6 [1,1,1,1,1,0,1,0,0])),(.inBlock 0),(.code (atC Try.f6 [1,1,1,1,1,1]))],[],.none⟩,[],
    ⟨[(0,(.cells [(.it .i64 (.v 1)),(.it .i64 (.v 2)),(.fs 2 (.v 3))] 48)),(5,(.cells [.sn,(.it .i64 (.c 4))] 59)),(6,(.cells [(.it .i64 (.c 4)),(.fs 2 (.v 27))] 41))],7,0,0,[((.lt (.c 0) (.ap 200 (.v 0) (.c 0) (.c 0) (.c 0) (.c 0) (.c 0))),.true),((.ap 30 (.ap 8 (.ap 8 (.ap 8 (.v 0) (.ap 200 (.v 0) (.c 0) (.c 0) (.c 0) (.c 0) (.c 0)) (.c 0) (.v 1) (.c 0) (.c 0)) (.ap 200 (.v 0) (.c 0) (.c 0) (.c 0) (.c 0) (.c 0)) (.c 1) (.v 2) (.c 0) (.c 0)) (.ap 200 (.v 0) (.c 0) (.c 0) (.c 0) (.c 0) (.c 0)) (.c 2) (.v 3) (.c 0) (.c 0)) (.op .add (.ap 200 (.v 0) (.c 0) (.c 0) (.c 0) (.c 0) (.c 0)) (.c 1)) (.c 21) (.c 0) (.c 0) (.c 0)),.true),((.le (.ap 200 (.v 0) (.c 0) (.c 0) (.c 0) (.c 0) (.c 0)) (.c 3518437208780)),.true),((.le (.ap 200 (.v 3) (.c 0) (.c 0) (.c 0) (.c 0) (.c 0)) (.c 9223372036854775807)),.true)],[0],[(1,((-9223372036854775808),9223372036854775807)),(2,((-9223372036854775808),9223372036854775807)),(34,(1,0))]⟩,[34,27]⟩
def pSame_T3:Tm:=⟨⟨6,105,[(8,(.it .i64 (.v 44))),(7,(.pt (.n 6) (.c 0))),(5,(.pt (.n 5) (.c 0))),(3,(.pt (.n 0) (.c 0))),(0,(.fs 6 (.v 0)))],[(.code (atC Try.f6 [1,1,1,1,1,0,1,0,0])),(.inLoop (atC Try.f6 [1,1,1,1,1,0,1,0,0])),(.inBlock 0),(.code (atC Try.f6 [1,1,1,1,1,1]))],[],.none⟩,[],
    ⟨[(0,(.cells [(.it .i64 (.v 1)),(.it .i64 (.v 2)),(.fs 2 (.v 3))] 48)),(5,(.cells [(.sl (.n 7) (.c 0) (.v 36) (.v 37)),(.it .i64 (.c 4))] 59)),(6,(.cells [(.it .i64 (.c 4)),(.fs 2 (.v 45))] 41)),(7,(.arr [(.nt .i64),(.nt .i64),(.fs 0)] (.v 35) (.v 36) 29 (.v 37)))],8,0,0,[((.lt (.c 0) (.ap 200 (.v 0) (.c 0) (.c 0) (.c 0) (.c 0) (.c 0))),.true),((.ap 30 (.ap 8 (.ap 8 (.ap 8 (.v 0) (.ap 200 (.v 0) (.c 0) (.c 0) (.c 0) (.c 0) (.c 0)) (.c 0) (.v 1) (.c 0) (.c 0)) (.ap 200 (.v 0) (.c 0) (.c 0) (.c 0) (.c 0) (.c 0)) (.c 1) (.v 2) (.c 0) (.c 0)) (.ap 200 (.v 0) (.c 0) (.c 0) (.c 0) (.c 0) (.c 0)) (.c 2) (.v 3) (.c 0) (.c 0)) (.op .add (.ap 200 (.v 0) (.c 0) (.c 0) (.c 0) (.c 0) (.c 0)) (.c 1)) (.c 21) (.c 0) (.c 0) (.c 0)),.true),((.le (.ap 200 (.v 0) (.c 0) (.c 0) (.c 0) (.c 0) (.c 0)) (.c 3518437208780)),.true),((.le (.ap 200 (.v 3) (.c 0) (.c 0) (.c 0) (.c 0) (.c 0)) (.c 9223372036854775807)),.true),((.le (.v 36) (.v 37)),.true)],[0],[(44,((-9223372036854775808),9223372036854775807)),(36,(0,(-1))),(37,(0,(-1))),(1,((-9223372036854775808),9223372036854775807)),(2,((-9223372036854775808),9223372036854775807))]⟩,[44,45,37,35,36]⟩
def pSame_L0:List Lf:=
 let x0_:SI:=(.ap 200 (.v 0) (.c 0) (.c 0) (.c 0) (.c 0) (.c 0))
 let x1_:SI:=(.op .add x0_ (.c 1))
 let x2_:SI:=(.ap 8 (.ap 8 (.ap 8 (.v 0) x0_ (.c 0) (.v 1) (.c 0) (.c 0)) x0_ (.c 1) (.v 2) (.c 0) (.c 0)) x0_ (.c 2) (.v 3) (.c 0) (.c 0))
 let f0_:List (SB×Bool):=[((.le x1_ (.d 1)),.true),((.le x0_ (.d 0)),.true),((.le x0_ (.c 3518437208780)),.true),((.le (.ap 200 (.v 3) (.c 0) (.c 0) (.c 0) (.c 0) (.c 0)) (.c 9223372036854775807)),.true)]
 [(.cut (((.ap 30 x2_ x1_ (.c 21) (.c 0) (.c 0) (.c 0)),.true)::f0_) 1 ⟨⟨[],[]⟩,[(0,0),(5,5),(6,6)],[],[]⟩ [] (shT pSame_T1 ⟨⟨[],[]⟩,[(0,0),(5,5),(6,6)],[],[]⟩)),
  (.fin (((.ap 30 x2_ x1_ (.c 21) (.c 0) (.c 0) (.c 0)),.false)::f0_) 0 ⟨⟨[],[]⟩,[],[],[]⟩ [] [])]
def pSame_L1:List Lf:=
 let x0_:SI:=(.ap 3 (.v 0) (.c 0) (.c 0) (.c 0) (.c 0) (.c 0))
 let x1_:SI:=(.ap 22 (.c 4) (.c 0) (.v 3) (.c 0) (.c 0) (.c 0))
 let x2_:SI:=(.ap 25 (.c 4) (.c 0) (.v 3) (.c 0) (.c 0) (.c 0))
 let x3_:SI:=(.ap 8 (.v 0) (.c 0) (.c 2) (.c 0) (.c 10) (.c 0))
 let x4_:SI:=(.ap 200 (.v 0) (.c 0) (.c 0) (.c 0) (.c 0) (.c 0))
 let x5_:SI:=(.ap 200 (.c 0) (.c 0) (.c 0) (.c 0) (.c 0) (.c 0))
 let p6_:SB×Bool:=((.ap 24 (.c 0) (.c 0) (.c 0) (.c 1000) (.c 0) (.c 0)),.true)
 let p7_:SB×Bool:=((.ap 24 (.c 0) (.c 0) (.c 0) (.c 1000) (.c 0) (.c 0)),.false)
 let x8_:SI:=(.ap 9 (.c 0) (.c 0) (.v 3) (.c 0) x1_ (.c 0))
 let x9_:SI:=(.ap 22 (.c 4) (.c 0) x3_ (.c 0) (.c 0) (.c 0))
 let x10_:SI:=(.ap 200 x2_ (.c 0) (.c 0) (.c 0) (.c 0) (.c 0))
 let p11_:SB×Bool:=((.ap 29 x2_ (.c 0) x10_ x5_ (.c 0) (.c 0)),.true)
 let p12_:SB×Bool:=((.ap 29 x2_ (.c 0) x10_ x5_ (.c 0) (.c 0)),.false)
 let f0_:List (SB×Bool):=[((.ap 30 (.ap 8 (.ap 8 (.ap 8 (.v 0) x4_ (.c 0) (.v 1) (.c 0) (.c 0)) x4_ (.c 1) (.v 2) (.c 0) (.c 0)) x4_ (.c 2) (.v 3) (.c 0) (.c 0)) (.op .add x4_ (.c 1)) (.c 21) (.c 0) (.c 0) (.c 0)),.true),((.le x4_ (.c 3518437208780)),.true),((.le (.ap 200 (.v 3) (.c 0) (.c 0) (.c 0) (.c 0) (.c 0)) (.c 9223372036854775807)),.true)]
 let f1_:List (SB×Bool):=((.lt (.c 0) x4_),.true)::f0_
 let f2_:List (SB×Bool):=((.lt (.c 0) x4_),.false)::f0_
 let f3_:List (SB×Bool):=((.eq x0_ (.c 0)),.true)::f1_
 let f4_:List (SB×Bool):=((.eq (.v 1) (.c 0)),.true)::f2_
 let f5_:List (SB×Bool):=((.eq (.v 1) (.c 0)),.false)::f2_
 let f6_:List (SB×Bool):=((.eq x1_ (.c 0)),.true)::f4_
 let f7_:List (SB×Bool):=p6_::f5_
 let f8_:List (SB×Bool):=((.le x10_ (.c 4096)),.true)::f6_
 let f9_:List (SB×Bool):=((.le x1_ (.d 0)),.true)::((.eq x1_ (.c 0)),.false)::f4_
 let f10_:List (SB×Bool):=p6_::f8_
 let f11_:List (SB×Bool):=((.le x10_ (.c 4096)),.true)::f9_
 let f12_:List (SB×Bool):=((.ap 24 (.c 0) x2_ (.c 0) (.c 1000) (.c 0) (.c 0)),.true)::f10_
 let f13_:List (SB×Bool):=p6_::f11_
 let f14_:List (SB×Bool):=((.ap 26 x8_ x1_ (.c 0) (.c 0) (.c 0) (.c 0)),.true)::f13_
 let f15_:List (SB×Bool):=((.le x1_ (.c 4096)),.true)::f14_
 let f16_:List (SB×Bool):=((.ap 24 x8_ x2_ x1_ (.c 1000) (.c 0) (.c 0)),.true)::f15_
 [(let i_:In:=⟨⟨[(27,(.ap 25 (.c 4) (.c 0) x3_ (.c 0) (.c 0) (.c 0))),(34,(.c 1))],[]⟩,[(0,0),(5,5),(6,6)],[],[]⟩;.cut (((.eq x9_ (.c 0)),.true)::f3_) 2 i_ [] (shT pSame_T2 i_)),
  (let i_:In:=⟨⟨[(35,(.ap 9 (.c 0) (.c 0) x3_ (.c 0) x9_ (.c 0))),(45,(.ap 25 (.c 4) (.c 0) x3_ (.c 0) (.c 0) (.c 0))),(37,(.d 0)),(36,(.ap 22 (.c 4) (.c 0) x3_ (.c 0) (.c 0) (.c 0))),(44,(.c 1))],[]⟩,[(7,7),(0,0),(5,5),(6,6)],[],[]⟩;.cut (((.le x9_ (.d 0)),.true)::((.eq x9_ (.c 0)),.false)::f3_) 3 i_ [] (shT pSame_T3 i_)),
  (let i_:In:=⟨⟨[(27,(.c 0)),(34,(.c 1))],[]⟩,[(0,0),(5,5),(6,6)],[],[]⟩;.cut (((.eq x0_ (.c 0)),.false)::f1_) 2 i_ [] (shT pSame_T2 i_)),
  (.fin (p11_::f12_) 0 ⟨⟨[],[]⟩,[],[],[]⟩ [] []),
  (.fin (p12_::f12_) 0 ⟨⟨[],[]⟩,[],[],[]⟩ [(.eb (.c .true) (.c .false))] []),
  (.fin (((.ap 24 (.c 0) x2_ (.c 0) (.c 1000) (.c 0) (.c 0)),.false)::f10_) 0 ⟨⟨[],[]⟩,[],[],[]⟩ [(.eb (.c .true) (.c .false))] []),
  (.fin (p7_::f8_) 0 ⟨⟨[],[]⟩,[],[],[]⟩ [(.eb (.c .true) (.c .false))] []),
  (.bad (((.le x10_ (.c 4096)),.false)::f6_)),
  (.fin (p11_::f16_) 0 ⟨⟨[],[]⟩,[],[],[]⟩ [(.eb (.c .true) (.c .false))] []),
  (.fin (p12_::f16_) 0 ⟨⟨[],[]⟩,[],[],[]⟩ [] []),
  (.fin (((.ap 24 x8_ x2_ x1_ (.c 1000) (.c 0) (.c 0)),.false)::f15_) 0 ⟨⟨[],[]⟩,[],[],[]⟩ [(.eb (.c .true) (.c .false))] []),
  (.bad (((.le x1_ (.c 4096)),.false)::f14_)),
  (.bad (((.ap 26 x8_ x1_ (.c 0) (.c 0) (.c 0) (.c 0)),.false)::f13_)),
  (.fin (p7_::f11_) 0 ⟨⟨[],[]⟩,[],[],[]⟩ [(.eb (.c .true) (.c .false))] []),
  (.bad (((.le x10_ (.c 4096)),.false)::f9_)),
  (.fin (((.ap 29 (.c 0) (.c 0) x5_ x5_ (.c 0) (.c 0)),.true)::f7_) 0 ⟨⟨[],[]⟩,[],[],[]⟩ [] []),
  (.fin (((.ap 29 (.c 0) (.c 0) x5_ x5_ (.c 0) (.c 0)),.false)::f7_) 0 ⟨⟨[],[]⟩,[],[],[]⟩ [(.eb (.c .true) (.c .false))] []),
  (.fin (p7_::f5_) 0 ⟨⟨[],[]⟩,[],[],[]⟩ [(.eb (.c .true) (.c .false))] [])]
def pSame_L2:List Lf:=
 let x0_:SI:=(.op .add (.v 34) (.c 1))
 let x1_:SI:=(.ap 3 (.v 0) (.v 34) (.c 0) (.c 0) (.c 0) (.c 0))
 let x2_:SI:=(.ap 22 (.c 4) (.c 0) (.v 3) (.c 0) (.c 0) (.c 0))
 let x3_:SI:=(.ap 200 (.v 0) (.c 0) (.c 0) (.c 0) (.c 0) (.c 0))
 let x4_:SI:=(.ap 25 (.c 4) (.v 27) (.v 3) (.c 0) (.c 0) (.c 0))
 let x5_:SI:=(.ap 8 (.v 0) (.v 34) (.c 2) (.c 0) (.c 10) (.c 0))
 let x6_:SI:=(.ap 200 (.v 27) (.c 0) (.c 0) (.c 0) (.c 0) (.c 0))
 let p7_:SB×Bool:=((.ap 24 (.c 0) (.v 27) (.c 0) (.c 1000) (.c 0) (.c 0)),.true)
 let p8_:SB×Bool:=((.ap 24 (.c 0) (.v 27) (.c 0) (.c 1000) (.c 0) (.c 0)),.false)
 let x9_:SI:=(.ap 9 (.c 0) (.c 0) (.v 3) (.c 0) x2_ (.c 0))
 let x10_:SI:=(.ap 22 (.c 4) (.c 0) x5_ (.c 0) (.c 0) (.c 0))
 let x11_:SI:=(.ap 200 x4_ (.c 0) (.c 0) (.c 0) (.c 0) (.c 0))
 let p12_:SB×Bool:=((.ap 29 x4_ (.v 27) x11_ x6_ (.c 0) (.c 0)),.true)
 let p13_:SB×Bool:=((.ap 29 x4_ (.v 27) x11_ x6_ (.c 0) (.c 0)),.false)
 let f0_:List (SB×Bool):=[((.lt (.c 0) x3_),.true),((.ap 30 (.ap 8 (.ap 8 (.ap 8 (.v 0) x3_ (.c 0) (.v 1) (.c 0) (.c 0)) x3_ (.c 1) (.v 2) (.c 0) (.c 0)) x3_ (.c 2) (.v 3) (.c 0) (.c 0)) (.op .add x3_ (.c 1)) (.c 21) (.c 0) (.c 0) (.c 0)),.true),((.le x3_ (.c 3518437208780)),.true),((.le (.ap 200 (.v 3) (.c 0) (.c 0) (.c 0) (.c 0) (.c 0)) (.c 9223372036854775807)),.true)]
 let f1_:List (SB×Bool):=((.lt (.v 34) x3_),.true)::f0_
 let f2_:List (SB×Bool):=((.lt (.v 34) x3_),.false)::f0_
 let f3_:List (SB×Bool):=((.eq x6_ (.c 0)),.true)::f1_
 let f4_:List (SB×Bool):=((.eq x6_ (.c 0)),.true)::f2_
 let f5_:List (SB×Bool):=((.eq x1_ (.c 0)),.true)::f3_
 let f6_:List (SB×Bool):=((.eq (.v 1) (.c 0)),.true)::f4_
 let f7_:List (SB×Bool):=((.eq (.v 1) (.c 0)),.false)::f4_
 let f8_:List (SB×Bool):=((.eq x2_ (.c 0)),.true)::f6_
 let f9_:List (SB×Bool):=p7_::f7_
 let f10_:List (SB×Bool):=((.le x11_ (.c 4096)),.true)::f8_
 let f11_:List (SB×Bool):=((.le x2_ (.d 0)),.true)::((.eq x2_ (.c 0)),.false)::f6_
 let f12_:List (SB×Bool):=p7_::f10_
 let f13_:List (SB×Bool):=((.le x11_ (.c 4096)),.true)::f11_
 let f14_:List (SB×Bool):=((.ap 24 (.c 0) x4_ (.c 0) (.c 1000) (.c 0) (.c 0)),.true)::f12_
 let f15_:List (SB×Bool):=p7_::f13_
 let f16_:List (SB×Bool):=((.ap 26 x9_ x2_ (.c 0) (.c 0) (.c 0) (.c 0)),.true)::f15_
 let f17_:List (SB×Bool):=((.le x2_ (.c 4096)),.true)::f16_
 let f18_:List (SB×Bool):=((.ap 24 x9_ x4_ x2_ (.c 1000) (.c 0) (.c 0)),.true)::f17_
 [(let i_:In:=⟨⟨[(27,(.ap 25 (.c 4) (.v 27) x5_ (.c 0) (.c 0) (.c 0))),(34,(.wk .i64 x0_))],[]⟩,[(0,0),(5,5),(6,6)],[],[]⟩;.cut (((.eq x10_ (.c 0)),.true)::f5_) 2 i_ [(.rn (.wk .i64 x0_) 1 0)] (shT pSame_T2 i_)),
  (let i_:In:=⟨⟨[(35,(.ap 9 (.c 0) (.c 0) x5_ (.c 0) x10_ (.c 0))),(45,(.ap 25 (.c 4) (.v 27) x5_ (.c 0) (.c 0) (.c 0))),(37,(.d 0)),(36,(.ap 22 (.c 4) (.c 0) x5_ (.c 0) (.c 0) (.c 0))),(44,(.wk .i64 x0_))],[]⟩,[(7,7),(0,0),(5,5),(6,6)],[],[]⟩;.cut (((.le x10_ (.d 0)),.true)::((.eq x10_ (.c 0)),.false)::f5_) 3 i_ [] (shT pSame_T3 i_)),
  (let i_:In:=⟨⟨[(27,(.v 27)),(34,(.wk .i64 x0_))],[]⟩,[(0,0),(5,5),(6,6)],[],[]⟩;.cut (((.eq x1_ (.c 0)),.false)::f3_) 2 i_ [(.rn (.wk .i64 x0_) 1 0)] (shT pSame_T2 i_)),
  (.bad (((.eq x6_ (.c 0)),.false)::f1_)),
  (.fin (p12_::f14_) 0 ⟨⟨[],[]⟩,[],[],[]⟩ [] []),
  (.fin (p13_::f14_) 0 ⟨⟨[],[]⟩,[],[],[]⟩ [(.eb (.c .true) (.c .false))] []),
  (.fin (((.ap 24 (.c 0) x4_ (.c 0) (.c 1000) (.c 0) (.c 0)),.false)::f12_) 0 ⟨⟨[],[]⟩,[],[],[]⟩ [(.eb (.c .true) (.c .false))] []),
  (.fin (p8_::f10_) 0 ⟨⟨[],[]⟩,[],[],[]⟩ [(.eb (.c .true) (.c .false))] []),
  (.bad (((.le x11_ (.c 4096)),.false)::f8_)),
  (.fin (p12_::f18_) 0 ⟨⟨[],[]⟩,[],[],[]⟩ [(.eb (.c .true) (.c .false))] []),
  (.fin (p13_::f18_) 0 ⟨⟨[],[]⟩,[],[],[]⟩ [] []),
  (.fin (((.ap 24 x9_ x4_ x2_ (.c 1000) (.c 0) (.c 0)),.false)::f17_) 0 ⟨⟨[],[]⟩,[],[],[]⟩ [(.eb (.c .true) (.c .false))] []),
  (.bad (((.le x2_ (.c 4096)),.false)::f16_)),
  (.bad (((.ap 26 x9_ x2_ (.c 0) (.c 0) (.c 0) (.c 0)),.false)::f15_)),
  (.fin (p8_::f13_) 0 ⟨⟨[],[]⟩,[],[],[]⟩ [(.eb (.c .true) (.c .false))] []),
  (.bad (((.le x11_ (.c 4096)),.false)::f11_)),
  (.fin (((.ap 29 (.v 27) (.v 27) x6_ x6_ (.c 0) (.c 0)),.true)::f9_) 0 ⟨⟨[],[]⟩,[],[],[]⟩ [] []),
  (.fin (((.ap 29 (.v 27) (.v 27) x6_ x6_ (.c 0) (.c 0)),.false)::f9_) 0 ⟨⟨[],[]⟩,[],[],[]⟩ [(.eb (.c .true) (.c .false))] []),
  (.fin (p8_::f7_) 0 ⟨⟨[],[]⟩,[],[],[]⟩ [(.eb (.c .true) (.c .false))] []),
  (.bad (((.eq x6_ (.c 0)),.false)::f2_))]
def pSame_L3:List Lf:=
 let x0_:SI:=(.op .add (.v 36) (.c 1))
 let x1_:SI:=(.op .add (.v 44) (.c 1))
 let x2_:SI:=(.op .add (.v 36) (.c (-1)))
 let p3_:SB×Bool:=((.le (.v 36) (.d 0)),.true)
 let p4_:SB×Bool:=((.le (.v 36) (.d 1)),.true)
 let x5_:SI:=(.ap 22 (.c 4) (.c 0) (.v 3) (.c 0) (.c 0) (.c 0))
 let x6_:SI:=(.ap 3 (.v 0) (.v 44) (.c 0) (.c 0) (.c 0) (.c 0))
 let x7_:SI:=(.ap 3 (.v 0) (.v 44) (.c 1) (.c 0) (.c 0) (.c 0))
 let x8_:SI:=(.ap 200 (.v 0) (.c 0) (.c 0) (.c 0) (.c 0) (.c 0))
 let x9_:SI:=(.ap 25 (.c 4) (.v 45) (.v 3) (.c 0) (.c 0) (.c 0))
 let x10_:SI:=(.ap 22 (.c 4) (.v 36) (.v 3) (.c 0) (.c 0) (.c 0))
 let x11_:SI:=(.ap 26 (.v 45) (.v 2) (.c 0) (.c 0) (.c 0) (.c 0))
 let x12_:SI:=(.ap 27 (.v 45) (.v 2) (.c 0) (.c 0) (.c 0) (.c 0))
 let x13_:SI:=(.ap 8 (.v 0) (.v 44) (.c 2) (.c 0) (.c 10) (.c 0))
 let x14_:SI:=(.ap 200 (.v 45) (.c 0) (.c 0) (.c 0) (.c 0) (.c 0))
 let x15_:SI:=(.ap 23 (.v 35) (.v 36) (.c 0) (.c 0) (.c 0) (.c 0))
 let p16_:SB×Bool:=((.ap 26 (.v 35) (.v 36) (.c 0) (.c 0) (.c 0) (.c 0)),.true)
 let p17_:SB×Bool:=((.ap 26 (.v 35) (.v 36) (.c 0) (.c 0) (.c 0) (.c 0)),.false)
 let p18_:SB×Bool:=((.ap 24 (.v 35) (.v 45) (.v 36) (.c 1000) (.c 0) (.c 0)),.true)
 let p19_:SB×Bool:=((.ap 24 (.v 35) (.v 45) (.v 36) (.c 1000) (.c 0) (.c 0)),.false)
 let x20_:SI:=(.op .add (.v 36) x10_)
 let x21_:SI:=(.ap 9 (.c 0) (.c 0) (.v 3) (.c 0) x5_ (.c 0))
 let x22_:SI:=(.ap 200 x9_ (.c 0) (.c 0) (.c 0) (.c 0) (.c 0))
 let x23_:SI:=(.ap 200 x11_ (.c 0) (.c 0) (.c 0) (.c 0) (.c 0))
 let x24_:SI:=(.ap 200 x12_ (.c 0) (.c 0) (.c 0) (.c 0) (.c 0))
 let x25_:SI:=(.ap 22 (.c 4) (.v 36) x13_ (.c 0) (.c 0) (.c 0))
 let p26_:SB×Bool:=((.ap 29 x15_ (.v 35) (.v 36) (.v 36) (.c 0) (.c 0)),.true)
 let p27_:SB×Bool:=((.ap 29 (.v 35) x15_ (.v 36) (.v 36) (.c 0) (.c 0)),.true)
 let p28_:SB×Bool:=((.ap 29 x15_ (.v 35) (.v 36) (.v 36) (.c 0) (.c 0)),.false)
 let p29_:SB×Bool:=((.ap 29 (.v 35) x15_ (.v 36) (.v 36) (.c 0) (.c 0)),.false)
 let p30_:SB×Bool:=((.ap 24 x15_ (.v 45) (.v 36) (.c 1000) (.c 0) (.c 0)),.true)
 let p31_:SB×Bool:=((.ap 24 x15_ (.v 45) (.v 36) (.c 1000) (.c 0) (.c 0)),.false)
 let p32_:SB×Bool:=((.le x22_ (.c 4096)),.true)
 let p33_:SB×Bool:=((.le x22_ (.c 4096)),.false)
 let x34_:SI:=(.ap 9 x15_ (.v 36) (.v 3) (.c 0) x10_ (.c 0))
 let x35_:SI:=(.ap 9 x15_ (.v 36) x15_ (.v 2) (.c 1) (.c 0))
 let p36_:SB×Bool:=((.ap 29 (.v 45) (.v 45) x14_ x14_ (.c 0) (.c 0)),.true)
 let p37_:SB×Bool:=((.ap 29 (.v 45) (.v 45) x14_ x14_ (.c 0) (.c 0)),.false)
 let p38_:SB×Bool:=((.ap 29 (.v 35) x21_ (.v 36) x5_ (.c 0) (.c 0)),.true)
 let p39_:SB×Bool:=((.ap 29 (.v 35) x21_ (.v 36) x5_ (.c 0) (.c 0)),.false)
 let p40_:SB×Bool:=((.ap 29 (.v 35) x35_ (.v 36) x0_ (.c 0) (.c 0)),.true)
 let p41_:SB×Bool:=((.ap 29 (.v 35) x35_ (.v 36) x0_ (.c 0) (.c 0)),.false)
 let x42_:SI:=(.ap 9 x15_ (.v 2) x15_ (.op .add (.v 2) (.c 1)) (.op .add (.op .add (.v 36) (.op .mul (.v 2) (.c (-1)))) (.c (-1))) (.c 0))
 let p43_:SB×Bool:=((.ap 29 x9_ (.v 45) x22_ x14_ (.c 0) (.c 0)),.true)
 let p44_:SB×Bool:=((.ap 29 x11_ (.v 45) x23_ x14_ (.c 0) (.c 0)),.true)
 let p45_:SB×Bool:=((.ap 29 x12_ (.v 45) x24_ x14_ (.c 0) (.c 0)),.true)
 let p46_:SB×Bool:=((.ap 29 x9_ (.v 45) x22_ x14_ (.c 0) (.c 0)),.false)
 let p47_:SB×Bool:=((.ap 29 x11_ (.v 45) x23_ x14_ (.c 0) (.c 0)),.false)
 let p48_:SB×Bool:=((.ap 29 x12_ (.v 45) x24_ x14_ (.c 0) (.c 0)),.false)
 let p49_:SB×Bool:=((.ap 29 (.v 35) x34_ (.v 36) x20_ (.c 0) (.c 0)),.true)
 let p50_:SB×Bool:=((.ap 29 (.v 35) x34_ (.v 36) x20_ (.c 0) (.c 0)),.false)
 let p51_:SB×Bool:=((.ap 29 (.v 35) x42_ (.v 36) x2_ (.c 0) (.c 0)),.true)
 let p52_:SB×Bool:=((.ap 29 (.v 35) x42_ (.v 36) x2_ (.c 0) (.c 0)),.false)
 let f0_:List (SB×Bool):=[((.lt (.c 0) x8_),.true),((.ap 30 (.ap 8 (.ap 8 (.ap 8 (.v 0) x8_ (.c 0) (.v 1) (.c 0) (.c 0)) x8_ (.c 1) (.v 2) (.c 0) (.c 0)) x8_ (.c 2) (.v 3) (.c 0) (.c 0)) (.op .add x8_ (.c 1)) (.c 21) (.c 0) (.c 0) (.c 0)),.true),((.le x8_ (.c 3518437208780)),.true),((.le (.ap 200 (.v 3) (.c 0) (.c 0) (.c 0) (.c 0) (.c 0)) (.c 9223372036854775807)),.true),((.le (.v 36) (.v 37)),.true)]
 let f1_:List (SB×Bool):=((.lt (.v 44) x8_),.true)::f0_
 let f2_:List (SB×Bool):=((.lt (.v 44) x8_),.false)::f0_
 let f3_:List (SB×Bool):=((.le (.c 0) (.v 44)),.true)::f1_
 let f4_:List (SB×Bool):=p16_::f2_
 let f5_:List (SB×Bool):=((.ap 27 (.v 35) (.v 36) (.v 45) (.c 0) (.c 0) (.c 0)),.true)::f3_
 let f6_:List (SB×Bool):=((.le (.v 36) (.c 4096)),.true)::f4_
 let f7_:List (SB×Bool):=((.ap 28 (.v 35) (.v 36) (.c 4) (.c 0) (.c 0) (.c 0)),.true)::f5_
 let f8_:List (SB×Bool):=((.eq (.v 36) (.c 0)),.true)::f6_
 let f9_:List (SB×Bool):=p16_::f7_
 let f10_:List (SB×Bool):=((.eq x14_ (.c 0)),.true)::f8_
 let f11_:List (SB×Bool):=p3_::((.eq (.v 36) (.c 0)),.false)::f6_
 let f12_:List (SB×Bool):=((.eq (.v 36) x14_),.true)::f9_
 let f13_:List (SB×Bool):=((.eq (.v 1) (.c 0)),.true)::f10_
 let f14_:List (SB×Bool):=((.eq (.v 1) (.c 0)),.false)::f10_
 let f15_:List (SB×Bool):=((.ap 27 x15_ (.v 36) (.v 45) (.c 0) (.c 0) (.c 0)),.true)::f11_
 let f16_:List (SB×Bool):=((.le x14_ (.c 4096)),.true)::f12_
 let f17_:List (SB×Bool):=((.eq x5_ (.c 0)),.true)::f13_
 let f18_:List (SB×Bool):=p18_::f14_
 let f19_:List (SB×Bool):=((.ap 28 x15_ (.v 36) (.c 4) (.c 0) (.c 0) (.c 0)),.true)::f15_
 let f20_:List (SB×Bool):=((.eq x6_ (.c 0)),.false)::f16_
 let f21_:List (SB×Bool):=p32_::f17_
 let f22_:List (SB×Bool):=((.le x5_ (.d 0)),.true)::((.eq x5_ (.c 0)),.false)::f13_
 let f23_:List (SB×Bool):=((.ap 24 (.c 0) (.v 45) (.c 0) (.c 1000) (.c 0) (.c 0)),.true)::f18_
 let f24_:List (SB×Bool):=((.ap 26 x15_ (.v 36) (.c 0) (.c 0) (.c 0) (.c 0)),.true)::f19_
 let f25_:List (SB×Bool):=((.eq x6_ (.c 1)),.true)::f20_
 let f26_:List (SB×Bool):=((.eq x6_ (.c 1)),.false)::f20_
 let f27_:List (SB×Bool):=p18_::f21_
 let f28_:List (SB×Bool):=p32_::f22_
 let f29_:List (SB×Bool):=((.eq (.v 36) x14_),.true)::f24_
 let f30_:List (SB×Bool):=((.le (.c 0) x7_),.true)::f25_
 let f31_:List (SB×Bool):=((.eq x6_ (.c 2)),.true)::f26_
 let f32_:List (SB×Bool):=((.ap 24 (.c 0) x9_ (.c 0) (.c 1000) (.c 0) (.c 0)),.true)::f27_
 let f33_:List (SB×Bool):=p18_::f28_
 let f34_:List (SB×Bool):=((.eq (.v 1) (.c 0)),.false)::f29_
 let f35_:List (SB×Bool):=((.le (.c 0) x7_),.true)::f31_
 let f36_:List (SB×Bool):=((.ap 26 x21_ x5_ (.c 0) (.c 0) (.c 0) (.c 0)),.true)::f33_
 let f37_:List (SB×Bool):=((.le x20_ (.d 1)),.true)::((.eq (.v 1) (.c 0)),.true)::f29_
 let f38_:List (SB×Bool):=((.eq (.v 1) (.c 1)),.true)::f34_
 let f39_:List (SB×Bool):=((.eq (.v 1) (.c 1)),.false)::f34_
 let f40_:List (SB×Bool):=((.lt x7_ (.v 36)),.true)::f35_
 let f41_:List (SB×Bool):=((.le x5_ (.c 4096)),.true)::f36_
 let f42_:List (SB×Bool):=p32_::f37_
 let f43_:List (SB×Bool):=((.le (.c 0) (.v 2)),.true)::f38_
 let f44_:List (SB×Bool):=((.eq (.v 1) (.c 2)),.true)::f39_
 let f45_:List (SB×Bool):=((.ap 24 x21_ x9_ x5_ (.c 1000) (.c 0) (.c 0)),.true)::f41_
 let f46_:List (SB×Bool):=p18_::f42_
 let f47_:List (SB×Bool):=p4_::((.le (.c 0) (.v 2)),.false)::f38_
 let f48_:List (SB×Bool):=((.le (.c 0) (.v 2)),.true)::f44_
 let f49_:List (SB×Bool):=p4_::((.eq (.v 1) (.c 2)),.false)::f39_
 let f50_:List (SB×Bool):=((.ap 29 x21_ (.v 35) x5_ (.v 36) (.c 0) (.c 0)),.true)::f45_
 let f51_:List (SB×Bool):=((.ap 29 x21_ (.v 35) x5_ (.v 36) (.c 0) (.c 0)),.false)::f45_
 let f52_:List (SB×Bool):=((.ap 26 x34_ x20_ (.c 0) (.c 0) (.c 0) (.c 0)),.true)::f46_
 let f53_:List (SB×Bool):=((.le x2_ (.d 1)),.true)::((.lt (.v 2) (.v 36)),.true)::f43_
 let f54_:List (SB×Bool):=p4_::((.lt (.v 2) (.v 36)),.false)::f43_
 let f55_:List (SB×Bool):=p18_::f47_
 let f56_:List (SB×Bool):=((.lt (.v 2) (.v 36)),.true)::f48_
 let f57_:List (SB×Bool):=p4_::((.le (.c 0) (.v 2)),.false)::f44_
 let f58_:List (SB×Bool):=p18_::f49_
 let f59_:List (SB×Bool):=p43_::f50_
 let f60_:List (SB×Bool):=p46_::f51_
 let f61_:List (SB×Bool):=((.le x20_ (.c 4096)),.true)::f52_
 let f62_:List (SB×Bool):=((.le x23_ (.c 4096)),.true)::f53_
 let f63_:List (SB×Bool):=p18_::f54_
 let f64_:List (SB×Bool):=p30_::f55_
 let f65_:List (SB×Bool):=p4_::((.lt (.v 2) (.v 36)),.false)::f48_
 let f66_:List (SB×Bool):=p18_::f57_
 let f67_:List (SB×Bool):=p30_::f58_
 let f68_:List (SB×Bool):=((.ap 24 x34_ x9_ x20_ (.c 1000) (.c 0) (.c 0)),.true)::f61_
 let f69_:List (SB×Bool):=p18_::f62_
 let f70_:List (SB×Bool):=p30_::f63_
 let f71_:List (SB×Bool):=p26_::f64_
 let f72_:List (SB×Bool):=p28_::f64_
 let f73_:List (SB×Bool):=((.le x0_ (.d 1)),.true)::((.lt (.v 36) (.c 4096)),.true)::f56_
 let f74_:List (SB×Bool):=p4_::((.lt (.v 36) (.c 4096)),.false)::f56_
 let f75_:List (SB×Bool):=p18_::f65_
 let f76_:List (SB×Bool):=p30_::f66_
 let f77_:List (SB×Bool):=p26_::f67_
 let f78_:List (SB×Bool):=p28_::f67_
 let f79_:List (SB×Bool):=((.ap 29 x34_ (.v 35) x20_ (.v 36) (.c 0) (.c 0)),.true)::f68_
 let f80_:List (SB×Bool):=((.ap 29 x34_ (.v 35) x20_ (.v 36) (.c 0) (.c 0)),.false)::f68_
 let f81_:List (SB×Bool):=((.ap 26 x42_ x2_ (.c 0) (.c 0) (.c 0) (.c 0)),.true)::f69_
 let f82_:List (SB×Bool):=p26_::f70_
 let f83_:List (SB×Bool):=p28_::f70_
 let f84_:List (SB×Bool):=p36_::f71_
 let f85_:List (SB×Bool):=p37_::f72_
 let f86_:List (SB×Bool):=((.le x24_ (.c 4096)),.true)::f73_
 let f87_:List (SB×Bool):=p18_::f74_
 let f88_:List (SB×Bool):=p30_::f75_
 let f89_:List (SB×Bool):=p26_::f76_
 let f90_:List (SB×Bool):=p28_::f76_
 let f91_:List (SB×Bool):=p36_::f77_
 let f92_:List (SB×Bool):=p37_::f78_
 let f93_:List (SB×Bool):=p43_::f79_
 let f94_:List (SB×Bool):=p46_::f80_
 let f95_:List (SB×Bool):=((.ap 24 x42_ x11_ x2_ (.c 1000) (.c 0) (.c 0)),.true)::f81_
 let f96_:List (SB×Bool):=p36_::f82_
 let f97_:List (SB×Bool):=p37_::f83_
 let f98_:List (SB×Bool):=p18_::f86_
 let f99_:List (SB×Bool):=p30_::f87_
 let f100_:List (SB×Bool):=p26_::f88_
 let f101_:List (SB×Bool):=p28_::f88_
 let f102_:List (SB×Bool):=p36_::f89_
 let f103_:List (SB×Bool):=p37_::f90_
 let f104_:List (SB×Bool):=((.ap 29 x42_ (.v 35) x2_ (.v 36) (.c 0) (.c 0)),.true)::f95_
 let f105_:List (SB×Bool):=((.ap 29 x42_ (.v 35) x2_ (.v 36) (.c 0) (.c 0)),.false)::f95_
 let f106_:List (SB×Bool):=((.ap 26 x35_ x0_ (.c 0) (.c 0) (.c 0) (.c 0)),.true)::f98_
 let f107_:List (SB×Bool):=p26_::f99_
 let f108_:List (SB×Bool):=p28_::f99_
 let f109_:List (SB×Bool):=p36_::f100_
 let f110_:List (SB×Bool):=p37_::f101_
 let f111_:List (SB×Bool):=p44_::f104_
 let f112_:List (SB×Bool):=p47_::f105_
 let f113_:List (SB×Bool):=((.ap 24 x35_ x12_ x0_ (.c 1000) (.c 0) (.c 0)),.true)::f106_
 let f114_:List (SB×Bool):=p36_::f107_
 let f115_:List (SB×Bool):=p37_::f108_
 let f116_:List (SB×Bool):=((.ap 29 x35_ (.v 35) x0_ (.v 36) (.c 0) (.c 0)),.true)::f113_
 let f117_:List (SB×Bool):=((.ap 29 x35_ (.v 35) x0_ (.v 36) (.c 0) (.c 0)),.false)::f113_
 let f118_:List (SB×Bool):=p45_::f116_
 let f119_:List (SB×Bool):=p48_::f117_
 [(let i_:In:=⟨⟨[(35,(.ap 9 (.v 35) (.v 36) x13_ (.c 0) x25_ (.c 0))),(45,(.ap 25 (.c 4) (.v 45) x13_ (.c 0) (.c 0) (.c 0))),(37,(.d 0)),(36,(.op .add (.v 36) x25_)),(44,(.wk .i64 x1_))],[]⟩,[(7,8),(0,0),(5,5),(6,6)],[],[]⟩;.cut (((.le (.op .add (.v 36) x25_) (.d 0)),.true)::((.eq x6_ (.c 0)),.true)::f16_) 3 i_ [] (shT pSame_T3 i_)),
  (let i_:In:=⟨⟨[(35,(.ap 9 (.v 35) x7_ (.v 35) (.op .add x7_ (.c 1)) (.op .add (.op .add (.v 36) (.op .mul x7_ (.c (-1)))) (.c (-1))) (.c 0))),(45,(.ap 26 (.v 45) x7_ (.c 0) (.c 0) (.c 0) (.c 0))),(37,(.d 0)),(36,(.op .add (.v 36) (.c (-1)))),(44,(.wk .i64 x1_))],[]⟩,[(7,8),(0,0),(5,5),(6,6)],[],[]⟩;.cut (((.le x2_ (.d 0)),.true)::((.lt x7_ (.v 36)),.true)::f30_) 3 i_ [(.rn (.op .add (.v 36) (.c (-1))) 0 (-1))] (shT pSame_T3 i_)),
  (let i_:In:=⟨⟨[(35,(.v 35)),(45,(.v 45)),(37,(.d 0)),(36,(.v 36)),(44,(.wk .i64 x1_))],[]⟩,[(7,8),(0,0),(5,5),(6,6)],[],[]⟩;.cut (p3_::((.lt x7_ (.v 36)),.false)::f30_) 3 i_ [] (shT pSame_T3 i_)),
  (let i_:In:=⟨⟨[(35,(.v 35)),(45,(.v 45)),(37,(.d 0)),(36,(.v 36)),(44,(.wk .i64 x1_))],[]⟩,[(7,8),(0,0),(5,5),(6,6)],[],[]⟩;.cut (p3_::((.le (.c 0) x7_),.false)::f25_) 3 i_ [] (shT pSame_T3 i_)),
  (let i_:In:=⟨⟨[(35,(.ap 9 (.v 35) (.v 36) (.v 35) x7_ (.c 1) (.c 0))),(45,(.ap 27 (.v 45) x7_ (.c 0) (.c 0) (.c 0) (.c 0))),(37,(.d 0)),(36,(.op .add (.v 36) (.c 1))),(44,(.wk .i64 x1_))],[]⟩,[(7,8),(0,0),(5,5),(6,6)],[],[]⟩;.cut (((.le x0_ (.d 0)),.true)::((.lt (.v 36) (.c 4096)),.true)::f40_) 3 i_ [] (shT pSame_T3 i_)),
  (let i_:In:=⟨⟨[(35,(.v 35)),(45,(.v 45)),(37,(.d 0)),(36,(.v 36)),(44,(.wk .i64 x1_))],[]⟩,[(7,8),(0,0),(5,5),(6,6)],[],[]⟩;.cut (p3_::((.lt (.v 36) (.c 4096)),.false)::f40_) 3 i_ [] (shT pSame_T3 i_)),
  (let i_:In:=⟨⟨[(35,(.v 35)),(45,(.v 45)),(37,(.d 0)),(36,(.v 36)),(44,(.wk .i64 x1_))],[]⟩,[(7,8),(0,0),(5,5),(6,6)],[],[]⟩;.cut (p3_::((.lt x7_ (.v 36)),.false)::f35_) 3 i_ [] (shT pSame_T3 i_)),
  (let i_:In:=⟨⟨[(35,(.v 35)),(45,(.v 45)),(37,(.d 0)),(36,(.v 36)),(44,(.wk .i64 x1_))],[]⟩,[(7,8),(0,0),(5,5),(6,6)],[],[]⟩;.cut (p3_::((.le (.c 0) x7_),.false)::f31_) 3 i_ [] (shT pSame_T3 i_)),
  (let i_:In:=⟨⟨[(35,(.v 35)),(45,(.v 45)),(37,(.d 0)),(36,(.v 36)),(44,(.wk .i64 x1_))],[]⟩,[(7,8),(0,0),(5,5),(6,6)],[],[]⟩;.cut (p3_::((.eq x6_ (.c 2)),.false)::f26_) 3 i_ [] (shT pSame_T3 i_)),
  (.bad (((.le x14_ (.c 4096)),.false)::f12_)),
  (.bad (((.eq (.v 36) x14_),.false)::f9_)),
  (.bad (p17_::f7_)),
  (.bad (((.ap 28 (.v 35) (.v 36) (.c 4) (.c 0) (.c 0) (.c 0)),.false)::f5_)),
  (.bad (((.ap 27 (.v 35) (.v 36) (.v 45) (.c 0) (.c 0) (.c 0)),.false)::f3_)),
  (.bad (((.le (.c 0) (.v 44)),.false)::f1_)),
  (.fin (p43_::f32_) 0 ⟨⟨[],[]⟩,[],[],[]⟩ [] []),
  (.fin (p46_::f32_) 0 ⟨⟨[],[]⟩,[],[],[]⟩ [(.eb (.c .true) (.c .false))] []),
  (.fin (((.ap 24 (.c 0) x9_ (.c 0) (.c 1000) (.c 0) (.c 0)),.false)::f27_) 0 ⟨⟨[],[]⟩,[],[],[]⟩ [(.eb (.c .true) (.c .false))] []),
  (.fin (p19_::f21_) 0 ⟨⟨[],[]⟩,[],[],[]⟩ [(.eb (.c .true) (.c .false))] []),
  (.bad (p33_::f17_)),
  (.fin (p38_::f59_) 0 ⟨⟨[],[]⟩,[],[],[]⟩ [] []),
  (.fin (p39_::f59_) 0 ⟨⟨[],[]⟩,[],[],[]⟩ [(.eb (.c .true) (.c .false))] []),
  (.fin (p46_::f50_) 0 ⟨⟨[],[]⟩,[],[],[]⟩ [(.eb (.c .true) (.c .false))] []),
  (.fin (p43_::f51_) 0 ⟨⟨[],[]⟩,[],[],[]⟩ [(.eb (.c .true) (.c .false))] []),
  (.fin (p38_::f60_) 0 ⟨⟨[],[]⟩,[],[],[]⟩ [(.eb (.c .true) (.c .false))] []),
  (.fin (p39_::f60_) 0 ⟨⟨[],[]⟩,[],[],[]⟩ [] []),
  (.fin (((.ap 24 x21_ x9_ x5_ (.c 1000) (.c 0) (.c 0)),.false)::f41_) 0 ⟨⟨[],[]⟩,[],[],[]⟩ [(.eb (.c .true) (.c .false))] []),
  (.bad (((.le x5_ (.c 4096)),.false)::f36_)),
  (.bad (((.ap 26 x21_ x5_ (.c 0) (.c 0) (.c 0) (.c 0)),.false)::f33_)),
  (.fin (p19_::f28_) 0 ⟨⟨[],[]⟩,[],[],[]⟩ [(.eb (.c .true) (.c .false))] []),
  (.bad (p33_::f22_)),
  (.fin (p36_::f23_) 0 ⟨⟨[],[]⟩,[],[],[]⟩ [] []),
  (.fin (p37_::f23_) 0 ⟨⟨[],[]⟩,[],[],[]⟩ [(.eb (.c .true) (.c .false))] []),
  (.fin (((.ap 24 (.c 0) (.v 45) (.c 0) (.c 1000) (.c 0) (.c 0)),.false)::f18_) 0 ⟨⟨[],[]⟩,[],[],[]⟩ [(.eb (.c .true) (.c .false))] []),
  (.fin (p19_::f14_) 0 ⟨⟨[],[]⟩,[],[],[]⟩ [(.eb (.c .true) (.c .false))] []),
  (.bad (((.eq x14_ (.c 0)),.false)::f8_)),
  (.fin (p49_::f93_) 0 ⟨⟨[],[]⟩,[],[],[]⟩ [] []),
  (.fin (p50_::f93_) 0 ⟨⟨[],[]⟩,[],[],[]⟩ [(.eb (.c .true) (.c .false))] []),
  (.fin (p46_::f79_) 0 ⟨⟨[],[]⟩,[],[],[]⟩ [(.eb (.c .true) (.c .false))] []),
  (.fin (p43_::f80_) 0 ⟨⟨[],[]⟩,[],[],[]⟩ [(.eb (.c .true) (.c .false))] []),
  (.fin (p49_::f94_) 0 ⟨⟨[],[]⟩,[],[],[]⟩ [(.eb (.c .true) (.c .false))] []),
  (.fin (p50_::f94_) 0 ⟨⟨[],[]⟩,[],[],[]⟩ [] []),
  (.fin (((.ap 24 x34_ x9_ x20_ (.c 1000) (.c 0) (.c 0)),.false)::f61_) 0 ⟨⟨[],[]⟩,[],[],[]⟩ [(.eb (.c .true) (.c .false))] []),
  (.bad (((.le x20_ (.c 4096)),.false)::f52_)),
  (.bad (((.ap 26 x34_ x20_ (.c 0) (.c 0) (.c 0) (.c 0)),.false)::f46_)),
  (.fin (p19_::f42_) 0 ⟨⟨[],[]⟩,[],[],[]⟩ [(.eb (.c .true) (.c .false))] []),
  (.bad (p33_::f37_)),
  (.fin (p51_::f111_) 0 ⟨⟨[],[]⟩,[],[],[]⟩ [] []),
  (.fin (p52_::f111_) 0 ⟨⟨[],[]⟩,[],[],[]⟩ [(.eb (.c .true) (.c .false))] []),
  (.fin (p47_::f104_) 0 ⟨⟨[],[]⟩,[],[],[]⟩ [(.eb (.c .true) (.c .false))] []),
  (.fin (p44_::f105_) 0 ⟨⟨[],[]⟩,[],[],[]⟩ [(.eb (.c .true) (.c .false))] []),
  (.fin (p51_::f112_) 0 ⟨⟨[],[]⟩,[],[],[]⟩ [(.eb (.c .true) (.c .false))] []),
  (.fin (p52_::f112_) 0 ⟨⟨[],[]⟩,[],[],[]⟩ [] []),
  (.fin (((.ap 24 x42_ x11_ x2_ (.c 1000) (.c 0) (.c 0)),.false)::f81_) 0 ⟨⟨[],[]⟩,[],[],[]⟩ [(.eb (.c .true) (.c .false))] []),
  (.bad (((.ap 26 x42_ x2_ (.c 0) (.c 0) (.c 0) (.c 0)),.false)::f69_)),
  (.fin (p19_::f62_) 0 ⟨⟨[],[]⟩,[],[],[]⟩ [(.eb (.c .true) (.c .false))] []),
  (.bad (((.le x23_ (.c 4096)),.false)::f53_)),
  (.fin (p27_::f96_) 0 ⟨⟨[],[]⟩,[],[],[]⟩ [] []),
  (.fin (p29_::f96_) 0 ⟨⟨[],[]⟩,[],[],[]⟩ [(.eb (.c .true) (.c .false))] []),
  (.fin (p37_::f82_) 0 ⟨⟨[],[]⟩,[],[],[]⟩ [(.eb (.c .true) (.c .false))] []),
  (.fin (p36_::f83_) 0 ⟨⟨[],[]⟩,[],[],[]⟩ [(.eb (.c .true) (.c .false))] []),
  (.fin (p27_::f97_) 0 ⟨⟨[],[]⟩,[],[],[]⟩ [(.eb (.c .true) (.c .false))] []),
  (.fin (p29_::f97_) 0 ⟨⟨[],[]⟩,[],[],[]⟩ [] []),
  (.fin (p31_::f63_) 0 ⟨⟨[],[]⟩,[],[],[]⟩ [(.eb (.c .true) (.c .false))] []),
  (.fin (p19_::f54_) 0 ⟨⟨[],[]⟩,[],[],[]⟩ [(.eb (.c .true) (.c .false))] []),
  (.fin (p27_::f84_) 0 ⟨⟨[],[]⟩,[],[],[]⟩ [] []),
  (.fin (p29_::f84_) 0 ⟨⟨[],[]⟩,[],[],[]⟩ [(.eb (.c .true) (.c .false))] []),
  (.fin (p37_::f71_) 0 ⟨⟨[],[]⟩,[],[],[]⟩ [(.eb (.c .true) (.c .false))] []),
  (.fin (p36_::f72_) 0 ⟨⟨[],[]⟩,[],[],[]⟩ [(.eb (.c .true) (.c .false))] []),
  (.fin (p27_::f85_) 0 ⟨⟨[],[]⟩,[],[],[]⟩ [(.eb (.c .true) (.c .false))] []),
  (.fin (p29_::f85_) 0 ⟨⟨[],[]⟩,[],[],[]⟩ [] []),
  (.fin (p31_::f55_) 0 ⟨⟨[],[]⟩,[],[],[]⟩ [(.eb (.c .true) (.c .false))] []),
  (.fin (p19_::f47_) 0 ⟨⟨[],[]⟩,[],[],[]⟩ [(.eb (.c .true) (.c .false))] []),
  (.fin (p40_::f118_) 0 ⟨⟨[],[]⟩,[],[],[]⟩ [] []),
  (.fin (p41_::f118_) 0 ⟨⟨[],[]⟩,[],[],[]⟩ [(.eb (.c .true) (.c .false))] []),
  (.fin (p48_::f116_) 0 ⟨⟨[],[]⟩,[],[],[]⟩ [(.eb (.c .true) (.c .false))] []),
  (.fin (p45_::f117_) 0 ⟨⟨[],[]⟩,[],[],[]⟩ [(.eb (.c .true) (.c .false))] []),
  (.fin (p40_::f119_) 0 ⟨⟨[],[]⟩,[],[],[]⟩ [(.eb (.c .true) (.c .false))] []),
  (.fin (p41_::f119_) 0 ⟨⟨[],[]⟩,[],[],[]⟩ [] []),
  (.fin (((.ap 24 x35_ x12_ x0_ (.c 1000) (.c 0) (.c 0)),.false)::f106_) 0 ⟨⟨[],[]⟩,[],[],[]⟩ [(.eb (.c .true) (.c .false))] []),
  (.bad (((.ap 26 x35_ x0_ (.c 0) (.c 0) (.c 0) (.c 0)),.false)::f98_)),
  (.fin (p19_::f86_) 0 ⟨⟨[],[]⟩,[],[],[]⟩ [(.eb (.c .true) (.c .false))] []),
  (.bad (((.le x24_ (.c 4096)),.false)::f73_)),
  (.fin (p27_::f114_) 0 ⟨⟨[],[]⟩,[],[],[]⟩ [] []),
  (.fin (p29_::f114_) 0 ⟨⟨[],[]⟩,[],[],[]⟩ [(.eb (.c .true) (.c .false))] []),
  (.fin (p37_::f107_) 0 ⟨⟨[],[]⟩,[],[],[]⟩ [(.eb (.c .true) (.c .false))] []),
  (.fin (p36_::f108_) 0 ⟨⟨[],[]⟩,[],[],[]⟩ [(.eb (.c .true) (.c .false))] []),
  (.fin (p27_::f115_) 0 ⟨⟨[],[]⟩,[],[],[]⟩ [(.eb (.c .true) (.c .false))] []),
  (.fin (p29_::f115_) 0 ⟨⟨[],[]⟩,[],[],[]⟩ [] []),
  (.fin (p31_::f87_) 0 ⟨⟨[],[]⟩,[],[],[]⟩ [(.eb (.c .true) (.c .false))] []),
  (.fin (p19_::f74_) 0 ⟨⟨[],[]⟩,[],[],[]⟩ [(.eb (.c .true) (.c .false))] []),
  (.fin (p27_::f109_) 0 ⟨⟨[],[]⟩,[],[],[]⟩ [] []),
  (.fin (p29_::f109_) 0 ⟨⟨[],[]⟩,[],[],[]⟩ [(.eb (.c .true) (.c .false))] []),
  (.fin (p37_::f100_) 0 ⟨⟨[],[]⟩,[],[],[]⟩ [(.eb (.c .true) (.c .false))] []),
  (.fin (p36_::f101_) 0 ⟨⟨[],[]⟩,[],[],[]⟩ [(.eb (.c .true) (.c .false))] []),
  (.fin (p27_::f110_) 0 ⟨⟨[],[]⟩,[],[],[]⟩ [(.eb (.c .true) (.c .false))] []),
  (.fin (p29_::f110_) 0 ⟨⟨[],[]⟩,[],[],[]⟩ [] []),
  (.fin (p31_::f75_) 0 ⟨⟨[],[]⟩,[],[],[]⟩ [(.eb (.c .true) (.c .false))] []),
  (.fin (p19_::f65_) 0 ⟨⟨[],[]⟩,[],[],[]⟩ [(.eb (.c .true) (.c .false))] []),
  (.fin (p27_::f102_) 0 ⟨⟨[],[]⟩,[],[],[]⟩ [] []),
  (.fin (p29_::f102_) 0 ⟨⟨[],[]⟩,[],[],[]⟩ [(.eb (.c .true) (.c .false))] []),
  (.fin (p37_::f89_) 0 ⟨⟨[],[]⟩,[],[],[]⟩ [(.eb (.c .true) (.c .false))] []),
  (.fin (p36_::f90_) 0 ⟨⟨[],[]⟩,[],[],[]⟩ [(.eb (.c .true) (.c .false))] []),
  (.fin (p27_::f103_) 0 ⟨⟨[],[]⟩,[],[],[]⟩ [(.eb (.c .true) (.c .false))] []),
  (.fin (p29_::f103_) 0 ⟨⟨[],[]⟩,[],[],[]⟩ [] []),
  (.fin (p31_::f66_) 0 ⟨⟨[],[]⟩,[],[],[]⟩ [(.eb (.c .true) (.c .false))] []),
  (.fin (p19_::f57_) 0 ⟨⟨[],[]⟩,[],[],[]⟩ [(.eb (.c .true) (.c .false))] []),
  (.fin (p27_::f91_) 0 ⟨⟨[],[]⟩,[],[],[]⟩ [] []),
  (.fin (p29_::f91_) 0 ⟨⟨[],[]⟩,[],[],[]⟩ [(.eb (.c .true) (.c .false))] []),
  (.fin (p37_::f77_) 0 ⟨⟨[],[]⟩,[],[],[]⟩ [(.eb (.c .true) (.c .false))] []),
  (.fin (p36_::f78_) 0 ⟨⟨[],[]⟩,[],[],[]⟩ [(.eb (.c .true) (.c .false))] []),
  (.fin (p27_::f92_) 0 ⟨⟨[],[]⟩,[],[],[]⟩ [(.eb (.c .true) (.c .false))] []),
  (.fin (p29_::f92_) 0 ⟨⟨[],[]⟩,[],[],[]⟩ [] []),
  (.fin (p31_::f58_) 0 ⟨⟨[],[]⟩,[],[],[]⟩ [(.eb (.c .true) (.c .false))] []),
  (.fin (p19_::f49_) 0 ⟨⟨[],[]⟩,[],[],[]⟩ [(.eb (.c .true) (.c .false))] []),
  (.bad (((.eq (.v 36) x14_),.false)::f24_)),
  (.bad (((.ap 26 x15_ (.v 36) (.c 0) (.c 0) (.c 0) (.c 0)),.false)::f19_)),
  (.bad (((.ap 28 x15_ (.v 36) (.c 4) (.c 0) (.c 0) (.c 0)),.false)::f15_)),
  (.bad (((.ap 27 x15_ (.v 36) (.v 45) (.c 0) (.c 0) (.c 0)),.false)::f11_)),
  (.bad (((.le (.v 36) (.c 4096)),.false)::f4_)),
  (.bad (p17_::f2_))]
def pSame_run (T:Tm):=(ex (ccOf Try.prog BF [] pSame) ((fun cc=>[pWks.ent cc,cOwn.entH cc,cSmP.ent cc,cIs.ent cc,cIs0.ent cc,cAct.ent cc,cAct0.ent cc,cEach.ent cc,cRSame.entH cc,cPSame.ent cc,cFew.ent cc]) (ccOf Try.prog BF [] pSame)) (dw (ccOf Try.prog BF [] pSame) ((fun cc=>[pWks.ent cc,cOwn.entH cc,cSmP.ent cc,cIs.ent cc,cIs0.ent cc,cAct.ent cc,cAct0.ent cc,cEach.ent cc,cRSame.entH cc,cPSame.ent cc,cFew.ent cc]) (ccOf Try.prog BF [] pSame)) 100 4) (stopX [0,1,2,3,4,5,7,8,9,10,11,12,13,14,15,16,17,18,19,20,21,22,23,24,25,26,27,28,29,30,31,32,33,34,35,36,37,38,39,40,41,42,43,44,45,46,47,48,49,50,51,52,53,54,55,56,57,58,59,60,61,62,63,64,65,66,67,68,69,70,71,72,73,74,75,76,77,78,79,80,81,82,83,84,85,86,87,88,89,90,91,92,93,94,95,96,97,98,99,100,101,102,103,104,105,106,107,108,109,110,111,112,113,114,115,116,117,118,119,120,121,122,123,124,125,126,127,128,129,130,131,132,133,134,135,136,137,138,139,140,141,142,143,144,145,146,147,148,149,150,151,152,153,154,155,156,157,158,159,160,161,162,163,164,165,166,167,168,169,170,171,172,173,174,175,176,177,178,179,180,181,182,183,184,185,186,187,188,189,190,191,192,193,194,195,196,197,198,199,200,201,202,203,204,205,206,207,208,209,210,211,212,213,214,215,216,217,218,219,220,221,222,223,224,225,226,227,228,229,230,231,232,233,234,235,236,237,238,239,240,241,242,243,244,245,246,247,248,249]) 200000 T.f T.fs T.H).lfs (ccOf Try.prog BF [] pSame) ((tm0 pSame Try.f6 (Try.f6.body.getD .skip))::[pSame_T1,pSame_T2,pSame_T3]) pSame.os
theorem pSame_h0:pSame_run (tm0 pSame Try.f6 (Try.f6.body.getD .skip))=some pSame_L0:=by kernel_rfl
theorem pSame_h1:pSame_run pSame_T1=some pSame_L1:=by kernel_rfl
theorem pSame_h2:pSame_run pSame_T2=some pSame_L2:=by kernel_rfl
theorem pSame_h3:pSame_run pSame_T3=some pSame_L3:=by kernel_rfl
def pSame_inv:(Nat→Int)→(Nat→Bool)→Nat→(Nat→Int)→(Nat→Bool)→Prop:=fun iv0 _ k iv _=>match k with | 0=>True | 1=>True | 2=>1≤iv 34∧iv 34≤flenC (iv0 0)∧flenC (iv 27)=0 | _=>1≤iv 44∧iv 44≤flenC (iv0 0)∧relB (iv 35) (iv 36) (iv 45)∧rowsOk (iv 35) (iv 36) 4∧0≤iv 36∧iv 36≤4096∧iv 36≤iv 37
def pSame_mu:(Nat→Int)→(Nat→Bool)→Nat→(Nat→Int)→(Nat→Bool)→Nat:=fun iv0 _ k iv _=>match k with | 0=>2 ^ 90 | 1=>2 ^ 80 | 2=>(5000000000000 - iv 34).toNat | _=>(5000000000000 - iv 44).toNat
def pSame_ob (k:Nat) (l:List Lf):Prop:=∀ (kv:Kv) (iv0:Nat→Int) (bv0:Nat→Bool),InB pSame.B iv0→FT (sta FI FB kv iv0 bv0) (dlt dyn0) pSame.F→∀ (iv:Nat→Int) (bv:Nat→Bool),Agr 4 iv0 bv0 iv bv→pSame_inv iv0 bv0 k iv bv→∀ lf∈l,LfT (sta FI FB kv) pSame.os (pSame_inv iv0 bv0) (pSame_mu iv0 bv0) k iv bv lf
theorem pSame_o0:pSame_ob 0 pSame_L0:=by
 intro kv iv0 bv0 hin hF iv bv ha hi
 unfold pSame_L0
 refine List.forall_mem_cons.2 ⟨?_,List.forall_mem_cons.2 ⟨?_,List.forall_mem_nil _⟩⟩
 all_goals
  intro δ hf
 all_goals
  have a0:=ha.1 0 (by omega)
  have a1:=ha.1 1 (by omega)
  have a2:=ha.1 2 (by omega)
  have a3:=ha.1 3 (by omega)
 all_goals
  simp only [FT,TP,SB.tp,SI.tv,sta,IB.eval,and_true,true_and,ObsT,Ob.Tv,rowT,kix,In.tiv,↓tbvT,In.tbv,get_cons,get_nil,reduceIte,Nat.reduceEqDiff,Int.reduceToNat,Int.reduceAdd,Int.reduceSub,Int.reduceLE,Int.reduceLT,Int.reduceEq,ne_eq,Bool.false_eq_true,not_true_eq_false,not_false_eq_true,true_iff,false_iff,iff_true,iff_false,false_implies,implies_true,decT,decide_true,decide_false,Bool.decide_eq_true,ap2,pb2,FI_3,FI_4,FI_8,FI_9,FI_8c,FI_8z,FI_200,FB_2,Int.toNat_natCast,Int.toNat_zero,FI_22,FI_23,FI_24,FI_25,FI_26,FI_27,FB_24,FB_25,FB_26,FB_27,FB_28,FB_29,FB_30,pSame_inv,pSame_mu,pSame,o1,othT,o1,i64b,kP,pkV,flF,i64s,lmap,SI.fl,flay,flayL,wP,pk0,pkAt,mayO,i64b,lO,hO,lenB,fO,bO,plO,plN,ppV,bP,plA,arP,fT,bT,rgT,n1T,toF,plR,arR,bkR,leR,outR,fcR,outC,isW,rgC,fC,aC,bC,pwC,mxF,pl2,fS2,ar2,kA,arA,a0,a1,a2,a3] at hf hi ⊢
 all_goals
  have z0:=flenC_zero
 all_goals
  have n1:=flenC_nn (iv0 0)
 all_goals
  (repeat' (with_reducible apply And.intro))<;>first
  | omega
  | assumption
  | (unfold inM;omega)
  | exact trivial
  | (clear hin hF ha;grind)
theorem pSame_o1:pSame_ob 1 pSame_L1:=by
 intro kv iv0 bv0 hin hF iv bv ha hi
 unfold pSame_L1
 refine List.forall_mem_cons.2 ⟨?_,List.forall_mem_cons.2 ⟨?_,List.forall_mem_cons.2 ⟨?_,List.forall_mem_cons.2 ⟨?_,List.forall_mem_cons.2 ⟨?_,List.forall_mem_cons.2 ⟨?_,List.forall_mem_cons.2 ⟨?_,List.forall_mem_cons.2 ⟨?_,List.forall_mem_cons.2 ⟨?_,List.forall_mem_cons.2 ⟨?_,List.forall_mem_cons.2 ⟨?_,List.forall_mem_cons.2 ⟨?_,List.forall_mem_cons.2 ⟨?_,List.forall_mem_cons.2 ⟨?_,List.forall_mem_cons.2 ⟨?_,List.forall_mem_cons.2 ⟨?_,List.forall_mem_cons.2 ⟨?_,List.forall_mem_cons.2 ⟨?_,List.forall_mem_nil _⟩⟩⟩⟩⟩⟩⟩⟩⟩⟩⟩⟩⟩⟩⟩⟩⟩⟩
 all_goals
  intro δ hf
 all_goals
  have a0:=ha.1 0 (by omega)
  have a1:=ha.1 1 (by omega)
  have a2:=ha.1 2 (by omega)
  have a3:=ha.1 3 (by omega)
 all_goals
  simp only [FT,TP,SB.tp,SI.tv,sta,IB.eval,and_true,true_and,ObsT,Ob.Tv,rowT,kix,In.tiv,↓tbvT,In.tbv,get_cons,get_nil,reduceIte,Nat.reduceEqDiff,Int.reduceToNat,Int.reduceAdd,Int.reduceSub,Int.reduceLE,Int.reduceLT,Int.reduceEq,ne_eq,Bool.false_eq_true,not_true_eq_false,not_false_eq_true,true_iff,false_iff,iff_true,iff_false,false_implies,implies_true,decT,decide_true,decide_false,Bool.decide_eq_true,ap2,pb2,FI_3,FI_4,FI_8,FI_9,FI_8c,FI_8z,FI_200,FB_2,Int.toNat_natCast,Int.toNat_zero,FI_22,FI_23,FI_24,FI_25,FI_26,FI_27,FB_24,FB_25,FB_26,FB_27,FB_28,FB_29,FB_30,pSame_inv,pSame_mu,pSame,o1,othT,o1,i64b,kP,pkV,flF,i64s,lmap,SI.fl,flay,flayL,wP,pk0,pkAt,mayO,i64b,lO,hO,lenB,fO,bO,plO,plN,ppV,bP,plA,arP,fT,bT,rgT,n1T,toF,plR,arR,bkR,leR,outR,fcR,outC,isW,rgC,fC,aC,bC,pwC,mxF,pl2,fS2,ar2,kA,arA,a0,a1,a2,a3] at hf hi ⊢
 all_goals
  have z0:=flenC_zero
 all_goals
  have n1:=flenC_nn (iv0 0)
 all_goals
  have ue:relB 0 0 0:=⟨Eq.symm z0,fun j hj=>by omega⟩
 all_goals
  have up:=@rel_put 0 0 0 (4:Int) (gt (iv0 0) 0 2) ue (Int.le_refl 0)
 all_goals
  have uq:=@rows_put 0 0 (4:Int) (gt (iv0 0) 0 2) (fun j hj=>by omega) (Int.le_refl 0)
 all_goals
  have ul:=rows_len uq
 all_goals
  have uk:=@putK_le (4:Int) 0 (gt (iv0 0) 0 2) (Int.le_refl 0) (by omega)
 all_goals
  have um:=putK_in (4:Int) 0 (gt (iv0 0) 0 2)
 all_goals
  have uf:flenC (putW (4:Int) 0 (gt (iv0 0) 0 2))=putK (4:Int) 0 (gt (iv0 0) 0 2):=by have:=@putW_fl (4:Int) 0 (gt (iv0 0) 0 2);rw [z0] at this;omega
 all_goals
  have ub:=fun m=>@isB_no0 0 m z0
 all_goals
  have uc:=fun m h=>@isB_no0 (putW (4:Int) 0 (gt (iv0 0) 0 2)) m h
 all_goals
  have ud:=fun m=>@isB_rel _ _ _ m up
 all_goals
  simp only [Int.zero_add] at up uq ul uk ud
 all_goals
  have us:=@pairN _ _ _ 0 up z0
 all_goals
  have ut:=@sameN_self 0 (flenC 0)
 all_goals
  have ve:relB 0 0 0:=⟨Eq.symm z0,fun j hj=>by omega⟩
 all_goals
  have vp:=@rel_put 0 0 0 (4:Int) (iv0 3) ve (Int.le_refl 0)
 all_goals
  have vq:=@rows_put 0 0 (4:Int) (iv0 3) (fun j hj=>by omega) (Int.le_refl 0)
 all_goals
  have vl:=rows_len vq
 all_goals
  have vk:=@putK_le (4:Int) 0 (iv0 3) (Int.le_refl 0) (by omega)
 all_goals
  have vm:=putK_in (4:Int) 0 (iv0 3)
 all_goals
  have vf:flenC (putW (4:Int) 0 (iv0 3))=putK (4:Int) 0 (iv0 3):=by have:=@putW_fl (4:Int) 0 (iv0 3);rw [z0] at this;omega
 all_goals
  have vb:=fun m=>@isB_no0 0 m z0
 all_goals
  have vc:=fun m h=>@isB_no0 (putW (4:Int) 0 (iv0 3)) m h
 all_goals
  have vd:=fun m=>@isB_rel _ _ _ m vp
 all_goals
  simp only [Int.zero_add] at vp vq vl vk vd
 all_goals
  have vs:=@pairN _ _ _ 0 vp z0
 all_goals
  have vt:=@sameN_self 0 (flenC 0)
 all_goals
  (repeat' (with_reducible apply And.intro))<;>first
  | omega
  | assumption
  | (unfold inM;omega)
  | exact trivial
  | (clear hin hF ha;grind)
theorem pSame_o2:pSame_ob 2 pSame_L2:=by
 intro kv iv0 bv0 hin hF iv bv ha hi
 unfold pSame_L2
 refine List.forall_mem_cons.2 ⟨?_,List.forall_mem_cons.2 ⟨?_,List.forall_mem_cons.2 ⟨?_,List.forall_mem_cons.2 ⟨?_,List.forall_mem_cons.2 ⟨?_,List.forall_mem_cons.2 ⟨?_,List.forall_mem_cons.2 ⟨?_,List.forall_mem_cons.2 ⟨?_,List.forall_mem_cons.2 ⟨?_,List.forall_mem_cons.2 ⟨?_,List.forall_mem_cons.2 ⟨?_,List.forall_mem_cons.2 ⟨?_,List.forall_mem_cons.2 ⟨?_,List.forall_mem_cons.2 ⟨?_,List.forall_mem_cons.2 ⟨?_,List.forall_mem_cons.2 ⟨?_,List.forall_mem_cons.2 ⟨?_,List.forall_mem_cons.2 ⟨?_,List.forall_mem_cons.2 ⟨?_,List.forall_mem_cons.2 ⟨?_,List.forall_mem_nil _⟩⟩⟩⟩⟩⟩⟩⟩⟩⟩⟩⟩⟩⟩⟩⟩⟩⟩⟩⟩
 all_goals
  intro δ hf
 all_goals
  have a0:=ha.1 0 (by omega)
  have a1:=ha.1 1 (by omega)
  have a2:=ha.1 2 (by omega)
  have a3:=ha.1 3 (by omega)
 all_goals
  simp only [FT,TP,SB.tp,SI.tv,sta,IB.eval,and_true,true_and,ObsT,Ob.Tv,rowT,kix,In.tiv,↓tbvT,In.tbv,get_cons,get_nil,reduceIte,Nat.reduceEqDiff,Int.reduceToNat,Int.reduceAdd,Int.reduceSub,Int.reduceLE,Int.reduceLT,Int.reduceEq,ne_eq,Bool.false_eq_true,not_true_eq_false,not_false_eq_true,true_iff,false_iff,iff_true,iff_false,false_implies,implies_true,decT,decide_true,decide_false,Bool.decide_eq_true,ap2,pb2,FI_3,FI_4,FI_8,FI_9,FI_8c,FI_8z,FI_200,FB_2,Int.toNat_natCast,Int.toNat_zero,FI_22,FI_23,FI_24,FI_25,FI_26,FI_27,FB_24,FB_25,FB_26,FB_27,FB_28,FB_29,FB_30,pSame_inv,pSame_mu,pSame,o1,othT,o1,i64b,kP,pkV,flF,i64s,lmap,SI.fl,flay,flayL,wP,pk0,pkAt,mayO,i64b,lO,hO,lenB,fO,bO,plO,plN,ppV,bP,plA,arP,fT,bT,rgT,n1T,toF,plR,arR,bkR,leR,outR,fcR,outC,isW,rgC,fC,aC,bC,pwC,mxF,pl2,fS2,ar2,kA,arA,a0,a1,a2,a3] at hf hi ⊢
 all_goals
  obtain ⟨g0,g1,g2⟩:=hi
 all_goals
  have z0:=flenC_zero
 all_goals
  have n1:=flenC_nn (iv0 0)
 all_goals
  have w34:0≤iv 34→iv 34≤4000000000000→IntKind.i64.wrap (iv 34+1)=iv 34+1:=fun _ _=>by rw [wrap_i64];omega
 all_goals
  have ue:relB 0 0 (iv 27):=⟨Eq.symm g2,fun j hj=>by omega⟩
 all_goals
  have up:=@rel_put 0 0 (iv 27) (4:Int) (gt (iv0 0) (iv 34).toNat 2) ue (Int.le_refl 0)
 all_goals
  have uq:=@rows_put 0 0 (4:Int) (gt (iv0 0) (iv 34).toNat 2) (fun j hj=>by omega) (Int.le_refl 0)
 all_goals
  have ul:=rows_len uq
 all_goals
  have uk:=@putK_le (4:Int) 0 (gt (iv0 0) (iv 34).toNat 2) (Int.le_refl 0) (by omega)
 all_goals
  have um:=putK_in (4:Int) 0 (gt (iv0 0) (iv 34).toNat 2)
 all_goals
  have uf:flenC (putW (4:Int) (iv 27) (gt (iv0 0) (iv 34).toNat 2))=putK (4:Int) 0 (gt (iv0 0) (iv 34).toNat 2):=by have:=@putW_fl (4:Int) (iv 27) (gt (iv0 0) (iv 34).toNat 2);rw [g2] at this;omega
 all_goals
  have ub:=fun m=>@isB_no0 (iv 27) m g2
 all_goals
  have uc:=fun m h=>@isB_no0 (putW (4:Int) (iv 27) (gt (iv0 0) (iv 34).toNat 2)) m h
 all_goals
  have ud:=fun m=>@isB_rel _ _ _ m up
 all_goals
  simp only [Int.zero_add] at up uq ul uk ud
 all_goals
  have us:=@pairN _ _ _ (iv 27) up g2
 all_goals
  have ut:=@sameN_self (iv 27) (flenC (iv 27))
 all_goals
  have ve:relB 0 0 (iv 27):=⟨Eq.symm g2,fun j hj=>by omega⟩
 all_goals
  have vp:=@rel_put 0 0 (iv 27) (4:Int) (iv0 3) ve (Int.le_refl 0)
 all_goals
  have vq:=@rows_put 0 0 (4:Int) (iv0 3) (fun j hj=>by omega) (Int.le_refl 0)
 all_goals
  have vl:=rows_len vq
 all_goals
  have vk:=@putK_le (4:Int) 0 (iv0 3) (Int.le_refl 0) (by omega)
 all_goals
  have vm:=putK_in (4:Int) 0 (iv0 3)
 all_goals
  have vf:flenC (putW (4:Int) (iv 27) (iv0 3))=putK (4:Int) 0 (iv0 3):=by have:=@putW_fl (4:Int) (iv 27) (iv0 3);rw [g2] at this;omega
 all_goals
  have vb:=fun m=>@isB_no0 (iv 27) m g2
 all_goals
  have vc:=fun m h=>@isB_no0 (putW (4:Int) (iv 27) (iv0 3)) m h
 all_goals
  have vd:=fun m=>@isB_rel _ _ _ m vp
 all_goals
  simp only [Int.zero_add] at vp vq vl vk vd
 all_goals
  have vs:=@pairN _ _ _ (iv 27) vp g2
 all_goals
  have vt:=@sameN_self (iv 27) (flenC (iv 27))
 all_goals
  (repeat' (with_reducible apply And.intro))<;>first
  | omega
  | assumption
  | (unfold inM;omega)
  | exact trivial
  | (clear hin hF ha;grind)
theorem pSame_o3:pSame_ob 3 pSame_L3:=by
 intro kv iv0 bv0 hin hF iv bv ha hi
 unfold pSame_L3
 refine List.forall_mem_cons.2 ⟨?_,List.forall_mem_cons.2 ⟨?_,List.forall_mem_cons.2 ⟨?_,List.forall_mem_cons.2 ⟨?_,List.forall_mem_cons.2 ⟨?_,List.forall_mem_cons.2 ⟨?_,List.forall_mem_cons.2 ⟨?_,List.forall_mem_cons.2 ⟨?_,List.forall_mem_cons.2 ⟨?_,List.forall_mem_cons.2 ⟨?_,List.forall_mem_cons.2 ⟨?_,List.forall_mem_cons.2 ⟨?_,List.forall_mem_cons.2 ⟨?_,List.forall_mem_cons.2 ⟨?_,List.forall_mem_cons.2 ⟨?_,List.forall_mem_cons.2 ⟨?_,List.forall_mem_cons.2 ⟨?_,List.forall_mem_cons.2 ⟨?_,List.forall_mem_cons.2 ⟨?_,List.forall_mem_cons.2 ⟨?_,List.forall_mem_cons.2 ⟨?_,List.forall_mem_cons.2 ⟨?_,List.forall_mem_cons.2 ⟨?_,List.forall_mem_cons.2 ⟨?_,List.forall_mem_cons.2 ⟨?_,List.forall_mem_cons.2 ⟨?_,List.forall_mem_cons.2 ⟨?_,List.forall_mem_cons.2 ⟨?_,List.forall_mem_cons.2 ⟨?_,List.forall_mem_cons.2 ⟨?_,List.forall_mem_cons.2 ⟨?_,List.forall_mem_cons.2 ⟨?_,List.forall_mem_cons.2 ⟨?_,List.forall_mem_cons.2 ⟨?_,List.forall_mem_cons.2 ⟨?_,List.forall_mem_cons.2 ⟨?_,List.forall_mem_cons.2 ⟨?_,List.forall_mem_cons.2 ⟨?_,List.forall_mem_cons.2 ⟨?_,List.forall_mem_cons.2 ⟨?_,List.forall_mem_cons.2 ⟨?_,List.forall_mem_cons.2 ⟨?_,List.forall_mem_cons.2 ⟨?_,List.forall_mem_cons.2 ⟨?_,List.forall_mem_cons.2 ⟨?_,List.forall_mem_cons.2 ⟨?_,List.forall_mem_cons.2 ⟨?_,List.forall_mem_cons.2 ⟨?_,List.forall_mem_cons.2 ⟨?_,List.forall_mem_cons.2 ⟨?_,List.forall_mem_cons.2 ⟨?_,List.forall_mem_cons.2 ⟨?_,List.forall_mem_cons.2 ⟨?_,List.forall_mem_cons.2 ⟨?_,List.forall_mem_cons.2 ⟨?_,List.forall_mem_cons.2 ⟨?_,List.forall_mem_cons.2 ⟨?_,List.forall_mem_cons.2 ⟨?_,List.forall_mem_cons.2 ⟨?_,List.forall_mem_cons.2 ⟨?_,List.forall_mem_cons.2 ⟨?_,List.forall_mem_cons.2 ⟨?_,List.forall_mem_cons.2 ⟨?_,List.forall_mem_cons.2 ⟨?_,List.forall_mem_cons.2 ⟨?_,List.forall_mem_cons.2 ⟨?_,List.forall_mem_cons.2 ⟨?_,List.forall_mem_cons.2 ⟨?_,List.forall_mem_cons.2 ⟨?_,List.forall_mem_cons.2 ⟨?_,List.forall_mem_cons.2 ⟨?_,List.forall_mem_cons.2 ⟨?_,List.forall_mem_cons.2 ⟨?_,List.forall_mem_cons.2 ⟨?_,List.forall_mem_cons.2 ⟨?_,List.forall_mem_cons.2 ⟨?_,List.forall_mem_cons.2 ⟨?_,List.forall_mem_cons.2 ⟨?_,List.forall_mem_cons.2 ⟨?_,List.forall_mem_cons.2 ⟨?_,List.forall_mem_cons.2 ⟨?_,List.forall_mem_cons.2 ⟨?_,List.forall_mem_cons.2 ⟨?_,List.forall_mem_cons.2 ⟨?_,List.forall_mem_cons.2 ⟨?_,List.forall_mem_cons.2 ⟨?_,List.forall_mem_cons.2 ⟨?_,List.forall_mem_cons.2 ⟨?_,List.forall_mem_cons.2 ⟨?_,List.forall_mem_cons.2 ⟨?_,List.forall_mem_cons.2 ⟨?_,List.forall_mem_cons.2 ⟨?_,List.forall_mem_cons.2 ⟨?_,List.forall_mem_cons.2 ⟨?_,List.forall_mem_cons.2 ⟨?_,List.forall_mem_cons.2 ⟨?_,List.forall_mem_cons.2 ⟨?_,List.forall_mem_cons.2 ⟨?_,List.forall_mem_cons.2 ⟨?_,List.forall_mem_cons.2 ⟨?_,List.forall_mem_cons.2 ⟨?_,List.forall_mem_cons.2 ⟨?_,List.forall_mem_cons.2 ⟨?_,List.forall_mem_cons.2 ⟨?_,List.forall_mem_cons.2 ⟨?_,List.forall_mem_cons.2 ⟨?_,List.forall_mem_cons.2 ⟨?_,List.forall_mem_cons.2 ⟨?_,List.forall_mem_cons.2 ⟨?_,List.forall_mem_cons.2 ⟨?_,List.forall_mem_cons.2 ⟨?_,List.forall_mem_cons.2 ⟨?_,List.forall_mem_cons.2 ⟨?_,List.forall_mem_cons.2 ⟨?_,List.forall_mem_cons.2 ⟨?_,List.forall_mem_cons.2 ⟨?_,List.forall_mem_cons.2 ⟨?_,List.forall_mem_cons.2 ⟨?_,List.forall_mem_cons.2 ⟨?_,List.forall_mem_cons.2 ⟨?_,List.forall_mem_cons.2 ⟨?_,List.forall_mem_nil _⟩⟩⟩⟩⟩⟩⟩⟩⟩⟩⟩⟩⟩⟩⟩⟩⟩⟩⟩⟩⟩⟩⟩⟩⟩⟩⟩⟩⟩⟩⟩⟩⟩⟩⟩⟩⟩⟩⟩⟩⟩⟩⟩⟩⟩⟩⟩⟩⟩⟩⟩⟩⟩⟩⟩⟩⟩⟩⟩⟩⟩⟩⟩⟩⟩⟩⟩⟩⟩⟩⟩⟩⟩⟩⟩⟩⟩⟩⟩⟩⟩⟩⟩⟩⟩⟩⟩⟩⟩⟩⟩⟩⟩⟩⟩⟩⟩⟩⟩⟩⟩⟩⟩⟩⟩⟩⟩⟩⟩⟩⟩⟩⟩⟩⟩⟩⟩⟩⟩⟩⟩
 all_goals
  intro δ hf
 all_goals
  have a0:=ha.1 0 (by omega)
  have a1:=ha.1 1 (by omega)
  have a2:=ha.1 2 (by omega)
  have a3:=ha.1 3 (by omega)
 all_goals
  simp only [FT,TP,SB.tp,SI.tv,sta,IB.eval,and_true,true_and,ObsT,Ob.Tv,rowT,kix,In.tiv,↓tbvT,In.tbv,get_cons,get_nil,reduceIte,Nat.reduceEqDiff,Int.reduceToNat,Int.reduceAdd,Int.reduceSub,Int.reduceLE,Int.reduceLT,Int.reduceEq,ne_eq,Bool.false_eq_true,not_true_eq_false,not_false_eq_true,true_iff,false_iff,iff_true,iff_false,false_implies,implies_true,decT,decide_true,decide_false,Bool.decide_eq_true,ap2,pb2,FI_3,FI_4,FI_8,FI_9,FI_8c,FI_8z,FI_200,FB_2,Int.toNat_natCast,Int.toNat_zero,FI_22,FI_23,FI_24,FI_25,FI_26,FI_27,FB_24,FB_25,FB_26,FB_27,FB_28,FB_29,FB_30,pSame_inv,pSame_mu,pSame,o1,othT,o1,i64b,kP,pkV,flF,i64s,lmap,SI.fl,flay,flayL,wP,pk0,pkAt,mayO,i64b,lO,hO,lenB,fO,bO,plO,plN,ppV,bP,plA,arP,fT,bT,rgT,n1T,toF,plR,arR,bkR,leR,outR,fcR,outC,isW,rgC,fC,aC,bC,pwC,mxF,pl2,fS2,ar2,kA,arA,a0,a1,a2,a3] at hf hi ⊢
 all_goals
  obtain ⟨g0,g1,g2,g3,g4,g5,g6⟩:=hi
 all_goals
  have z0:=flenC_zero
 all_goals
  have n1:=flenC_nn (iv0 0)
 all_goals
  have w44:0≤iv 44→iv 44≤4000000000000→IntKind.i64.wrap (iv 44+1)=iv 44+1:=fun _ _=>by rw [wrap_i64];omega
 all_goals
  have ci:=rel_cpR g2
 all_goals
  have cj:=rows_cpR g3
 all_goals
  (repeat' (with_reducible apply And.intro))<;>first
  | omega
  | assumption
  | (clear hin hF ha;have U:=lawAll (gt (iv0 0) (iv 44).toNat 2) (fl (iv0 0) (iv 44).toNat 1) g2 g3 g4 g5;grind)
  | (clear hin hF ha w44;have V:=@lawAll (cpR (iv 35) (iv 36)) (iv 36) (iv 45) (4:Int) (iv0 3) (iv0 2) ci cj g4 g5;have v1:=V.1.1.1;have v2:=fun h0 h1=>(V.2.1 h0 h1).1.1;have v3:=fun h0 h1=>(V.2.2.1 h0 h1).1.1;have k1:=pairS V.1.1 g2;have k2:=fun h0 h1=>pairS (V.2.1 h0 h1).1 g2;have k3:=fun h0 h1=>pairS (V.2.2.1 h0 h1).1 g2;have k4:=pairS ci g2;have k5:=@sameN_self (iv 45) (flenC (iv 45));have nn:=fun h=>@nonAll (iv 45) (4:Int) (iv0 3) h;have ns:=fun h=>pairS (nn h).2.1 g2;grind [relI,nonB])
theorem pSame_c:LsC ((tm0 pSame Try.f6 (Try.f6.body.getD .skip))::[pSame_T1,pSame_T2,pSame_T3]) pSame.os [pSame_L0,pSame_L1,pSame_L2,pSame_L3]:=by
 unfold pSame_L0 pSame_L1 pSame_L2 pSame_L3
 exact ⟨List.forall_mem_cons.2 ⟨⟨⟨_,rfl,rfl⟩,by kernel_rfl⟩,List.forall_mem_cons.2 ⟨⟨⟨_,rfl,rfl⟩,by kernel_rfl⟩,List.forall_mem_nil _⟩⟩,List.forall_mem_cons.2 ⟨⟨⟨_,rfl,rfl⟩,by kernel_rfl⟩,List.forall_mem_cons.2 ⟨⟨⟨_,rfl,rfl⟩,by kernel_rfl⟩,List.forall_mem_cons.2 ⟨⟨⟨_,rfl,rfl⟩,by kernel_rfl⟩,List.forall_mem_cons.2 ⟨⟨⟨_,rfl,rfl⟩,by kernel_rfl⟩,List.forall_mem_cons.2 ⟨⟨⟨_,rfl,rfl⟩,by kernel_rfl⟩,List.forall_mem_cons.2 ⟨⟨⟨_,rfl,rfl⟩,by kernel_rfl⟩,List.forall_mem_cons.2 ⟨⟨⟨_,rfl,rfl⟩,by kernel_rfl⟩,List.forall_mem_cons.2 ⟨trivial,List.forall_mem_cons.2 ⟨⟨⟨_,rfl,rfl⟩,by kernel_rfl⟩,List.forall_mem_cons.2 ⟨⟨⟨_,rfl,rfl⟩,by kernel_rfl⟩,List.forall_mem_cons.2 ⟨⟨⟨_,rfl,rfl⟩,by kernel_rfl⟩,List.forall_mem_cons.2 ⟨trivial,List.forall_mem_cons.2 ⟨trivial,List.forall_mem_cons.2 ⟨⟨⟨_,rfl,rfl⟩,by kernel_rfl⟩,List.forall_mem_cons.2 ⟨trivial,List.forall_mem_cons.2 ⟨⟨⟨_,rfl,rfl⟩,by kernel_rfl⟩,List.forall_mem_cons.2 ⟨⟨⟨_,rfl,rfl⟩,by kernel_rfl⟩,List.forall_mem_cons.2 ⟨⟨⟨_,rfl,rfl⟩,by kernel_rfl⟩,List.forall_mem_nil _⟩⟩⟩⟩⟩⟩⟩⟩⟩⟩⟩⟩⟩⟩⟩⟩⟩⟩,List.forall_mem_cons.2 ⟨⟨⟨_,rfl,rfl⟩,by kernel_rfl⟩,List.forall_mem_cons.2 ⟨⟨⟨_,rfl,rfl⟩,by kernel_rfl⟩,List.forall_mem_cons.2 ⟨⟨⟨_,rfl,rfl⟩,by kernel_rfl⟩,List.forall_mem_cons.2 ⟨trivial,List.forall_mem_cons.2 ⟨⟨⟨_,rfl,rfl⟩,by kernel_rfl⟩,List.forall_mem_cons.2 ⟨⟨⟨_,rfl,rfl⟩,by kernel_rfl⟩,List.forall_mem_cons.2 ⟨⟨⟨_,rfl,rfl⟩,by kernel_rfl⟩,List.forall_mem_cons.2 ⟨⟨⟨_,rfl,rfl⟩,by kernel_rfl⟩,List.forall_mem_cons.2 ⟨trivial,List.forall_mem_cons.2 ⟨⟨⟨_,rfl,rfl⟩,by kernel_rfl⟩,List.forall_mem_cons.2 ⟨⟨⟨_,rfl,rfl⟩,by kernel_rfl⟩,List.forall_mem_cons.2 ⟨⟨⟨_,rfl,rfl⟩,by kernel_rfl⟩,List.forall_mem_cons.2 ⟨trivial,List.forall_mem_cons.2 ⟨trivial,List.forall_mem_cons.2 ⟨⟨⟨_,rfl,rfl⟩,by kernel_rfl⟩,List.forall_mem_cons.2 ⟨trivial,List.forall_mem_cons.2 ⟨⟨⟨_,rfl,rfl⟩,by kernel_rfl⟩,List.forall_mem_cons.2 ⟨⟨⟨_,rfl,rfl⟩,by kernel_rfl⟩,List.forall_mem_cons.2 ⟨⟨⟨_,rfl,rfl⟩,by kernel_rfl⟩,List.forall_mem_cons.2 ⟨trivial,List.forall_mem_nil _⟩⟩⟩⟩⟩⟩⟩⟩⟩⟩⟩⟩⟩⟩⟩⟩⟩⟩⟩⟩,List.forall_mem_cons.2 ⟨⟨⟨_,rfl,rfl⟩,by kernel_rfl⟩,List.forall_mem_cons.2 ⟨⟨⟨_,rfl,rfl⟩,by kernel_rfl⟩,List.forall_mem_cons.2 ⟨⟨⟨_,rfl,rfl⟩,by kernel_rfl⟩,List.forall_mem_cons.2 ⟨⟨⟨_,rfl,rfl⟩,by kernel_rfl⟩,List.forall_mem_cons.2 ⟨⟨⟨_,rfl,rfl⟩,by kernel_rfl⟩,List.forall_mem_cons.2 ⟨⟨⟨_,rfl,rfl⟩,by kernel_rfl⟩,List.forall_mem_cons.2 ⟨⟨⟨_,rfl,rfl⟩,by kernel_rfl⟩,List.forall_mem_cons.2 ⟨⟨⟨_,rfl,rfl⟩,by kernel_rfl⟩,List.forall_mem_cons.2 ⟨⟨⟨_,rfl,rfl⟩,by kernel_rfl⟩,List.forall_mem_cons.2 ⟨trivial,List.forall_mem_cons.2 ⟨trivial,List.forall_mem_cons.2 ⟨trivial,List.forall_mem_cons.2 ⟨trivial,List.forall_mem_cons.2 ⟨trivial,List.forall_mem_cons.2 ⟨trivial,List.forall_mem_cons.2 ⟨⟨⟨_,rfl,rfl⟩,by kernel_rfl⟩,List.forall_mem_cons.2 ⟨⟨⟨_,rfl,rfl⟩,by kernel_rfl⟩,List.forall_mem_cons.2 ⟨⟨⟨_,rfl,rfl⟩,by kernel_rfl⟩,List.forall_mem_cons.2 ⟨⟨⟨_,rfl,rfl⟩,by kernel_rfl⟩,List.forall_mem_cons.2 ⟨trivial,List.forall_mem_cons.2 ⟨⟨⟨_,rfl,rfl⟩,by kernel_rfl⟩,List.forall_mem_cons.2 ⟨⟨⟨_,rfl,rfl⟩,by kernel_rfl⟩,List.forall_mem_cons.2 ⟨⟨⟨_,rfl,rfl⟩,by kernel_rfl⟩,List.forall_mem_cons.2 ⟨⟨⟨_,rfl,rfl⟩,by kernel_rfl⟩,List.forall_mem_cons.2 ⟨⟨⟨_,rfl,rfl⟩,by kernel_rfl⟩,List.forall_mem_cons.2 ⟨⟨⟨_,rfl,rfl⟩,by kernel_rfl⟩,List.forall_mem_cons.2 ⟨⟨⟨_,rfl,rfl⟩,by kernel_rfl⟩,List.forall_mem_cons.2 ⟨trivial,List.forall_mem_cons.2 ⟨trivial,List.forall_mem_cons.2 ⟨⟨⟨_,rfl,rfl⟩,by kernel_rfl⟩,List.forall_mem_cons.2 ⟨trivial,List.forall_mem_cons.2 ⟨⟨⟨_,rfl,rfl⟩,by kernel_rfl⟩,List.forall_mem_cons.2 ⟨⟨⟨_,rfl,rfl⟩,by kernel_rfl⟩,List.forall_mem_cons.2 ⟨⟨⟨_,rfl,rfl⟩,by kernel_rfl⟩,List.forall_mem_cons.2 ⟨⟨⟨_,rfl,rfl⟩,by kernel_rfl⟩,List.forall_mem_cons.2 ⟨trivial,List.forall_mem_cons.2 ⟨⟨⟨_,rfl,rfl⟩,by kernel_rfl⟩,List.forall_mem_cons.2 ⟨⟨⟨_,rfl,rfl⟩,by kernel_rfl⟩,List.forall_mem_cons.2 ⟨⟨⟨_,rfl,rfl⟩,by kernel_rfl⟩,List.forall_mem_cons.2 ⟨⟨⟨_,rfl,rfl⟩,by kernel_rfl⟩,List.forall_mem_cons.2 ⟨⟨⟨_,rfl,rfl⟩,by kernel_rfl⟩,List.forall_mem_cons.2 ⟨⟨⟨_,rfl,rfl⟩,by kernel_rfl⟩,List.forall_mem_cons.2 ⟨⟨⟨_,rfl,rfl⟩,by kernel_rfl⟩,List.forall_mem_cons.2 ⟨trivial,List.forall_mem_cons.2 ⟨trivial,List.forall_mem_cons.2 ⟨⟨⟨_,rfl,rfl⟩,by kernel_rfl⟩,List.forall_mem_cons.2 ⟨trivial,List.forall_mem_cons.2 ⟨⟨⟨_,rfl,rfl⟩,by kernel_rfl⟩,List.forall_mem_cons.2 ⟨⟨⟨_,rfl,rfl⟩,by kernel_rfl⟩,List.forall_mem_cons.2 ⟨⟨⟨_,rfl,rfl⟩,by kernel_rfl⟩,List.forall_mem_cons.2 ⟨⟨⟨_,rfl,rfl⟩,by kernel_rfl⟩,List.forall_mem_cons.2 ⟨⟨⟨_,rfl,rfl⟩,by kernel_rfl⟩,List.forall_mem_cons.2 ⟨⟨⟨_,rfl,rfl⟩,by kernel_rfl⟩,List.forall_mem_cons.2 ⟨⟨⟨_,rfl,rfl⟩,by kernel_rfl⟩,List.forall_mem_cons.2 ⟨trivial,List.forall_mem_cons.2 ⟨⟨⟨_,rfl,rfl⟩,by kernel_rfl⟩,List.forall_mem_cons.2 ⟨trivial,List.forall_mem_cons.2 ⟨⟨⟨_,rfl,rfl⟩,by kernel_rfl⟩,List.forall_mem_cons.2 ⟨⟨⟨_,rfl,rfl⟩,by kernel_rfl⟩,List.forall_mem_cons.2 ⟨⟨⟨_,rfl,rfl⟩,by kernel_rfl⟩,List.forall_mem_cons.2 ⟨⟨⟨_,rfl,rfl⟩,by kernel_rfl⟩,List.forall_mem_cons.2 ⟨⟨⟨_,rfl,rfl⟩,by kernel_rfl⟩,List.forall_mem_cons.2 ⟨⟨⟨_,rfl,rfl⟩,by kernel_rfl⟩,List.forall_mem_cons.2 ⟨⟨⟨_,rfl,rfl⟩,by kernel_rfl⟩,List.forall_mem_cons.2 ⟨⟨⟨_,rfl,rfl⟩,by kernel_rfl⟩,List.forall_mem_cons.2 ⟨⟨⟨_,rfl,rfl⟩,by kernel_rfl⟩,List.forall_mem_cons.2 ⟨⟨⟨_,rfl,rfl⟩,by kernel_rfl⟩,List.forall_mem_cons.2 ⟨⟨⟨_,rfl,rfl⟩,by kernel_rfl⟩,List.forall_mem_cons.2 ⟨⟨⟨_,rfl,rfl⟩,by kernel_rfl⟩,List.forall_mem_cons.2 ⟨⟨⟨_,rfl,rfl⟩,by kernel_rfl⟩,List.forall_mem_cons.2 ⟨⟨⟨_,rfl,rfl⟩,by kernel_rfl⟩,List.forall_mem_cons.2 ⟨⟨⟨_,rfl,rfl⟩,by kernel_rfl⟩,List.forall_mem_cons.2 ⟨⟨⟨_,rfl,rfl⟩,by kernel_rfl⟩,List.forall_mem_cons.2 ⟨⟨⟨_,rfl,rfl⟩,by kernel_rfl⟩,List.forall_mem_cons.2 ⟨⟨⟨_,rfl,rfl⟩,by kernel_rfl⟩,List.forall_mem_cons.2 ⟨⟨⟨_,rfl,rfl⟩,by kernel_rfl⟩,List.forall_mem_cons.2 ⟨⟨⟨_,rfl,rfl⟩,by kernel_rfl⟩,List.forall_mem_cons.2 ⟨⟨⟨_,rfl,rfl⟩,by kernel_rfl⟩,List.forall_mem_cons.2 ⟨⟨⟨_,rfl,rfl⟩,by kernel_rfl⟩,List.forall_mem_cons.2 ⟨⟨⟨_,rfl,rfl⟩,by kernel_rfl⟩,List.forall_mem_cons.2 ⟨trivial,List.forall_mem_cons.2 ⟨⟨⟨_,rfl,rfl⟩,by kernel_rfl⟩,List.forall_mem_cons.2 ⟨trivial,List.forall_mem_cons.2 ⟨⟨⟨_,rfl,rfl⟩,by kernel_rfl⟩,List.forall_mem_cons.2 ⟨⟨⟨_,rfl,rfl⟩,by kernel_rfl⟩,List.forall_mem_cons.2 ⟨⟨⟨_,rfl,rfl⟩,by kernel_rfl⟩,List.forall_mem_cons.2 ⟨⟨⟨_,rfl,rfl⟩,by kernel_rfl⟩,List.forall_mem_cons.2 ⟨⟨⟨_,rfl,rfl⟩,by kernel_rfl⟩,List.forall_mem_cons.2 ⟨⟨⟨_,rfl,rfl⟩,by kernel_rfl⟩,List.forall_mem_cons.2 ⟨⟨⟨_,rfl,rfl⟩,by kernel_rfl⟩,List.forall_mem_cons.2 ⟨⟨⟨_,rfl,rfl⟩,by kernel_rfl⟩,List.forall_mem_cons.2 ⟨⟨⟨_,rfl,rfl⟩,by kernel_rfl⟩,List.forall_mem_cons.2 ⟨⟨⟨_,rfl,rfl⟩,by kernel_rfl⟩,List.forall_mem_cons.2 ⟨⟨⟨_,rfl,rfl⟩,by kernel_rfl⟩,List.forall_mem_cons.2 ⟨⟨⟨_,rfl,rfl⟩,by kernel_rfl⟩,List.forall_mem_cons.2 ⟨⟨⟨_,rfl,rfl⟩,by kernel_rfl⟩,List.forall_mem_cons.2 ⟨⟨⟨_,rfl,rfl⟩,by kernel_rfl⟩,List.forall_mem_cons.2 ⟨⟨⟨_,rfl,rfl⟩,by kernel_rfl⟩,List.forall_mem_cons.2 ⟨⟨⟨_,rfl,rfl⟩,by kernel_rfl⟩,List.forall_mem_cons.2 ⟨⟨⟨_,rfl,rfl⟩,by kernel_rfl⟩,List.forall_mem_cons.2 ⟨⟨⟨_,rfl,rfl⟩,by kernel_rfl⟩,List.forall_mem_cons.2 ⟨⟨⟨_,rfl,rfl⟩,by kernel_rfl⟩,List.forall_mem_cons.2 ⟨⟨⟨_,rfl,rfl⟩,by kernel_rfl⟩,List.forall_mem_cons.2 ⟨⟨⟨_,rfl,rfl⟩,by kernel_rfl⟩,List.forall_mem_cons.2 ⟨⟨⟨_,rfl,rfl⟩,by kernel_rfl⟩,List.forall_mem_cons.2 ⟨⟨⟨_,rfl,rfl⟩,by kernel_rfl⟩,List.forall_mem_cons.2 ⟨⟨⟨_,rfl,rfl⟩,by kernel_rfl⟩,List.forall_mem_cons.2 ⟨⟨⟨_,rfl,rfl⟩,by kernel_rfl⟩,List.forall_mem_cons.2 ⟨⟨⟨_,rfl,rfl⟩,by kernel_rfl⟩,List.forall_mem_cons.2 ⟨⟨⟨_,rfl,rfl⟩,by kernel_rfl⟩,List.forall_mem_cons.2 ⟨⟨⟨_,rfl,rfl⟩,by kernel_rfl⟩,List.forall_mem_cons.2 ⟨⟨⟨_,rfl,rfl⟩,by kernel_rfl⟩,List.forall_mem_cons.2 ⟨⟨⟨_,rfl,rfl⟩,by kernel_rfl⟩,List.forall_mem_cons.2 ⟨⟨⟨_,rfl,rfl⟩,by kernel_rfl⟩,List.forall_mem_cons.2 ⟨⟨⟨_,rfl,rfl⟩,by kernel_rfl⟩,List.forall_mem_cons.2 ⟨trivial,List.forall_mem_cons.2 ⟨trivial,List.forall_mem_cons.2 ⟨trivial,List.forall_mem_cons.2 ⟨trivial,List.forall_mem_cons.2 ⟨trivial,List.forall_mem_cons.2 ⟨trivial,List.forall_mem_nil _⟩⟩⟩⟩⟩⟩⟩⟩⟩⟩⟩⟩⟩⟩⟩⟩⟩⟩⟩⟩⟩⟩⟩⟩⟩⟩⟩⟩⟩⟩⟩⟩⟩⟩⟩⟩⟩⟩⟩⟩⟩⟩⟩⟩⟩⟩⟩⟩⟩⟩⟩⟩⟩⟩⟩⟩⟩⟩⟩⟩⟩⟩⟩⟩⟩⟩⟩⟩⟩⟩⟩⟩⟩⟩⟩⟩⟩⟩⟩⟩⟩⟩⟩⟩⟩⟩⟩⟩⟩⟩⟩⟩⟩⟩⟩⟩⟩⟩⟩⟩⟩⟩⟩⟩⟩⟩⟩⟩⟩⟩⟩⟩⟩⟩⟩⟩⟩⟩⟩⟩⟩,trivial⟩
theorem pSame_ok:pSame.Ok Try.prog FI FB:=
 Con.of_plain (body:=Try.f6.body.getD .skip) pok fiok (EntsFor.cons pWks_ok (EntsFor.consH cOwn_ok (EntsFor.cons cSmP_ok (EntsFor.consM cIs_ok (EntsFor.consM cIs0_ok (EntsFor.consM cAct_ok (EntsFor.consM cAct0_ok (EntsFor.consM cEach_ok (EntsFor.consH cRSame_ok (EntsFor.consM cPSame_ok (EntsFor.consM cFew_ok EntsFor.nil))))))))))) pSame Try.func6 (by kernel_rfl) 4 [pSame_T1,pSame_T2,pSame_T3] (by kernel_rfl) [pSame_L0,pSame_L1,pSame_L2,pSame_L3] ⟨pSame_h0,pSame_h1,pSame_h2,pSame_h3,trivial⟩ pSame_c
  pSame_inv pSame_mu (fun _ _ _=>trivial) fun kv iv0 bv0 hin hF k l iv bv hk ha hi=>match k,hk,hi with
  | 0,hk,hi=>by
    cases hk
    exact pSame_o0 kv iv0 bv0 hin hF iv bv ha hi
  | 1,hk,hi=>by
    cases hk
    exact pSame_o1 kv iv0 bv0 hin hF iv bv ha hi
  | 2,hk,hi=>by
    cases hk
    exact pSame_o2 kv iv0 bv0 hin hF iv bv ha hi
  | 3,hk,hi=>by
    cases hk
    exact pSame_o3 kv iv0 bv0 hin hF iv bv ha hi
  | k+4,hk,_=>by simp at hk
end
end Go.Sx.Pk
