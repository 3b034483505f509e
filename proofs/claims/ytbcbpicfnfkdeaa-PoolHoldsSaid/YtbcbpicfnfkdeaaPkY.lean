/- The pool: PoolHolds. -/
import Derived.Test.YtbcbpicfnfkdeaaPkT
import Derived.Test.YtbcbpicfnfkdeaaPkW
import Derived.Test.YtbcbpicfnfkdeaaPkV
namespace Go.Sx.Pk
set_option linter.unusedVariables false
set_option linter.unusedSimpArgs false
set_option maxRecDepth 100000
set_option maxHeartbeats 0
noncomputable section
open Go Go.Sx Go.Proofs
def mxF (i:Nat):SB×Bool:=(.le (SI.fl (.v i)) (.c 9223372036854775807),true)
def pHolds:Con:=⟨4,[0,1],[.fs 2 (.v 0),.fs 1 (.v 1)],[],[],[mxF 0,mxF 1],o1 (.bo (.c true)),[29]⟩
def pHolds_T1:Tm:=⟨⟨4,159,[(6,(.it .i64 (.v 22))),(5,(.it .i64 (.v 23))),(0,(.fs 2 (.v 0))),(1,(.fs 1 (.v 1)))],[(.code (atC Try.f4 [1,1,0,1,0,0])),(.inLoop (atC Try.f4 [1,1,0,1,0,0])),(.inBlock 0),(.code (atC Try.f4 [1,1,1]))],[],.none⟩,[],
    ⟨[],0,0,0,[((.le (.ap 200 (.v 0) (.c 0) (.c 0) (.c 0) (.c 0) (.c 0)) (.c 9223372036854775807)),.true),((.le (.ap 200 (.v 1) (.c 0) (.c 0) (.c 0) (.c 0) (.c 0)) (.c 9223372036854775807)),.true)],[0],[(23,((-9223372036854775808),9223372036854775807)),(22,(0,(-1)))]⟩,[22,23]⟩
def pHolds_T2:Tm:=⟨⟨4,159,[(10,(.it .i64 (.v 24))),(9,.sn),(7,(.pt (.n 0) (.c 0))),(0,(.fs 2 (.v 0))),(1,(.fs 1 (.v 1)))],[(.code (atC Try.f4 [1,1,1,1,1,1,1,0,1,0,0])),(.inLoop (atC Try.f4 [1,1,1,1,1,1,1,0,1,0,0])),(.inBlock 2),(.code (atC Try.f4 [1,1,1,1,1,1,1,1]))],[],.none⟩,[],
    ⟨[(0,(.cells [.sn,(.it .i64 (.c 4))] 59))],1,0,0,[((.lt (.c 60) (.ap 200 (.v 1) (.c 0) (.c 0) (.c 0) (.c 0) (.c 0))),.false),((.lt (.c 500) (.v 23)),.false),((.lt (.c 30) (.ap 200 (.v 0) (.c 0) (.c 0) (.c 0) (.c 0) (.c 0))),.false),((.lt (.v 22) (.ap 200 (.v 0) (.c 0) (.c 0) (.c 0) (.c 0) (.c 0))),.false),((.le (.ap 200 (.v 0) (.c 0) (.c 0) (.c 0) (.c 0) (.c 0)) (.c 9223372036854775807)),.true),((.le (.ap 200 (.v 1) (.c 0) (.c 0) (.c 0) (.c 0) (.c 0)) (.c 9223372036854775807)),.true)],[0],[(24,(0,(-1)))]⟩,[24]⟩
def pHolds_T3:Tm:=⟨⟨4,159,[(10,(.it .i64 (.v 38))),(9,(.sl (.n 15) (.c 0) (.v 26) (.v 29))),(7,(.pt (.n 0) (.c 0))),(0,(.fs 2 (.v 0))),(1,(.fs 1 (.v 1)))],[(.code (atC Try.f4 [1,1,1,1,1,1,1,0,1,0,0])),(.inLoop (atC Try.f4 [1,1,1,1,1,1,1,0,1,0,0])),(.inBlock 2),(.code (atC Try.f4 [1,1,1,1,1,1,1,1]))],[],.none⟩,[],
    ⟨[(0,(.cells [(.sl (.n 13) (.c 0) (.v 26) (.v 28)),(.it .i64 (.c 4))] 59)),(13,(.arr [(.nt .i64),(.nt .i64),(.fs 0)] (.v 25) (.v 26) 29 (.v 28))),(15,(.arr [(.nt .i64),(.nt .i64),(.fs 0)] (.v 27) (.v 26) 29 (.v 29)))],16,0,0,[((.lt (.c 65536) (.ap 200 (.ap 8 (.v 0) (.v 24) (.c 2) (.c 0) (.c 10) (.c 0)) (.c 0) (.c 0) (.c 0) (.c 0) (.c 0))),.false),((.eq (.ap 3 (.v 0) (.v 24) (.c 0) (.c 0) (.c 0) (.c 0)) (.ap 3 (.v 0) (.v 24) (.c 1) (.c 0) (.c 0) (.c 0))),.false),((.le (.c 4) (.ap 3 (.v 0) (.v 24) (.c 1) (.c 0) (.c 0) (.c 0))),.false),((.lt (.ap 3 (.v 0) (.v 24) (.c 1) (.c 0) (.c 0) (.c 0)) (.c 0)),.false),((.le (.c 4) (.ap 3 (.v 0) (.v 24) (.c 0) (.c 0) (.c 0) (.c 0))),.false),((.lt (.ap 3 (.v 0) (.v 24) (.c 0) (.c 0) (.c 0) (.c 0)) (.c 0)),.false),((.lt (.v 24) (.ap 200 (.v 0) (.c 0) (.c 0) (.c 0) (.c 0) (.c 0))),.true),((.lt (.c 60) (.ap 200 (.v 1) (.c 0) (.c 0) (.c 0) (.c 0) (.c 0))),.false),((.lt (.c 500) (.v 23)),.false),((.lt (.c 30) (.ap 200 (.v 0) (.c 0) (.c 0) (.c 0) (.c 0) (.c 0))),.false),((.lt (.v 22) (.ap 200 (.v 0) (.c 0) (.c 0) (.c 0) (.c 0) (.c 0))),.false),((.le (.ap 200 (.v 0) (.c 0) (.c 0) (.c 0) (.c 0) (.c 0)) (.c 9223372036854775807)),.true),((.le (.ap 200 (.v 1) (.c 0) (.c 0) (.c 0) (.c 0) (.c 0)) (.c 9223372036854775807)),.true),((.le (.v 26) (.v 28)),.true),((.le (.v 26) (.v 29)),.true)],[0],[(38,((-9223372036854775808),9223372036854775807)),(26,(0,(-1))),(28,(0,(-1))),(29,(0,(-1)))]⟩,[38,28,29,25,26,27]⟩
def pHolds_T4:Tm:=⟨⟨4,159,[(11,(.it .i64 (.c 0))),(9,.sn),(7,(.pt (.n 0) (.c 0))),(1,(.fs 1 (.v 1)))],[(.code (atC Try.f4 [1,1,1,1,1,1,1,1,0,1,0,0])),(.inLoop (atC Try.f4 [1,1,1,1,1,1,1,1,0,1,0,0])),(.inBlock 4),(.code (atC Try.f4 [1,1,1,1,1,1,1,1,1]))],[],.none⟩,[],
    ⟨[(0,(.cells [.sn,(.it .i64 (.c 4))] 59))],1,0,0,[((.lt (.v 24) (.ap 200 (.v 0) (.c 0) (.c 0) (.c 0) (.c 0) (.c 0))),.false),((.lt (.c 60) (.ap 200 (.v 1) (.c 0) (.c 0) (.c 0) (.c 0) (.c 0))),.false),((.lt (.c 500) (.v 23)),.false),((.lt (.c 30) (.ap 200 (.v 0) (.c 0) (.c 0) (.c 0) (.c 0) (.c 0))),.false),((.lt (.v 22) (.ap 200 (.v 0) (.c 0) (.c 0) (.c 0) (.c 0) (.c 0))),.false),((.le (.ap 200 (.v 0) (.c 0) (.c 0) (.c 0) (.c 0) (.c 0)) (.c 9223372036854775807)),.true),((.le (.ap 200 (.v 1) (.c 0) (.c 0) (.c 0) (.c 0) (.c 0)) (.c 9223372036854775807)),.true)],[0],[(24,(0,(-1))),(24,(0,(-1)))]⟩,[]⟩
def pHolds_T5:Tm:=⟨⟨4,159,[(11,(.it .i64 (.v 117))),(9,(.sl (.n 15) (.c 0) (.v 76) (.v 118))),(7,(.pt (.n 0) (.c 0))),(1,(.fs 1 (.v 1)))],[(.code (atC Try.f4 [1,1,1,1,1,1,1,1,0,1,0,0])),(.inLoop (atC Try.f4 [1,1,1,1,1,1,1,1,0,1,0,0])),(.inBlock 4),(.code (atC Try.f4 [1,1,1,1,1,1,1,1,1]))],[],.none⟩,[],
    ⟨[(0,(.cells [(.sl (.n 13) (.c 0) (.v 199) (.v 119)),(.it .i64 (.c 4))] 59)),(13,(.arr [(.nt .i64),(.nt .i64),(.fs 0)] (.v 75) (.v 199) 29 (.v 119))),(15,(.arr [(.nt .i64),(.nt .i64),(.fs 0)] (.v 77) (.v 76) 29 (.v 118)))],16,0,0,[((.lt (.v 38) (.ap 200 (.v 0) (.c 0) (.c 0) (.c 0) (.c 0) (.c 0))),.false),((.lt (.c 65536) (.ap 200 (.ap 8 (.v 0) (.v 24) (.c 2) (.c 0) (.c 10) (.c 0)) (.c 0) (.c 0) (.c 0) (.c 0) (.c 0))),.false),((.eq (.ap 3 (.v 0) (.v 24) (.c 0) (.c 0) (.c 0) (.c 0)) (.ap 3 (.v 0) (.v 24) (.c 1) (.c 0) (.c 0) (.c 0))),.false),((.le (.c 4) (.ap 3 (.v 0) (.v 24) (.c 1) (.c 0) (.c 0) (.c 0))),.false),((.lt (.ap 3 (.v 0) (.v 24) (.c 1) (.c 0) (.c 0) (.c 0)) (.c 0)),.false),((.le (.c 4) (.ap 3 (.v 0) (.v 24) (.c 0) (.c 0) (.c 0) (.c 0))),.false),((.lt (.ap 3 (.v 0) (.v 24) (.c 0) (.c 0) (.c 0) (.c 0)) (.c 0)),.false),((.lt (.v 24) (.ap 200 (.v 0) (.c 0) (.c 0) (.c 0) (.c 0) (.c 0))),.true),((.lt (.c 60) (.ap 200 (.v 1) (.c 0) (.c 0) (.c 0) (.c 0) (.c 0))),.false),((.lt (.c 500) (.v 23)),.false),((.lt (.c 30) (.ap 200 (.v 0) (.c 0) (.c 0) (.c 0) (.c 0) (.c 0))),.false),((.lt (.v 22) (.ap 200 (.v 0) (.c 0) (.c 0) (.c 0) (.c 0) (.c 0))),.false),((.le (.ap 200 (.v 0) (.c 0) (.c 0) (.c 0) (.c 0) (.c 0)) (.c 9223372036854775807)),.true),((.le (.ap 200 (.v 1) (.c 0) (.c 0) (.c 0) (.c 0) (.c 0)) (.c 9223372036854775807)),.true),((.le (.v 26) (.v 28)),.true),((.le (.v 26) (.v 29)),.true),((.le (.v 199) (.v 119)),.true),((.le (.v 76) (.v 118)),.true)],[0],[(199,(0,4611686018427387904)),(118,(0,(-1))),(119,(0,(-1))),(76,(0,(-1))),(117,(0,(-1)))]⟩,[199,117,118,119,75,76,77]⟩
def pHolds_L0:List Lf:=
 [(.cut ([((.le (.ap 200 (.v 0) (.c 0) (.c 0) (.c 0) (.c 0) (.c 0)) (.c 9223372036854775807)),.true),((.le (.ap 200 (.v 1) (.c 0) (.c 0) (.c 0) (.c 0) (.c 0)) (.c 9223372036854775807)),.true)]) 1 ⟨⟨[(23,(.c 0)),(22,(.c 0))],[]⟩,[],[],[]⟩ [] (shT pHolds_T1 ⟨⟨[(23,(.c 0)),(22,(.c 0))],[]⟩,[],[],[]⟩))]
def pHolds_L1:List Lf:=
 let x0_:SI:=(.ap 200 (.v 0) (.c 0) (.c 0) (.c 0) (.c 0) (.c 0))
 let x1_:SI:=(.ap 200 (.v 1) (.c 0) (.c 0) (.c 0) (.c 0) (.c 0))
 let f0_:List (SB×Bool):=[((.le x0_ (.c 9223372036854775807)),.true),((.le x1_ (.c 9223372036854775807)),.true)]
 let f1_:List (SB×Bool):=((.lt (.v 22) x0_),.true)::f0_
 let f2_:List (SB×Bool):=((.lt (.v 22) x0_),.false)::f0_
 let f3_:List (SB×Bool):=((.le (.v 22) (.c 30)),.true)::f1_
 let f4_:List (SB×Bool):=((.lt (.c 30) x0_),.false)::f2_
 let f5_:List (SB×Bool):=((.le (.v 23) (.c 500)),.false)::f3_
 let f6_:List (SB×Bool):=((.lt (.c 500) (.v 23)),.false)::f4_
 [(let i_:In:=⟨⟨[(23,(.op .add (.v 23) (.op .imin (.ap 200 (.ap 8 (.v 0) (.v 22) (.c 2) (.c 0) (.c 10) (.c 0)) (.c 0) (.c 0) (.c 0) (.c 0) (.c 0)) (.c 501)))),(22,(.op .add (.v 22) (.c 1)))],[]⟩,[],[],[]⟩;.cut (((.le (.v 23) (.c 500)),.true)::f3_) 1 i_ [] (shT pHolds_T1 i_)),
  (.fin (((.lt (.c 30) x0_),.true)::f5_) 0 ⟨⟨[],[]⟩,[],[],[]⟩ [] []),
  (.fin (((.lt (.c 30) x0_),.false)::f5_) 0 ⟨⟨[],[]⟩,[],[],[]⟩ [] []),
  (.fin (((.le (.v 22) (.c 30)),.false)::f1_) 0 ⟨⟨[],[]⟩,[],[],[]⟩ [] []),
  (.fin (((.lt (.c 30) x0_),.true)::f2_) 0 ⟨⟨[],[]⟩,[],[],[]⟩ [] []),
  (.fin (((.lt (.c 500) (.v 23)),.true)::f4_) 0 ⟨⟨[],[]⟩,[],[],[]⟩ [] []),
  (.fin (((.lt (.c 60) x1_),.true)::f6_) 0 ⟨⟨[],[]⟩,[],[],[]⟩ [] []),
  (.cut (((.lt (.c 60) x1_),.false)::f6_) 2 ⟨⟨[(24,(.c 0))],[]⟩,[(0,0)],[],[]⟩ [] (shT pHolds_T2 ⟨⟨[(24,(.c 0))],[]⟩,[(0,0)],[],[]⟩))]
def pHolds_L2:List Lf:=
 let x0_:SI:=(.op .add (.v 24) (.c 1))
 let x1_:SI:=(.ap 3 (.v 0) (.v 24) (.c 0) (.c 0) (.c 0) (.c 0))
 let x2_:SI:=(.ap 3 (.v 0) (.v 24) (.c 1) (.c 0) (.c 0) (.c 0))
 let x3_:SI:=(.ap 200 (.v 1) (.c 0) (.c 0) (.c 0) (.c 0) (.c 0))
 let x4_:SI:=(.ap 200 (.v 0) (.c 0) (.c 0) (.c 0) (.c 0) (.c 0))
 let x5_:SI:=(.ap 8 (.v 0) (.v 24) (.c 2) (.c 0) (.c 10) (.c 0))
 let x6_:SI:=(.ap 200 x5_ (.c 0) (.c 0) (.c 0) (.c 0) (.c 0))
 let x7_:SI:=(.ap 8 (.ap 8 (.c 0) (.c 0) (.c 0) x1_ (.c 0) (.c 0)) (.c 0) (.c 1) x2_ (.c 0) (.c 0))
 let x8_:SI:=(.ap 8 x7_ (.c 0) (.c 2) x5_ (.c 0) (.c 0))
 let x9_:SI:=(.ap 200 (.ap 8 x8_ (.c 0) (.c 2) (.c 0) (.c 10) (.c 0)) (.c 0) (.c 0) (.c 0) (.c 0) (.c 0))
 let f0_:List (SB×Bool):=[((.lt (.c 60) x3_),.false),((.lt (.c 500) (.v 23)),.false),((.lt (.c 30) x4_),.false),((.lt (.v 22) x4_),.false),((.le x4_ (.c 9223372036854775807)),.true),((.le x3_ (.c 9223372036854775807)),.true)]
 let f1_:List (SB×Bool):=((.lt (.v 24) x4_),.true)::f0_
 let f2_:List (SB×Bool):=((.lt x1_ (.c 0)),.false)::f1_
 let f3_:List (SB×Bool):=((.le (.c 4) x1_),.false)::f2_
 let f4_:List (SB×Bool):=((.lt x2_ (.c 0)),.false)::f3_
 let f5_:List (SB×Bool):=((.le (.c 4) x2_),.false)::f4_
 let f6_:List (SB×Bool):=((.eq x1_ x2_),.false)::f5_
 [(.cut (((.lt x1_ (.c 0)),.true)::f1_) 2 ⟨⟨[(24,(.wk .i64 x0_))],[]⟩,[(0,0)],[],[]⟩ [(.rn (.wk .i64 x0_) 0 (-1))] (shT pHolds_T2 ⟨⟨[(24,(.wk .i64 x0_))],[]⟩,[(0,0)],[],[]⟩)),
  (.cut (((.le (.c 4) x1_),.true)::f2_) 2 ⟨⟨[(24,(.wk .i64 x0_))],[]⟩,[(0,0)],[],[]⟩ [(.rn (.wk .i64 x0_) 0 (-1))] (shT pHolds_T2 ⟨⟨[(24,(.wk .i64 x0_))],[]⟩,[(0,0)],[],[]⟩)),
  (.cut (((.lt x2_ (.c 0)),.true)::f3_) 2 ⟨⟨[(24,(.wk .i64 x0_))],[]⟩,[(0,0)],[],[]⟩ [(.rn (.wk .i64 x0_) 0 (-1))] (shT pHolds_T2 ⟨⟨[(24,(.wk .i64 x0_))],[]⟩,[(0,0)],[],[]⟩)),
  (.cut (((.le (.c 4) x2_),.true)::f4_) 2 ⟨⟨[(24,(.wk .i64 x0_))],[]⟩,[(0,0)],[],[]⟩ [(.rn (.wk .i64 x0_) 0 (-1))] (shT pHolds_T2 ⟨⟨[(24,(.wk .i64 x0_))],[]⟩,[(0,0)],[],[]⟩)),
  (.cut (((.eq x1_ x2_),.true)::f5_) 2 ⟨⟨[(24,(.wk .i64 x0_))],[]⟩,[(0,0)],[],[]⟩ [(.rn (.wk .i64 x0_) 0 (-1))] (shT pHolds_T2 ⟨⟨[(24,(.wk .i64 x0_))],[]⟩,[(0,0)],[],[]⟩)),
  (.cut (((.lt (.c 65536) x6_),.true)::f6_) 2 ⟨⟨[(24,(.wk .i64 x0_))],[]⟩,[(0,0)],[],[]⟩ [(.rn (.wk .i64 x0_) 0 (-1))] (shT pHolds_T2 ⟨⟨[(24,(.wk .i64 x0_))],[]⟩,[(0,0)],[],[]⟩)),
  (let i_:In:=⟨⟨[(27,(.ap 8 x7_ (.c 0) (.c 2) x5_ (.c 0) (.c 0))),(25,(.ap 8 x7_ (.c 0) (.c 2) x5_ (.c 0) (.c 0))),(28,(.d 0)),(29,(.d 1)),(26,(.c 1)),(38,(.wk .i64 x0_))],[]⟩,[(13,13),(0,0),(15,15)],[],[]⟩;.cut (((.le (.c 1) (.d 1)),.true)::((.le (.c 1) (.d 0)),.true)::((.lt (.c 65536) x6_),.false)::f6_) 3 i_ [(.ei (.ap 3 x8_ (.c 0) (.c 0) (.c 0) (.c 0) (.c 0)) (.ap 3 (.v 0) (.v 24) (.c 0) (.c 0) (.c 0) (.c 0))),(.ei (.ap 3 x8_ (.c 0) (.c 1) (.c 0) (.c 0) (.c 0)) (.ap 3 (.v 0) (.v 24) (.c 1) (.c 0) (.c 0) (.c 0))),(.fa (.eq x9_ x6_) .true),(.ar [(.nt .u8)] (.ap 8 x8_ (.c 0) (.c 2) (.c 0) (.c 10) (.c 0)) (.ap 8 (.v 0) (.v 24) (.c 2) (.c 0) (.c 10) (.c 0)) (.ap 200 x5_ (.c 0) (.c 0) (.c 0) (.c 0) (.c 0))),(.fa (.le (.c 1) (.c 1)) .true),(.fa (.le (.c 1) (.d 0)) .true),(.ei (.ap 3 x8_ (.c 0) (.c 0) (.c 0) (.c 0) (.c 0)) (.ap 3 (.v 0) (.v 24) (.c 0) (.c 0) (.c 0) (.c 0))),(.ei (.ap 3 x8_ (.c 0) (.c 1) (.c 0) (.c 0) (.c 0)) (.ap 3 (.v 0) (.v 24) (.c 1) (.c 0) (.c 0) (.c 0))),(.fa (.eq x9_ x6_) .true),(.ar [(.nt .u8)] (.ap 8 x8_ (.c 0) (.c 2) (.c 0) (.c 10) (.c 0)) (.ap 8 (.v 0) (.v 24) (.c 2) (.c 0) (.c 10) (.c 0)) (.ap 200 x5_ (.c 0) (.c 0) (.c 0) (.c 0) (.c 0))),(.fa (.le (.c 1) (.c 1)) .true),(.fa (.le (.c 1) (.d 1)) .true)] (shT pHolds_T3 i_)),
  (.cut (((.lt (.v 24) x4_),.false)::f0_) 4 ⟨⟨[],[]⟩,[(0,0)],[],[]⟩ [] (shT pHolds_T4 ⟨⟨[],[]⟩,[(0,0)],[],[]⟩))]
def pHolds_L3:List Lf:=
 let x0_:SI:=(.op .add (.v 38) (.c 1))
 let x1_:SI:=(.ap 3 (.v 0) (.v 24) (.c 0) (.c 0) (.c 0) (.c 0))
 let x2_:SI:=(.ap 3 (.v 0) (.v 24) (.c 1) (.c 0) (.c 0) (.c 0))
 let x3_:SI:=(.ap 3 (.v 0) (.v 38) (.c 0) (.c 0) (.c 0) (.c 0))
 let x4_:SI:=(.ap 3 (.v 0) (.v 38) (.c 1) (.c 0) (.c 0) (.c 0))
 let x5_:SI:=(.ap 200 (.v 0) (.c 0) (.c 0) (.c 0) (.c 0) (.c 0))
 let x6_:SI:=(.ap 200 (.v 1) (.c 0) (.c 0) (.c 0) (.c 0) (.c 0))
 let x7_:SI:=(.ap 8 (.v 0) (.v 38) (.c 2) (.c 0) (.c 10) (.c 0))
 let x8_:SI:=(.ap 200 x7_ (.c 0) (.c 0) (.c 0) (.c 0) (.c 0))
 let f0_:List (SB×Bool):=[((.lt (.c 65536) (.ap 200 (.ap 8 (.v 0) (.v 24) (.c 2) (.c 0) (.c 10) (.c 0)) (.c 0) (.c 0) (.c 0) (.c 0) (.c 0))),.false),((.eq x1_ x2_),.false),((.le (.c 4) x2_),.false),((.lt x2_ (.c 0)),.false),((.le (.c 4) x1_),.false),((.lt x1_ (.c 0)),.false),((.lt (.v 24) x5_),.true),((.lt (.c 60) x6_),.false),((.lt (.c 500) (.v 23)),.false),((.lt (.c 30) x5_),.false),((.lt (.v 22) x5_),.false),((.le x5_ (.c 9223372036854775807)),.true),((.le x6_ (.c 9223372036854775807)),.true),((.le (.v 26) (.v 28)),.true),((.le (.v 26) (.v 29)),.true)]
 let f1_:List (SB×Bool):=((.lt (.v 38) x5_),.true)::f0_
 let f2_:List (SB×Bool):=((.le (.c 0) (.v 38)),.true)::f1_
 let f3_:List (SB×Bool):=((.lt x3_ (.c 0)),.false)::f2_
 let f4_:List (SB×Bool):=((.le (.c 4) x3_),.false)::f3_
 let f5_:List (SB×Bool):=((.lt x4_ (.c 0)),.false)::f4_
 let f6_:List (SB×Bool):=((.le (.c 4) x4_),.false)::f5_
 let f7_:List (SB×Bool):=((.eq x3_ x4_),.false)::f6_
 let f8_:List (SB×Bool):=((.lt (.c 65536) x8_),.false)::f7_
 [(let i_:In:=⟨⟨[(27,(.v 27)),(25,(.v 25)),(28,(.v 28)),(29,(.v 29)),(26,(.v 26)),(38,(.wk .i64 x0_))],[]⟩,[(13,13),(0,0),(15,15)],[],[]⟩;.cut (((.lt x3_ (.c 0)),.true)::f2_) 3 i_ [] (shT pHolds_T3 i_)),
  (let i_:In:=⟨⟨[(27,(.v 27)),(25,(.v 25)),(28,(.v 28)),(29,(.v 29)),(26,(.v 26)),(38,(.wk .i64 x0_))],[]⟩,[(13,13),(0,0),(15,15)],[],[]⟩;.cut (((.le (.c 4) x3_),.true)::f3_) 3 i_ [] (shT pHolds_T3 i_)),
  (let i_:In:=⟨⟨[(27,(.v 27)),(25,(.v 25)),(28,(.v 28)),(29,(.v 29)),(26,(.v 26)),(38,(.wk .i64 x0_))],[]⟩,[(13,13),(0,0),(15,15)],[],[]⟩;.cut (((.lt x4_ (.c 0)),.true)::f4_) 3 i_ [] (shT pHolds_T3 i_)),
  (let i_:In:=⟨⟨[(27,(.v 27)),(25,(.v 25)),(28,(.v 28)),(29,(.v 29)),(26,(.v 26)),(38,(.wk .i64 x0_))],[]⟩,[(13,13),(0,0),(15,15)],[],[]⟩;.cut (((.le (.c 4) x4_),.true)::f5_) 3 i_ [] (shT pHolds_T3 i_)),
  (let i_:In:=⟨⟨[(27,(.v 27)),(25,(.v 25)),(28,(.v 28)),(29,(.v 29)),(26,(.v 26)),(38,(.wk .i64 x0_))],[]⟩,[(13,13),(0,0),(15,15)],[],[]⟩;.cut (((.eq x3_ x4_),.true)::f6_) 3 i_ [] (shT pHolds_T3 i_)),
  (let i_:In:=⟨⟨[(27,(.v 27)),(25,(.v 25)),(28,(.v 28)),(29,(.v 29)),(26,(.v 26)),(38,(.wk .i64 x0_))],[]⟩,[(13,13),(0,0),(15,15)],[],[]⟩;.cut (((.lt (.c 65536) x8_),.true)::f7_) 3 i_ [] (shT pHolds_T3 i_)),
  (let i_:In:=⟨⟨[(27,(.v 27)),(25,(.v 25)),(28,(.v 28)),(29,(.v 29)),(26,(.v 26)),(38,(.wk .i64 x0_))],[]⟩,[(13,13),(0,0),(15,15)],[],[]⟩;.cut (((.le (.c 4096) (.v 26)),.true)::f8_) 3 i_ [] (shT pHolds_T3 i_)),
  (let i_:In:=⟨⟨[(27,(.ap 8 (.ap 8 (.ap 8 (.v 27) (.v 26) (.c 0) x3_ (.c 0) (.c 0)) (.v 26) (.c 1) x4_ (.c 0) (.c 0)) (.v 26) (.c 2) x7_ (.c 0) (.c 0))),(25,(.ap 8 (.ap 8 (.ap 8 (.v 25) (.v 26) (.c 0) x3_ (.c 0) (.c 0)) (.v 26) (.c 1) x4_ (.c 0) (.c 0)) (.v 26) (.c 2) x7_ (.c 0) (.c 0))),(28,(.d 0)),(29,(.d 1)),(26,(.op .add (.v 26) (.c 1))),(38,(.wk .i64 x0_))],[]⟩,[(13,28),(0,0),(15,30)],[],[]⟩;.cut (((.le (.op .add (.v 26) (.c 1)) (.d 1)),.true)::((.le (.op .add (.v 26) (.c 1)) (.d 0)),.true)::((.le (.c 4096) (.v 26)),.false)::f8_) 3 i_ [] (shT pHolds_T3 i_)),
  (.bad (((.le (.c 0) (.v 38)),.false)::f1_)),
  (let i_:In:=⟨⟨[(77,(.v 27)),(75,(.v 25)),(119,(.v 28)),(199,(.v 26)),(118,(.v 29)),(76,(.v 26)),(117,(.c 0))],[]⟩,[(13,13),(0,0),(15,15)],[],[]⟩;.cut (((.lt (.v 38) x5_),.false)::f0_) 5 i_ [(.rn (.v 26) 0 4611686018427387904)] (shT pHolds_T5 i_))]
def pHolds_L4:List Lf:=
 let x0_:SI:=(.ap 200 (.v 0) (.c 0) (.c 0) (.c 0) (.c 0) (.c 0))
 let x1_:SI:=(.ap 200 (.v 1) (.c 0) (.c 0) (.c 0) (.c 0) (.c 0))
 let p2_:SB×Bool:=((.ap 24 (.c 0) (.c 0) (.c 0) (.c 1000) (.c 0) (.c 0)),.true)
 let p3_:SB×Bool:=((.ap 24 (.c 0) (.c 0) (.c 0) (.c 1000) (.c 0) (.c 0)),.false)
 let f0_:List (SB×Bool):=[((.lt (.v 24) x0_),.false),((.lt (.c 60) x1_),.false),((.lt (.c 500) (.v 23)),.false),((.lt (.c 30) x0_),.false),((.lt (.v 22) x0_),.false),((.le x0_ (.c 9223372036854775807)),.true),((.le x1_ (.c 9223372036854775807)),.true)]
 let f1_:List (SB×Bool):=((.lt (.c 0) x1_),.true)::f0_
 let f2_:List (SB×Bool):=((.lt (.c 0) x1_),.false)::f0_
 [(.fin (p2_::f1_) 0 ⟨⟨[],[]⟩,[],[],[]⟩ [] []),
  (.fin (p3_::f1_) 0 ⟨⟨[],[]⟩,[],[],[]⟩ [(.eb (.c .true) (.c .false))] []),
  (.fin (p2_::f2_) 0 ⟨⟨[],[]⟩,[],[],[]⟩ [] []),
  (.fin (p3_::f2_) 0 ⟨⟨[],[]⟩,[],[],[]⟩ [(.eb (.c .true) (.c .false))] [])]
def pHolds_L5:List Lf:=
 let x0_:SI:=(.op .add (.v 117) (.c 1))
 let p1_:SB×Bool:=((.le (.v 199) (.c 4096)),.true)
 let p2_:SB×Bool:=((.le (.v 199) (.c 4096)),.false)
 let x3_:SI:=(.ap 3 (.v 0) (.v 24) (.c 0) (.c 0) (.c 0) (.c 0))
 let x4_:SI:=(.ap 3 (.v 0) (.v 24) (.c 1) (.c 0) (.c 0) (.c 0))
 let x5_:SI:=(.ap 200 (.v 0) (.c 0) (.c 0) (.c 0) (.c 0) (.c 0))
 let x6_:SI:=(.ap 200 (.v 1) (.c 0) (.c 0) (.c 0) (.c 0) (.c 0))
 let x7_:SI:=(.ap 3 (.v 1) (.v 117) (.c 0) (.c 0) (.c 0) (.c 0))
 let x8_:SI:=(.ap 8 (.v 77) (.v 76) (.c 0) (.c 0) (.c 11) (.c 0))
 let p9_:SB×Bool:=((.ap 26 (.v 75) (.v 199) (.c 0) (.c 0) (.c 0) (.c 0)),.true)
 let p10_:SB×Bool:=((.ap 26 (.v 75) (.v 199) (.c 0) (.c 0) (.c 0) (.c 0)),.false)
 let p11_:SB×Bool:=((.ap 24 (.v 75) x8_ (.v 199) (.c 1000) (.c 0) (.c 0)),.true)
 let p12_:SB×Bool:=((.ap 24 (.v 75) x8_ (.v 199) (.c 1000) (.c 0) (.c 0)),.false)
 let x13_:SI:=(.wk .i64 (.op .add (.op .tmod (.wk .i64 (.op .tdiv x7_ (.c 2))) (.v 76)) (.v 76)))
 let x14_:SI:=(.op .tmod x13_ (.v 76))
 let x15_:SI:=(.op .add x14_ (.c 1))
 let x16_:SI:=(.wk .i64 x15_)
 let x17_:SI:=(.ap 3 (.v 75) x14_ (.c 0) (.c 0) (.c 0) (.c 0))
 let x18_:SI:=(.ap 3 (.v 75) x14_ (.c 1) (.c 0) (.c 0) (.c 0))
 let x19_:SI:=(.ap 3 (.v 77) x14_ (.c 0) (.c 0) (.c 0) (.c 0))
 let x20_:SI:=(.ap 3 (.v 77) x14_ (.c 1) (.c 0) (.c 0) (.c 0))
 let x21_:SI:=(.ap 8 (.v 75) x14_ (.c 2) (.c 0) (.c 10) (.c 0))
 let x22_:SI:=(.ap 8 (.v 77) x14_ (.c 2) (.c 0) (.c 10) (.c 0))
 let x23_:SI:=(.op .sub (.v 76) x16_)
 let x24_:SI:=(.op .add (.op .add (.v 199) (.op .mul x14_ (.c (-1)))) (.c (-1)))
 let x25_:SI:=(.ap 200 x21_ (.c 0) (.c 0) (.c 0) (.c 0) (.c 0))
 let x26_:SI:=(.op .add x14_ x23_)
 let f0_:List (SB×Bool):=[((.lt (.v 38) x5_),.false),((.lt (.c 65536) (.ap 200 (.ap 8 (.v 0) (.v 24) (.c 2) (.c 0) (.c 10) (.c 0)) (.c 0) (.c 0) (.c 0) (.c 0) (.c 0))),.false),((.eq x3_ x4_),.false),((.le (.c 4) x4_),.false),((.lt x4_ (.c 0)),.false),((.le (.c 4) x3_),.false),((.lt x3_ (.c 0)),.false),((.lt (.v 24) x5_),.true),((.lt (.c 60) x6_),.false),((.lt (.c 500) (.v 23)),.false),((.lt (.c 30) x5_),.false),((.lt (.v 22) x5_),.false),((.le x5_ (.c 9223372036854775807)),.true),((.le x6_ (.c 9223372036854775807)),.true),((.le (.v 26) (.v 28)),.true),((.le (.v 26) (.v 29)),.true),((.le (.v 199) (.v 119)),.true),((.le (.v 76) (.v 118)),.true)]
 let f1_:List (SB×Bool):=((.lt (.v 117) x6_),.true)::f0_
 let f2_:List (SB×Bool):=((.lt (.v 117) x6_),.false)::f0_
 let f3_:List (SB×Bool):=((.lt (.c 0) (.v 76)),.true)::f1_
 let f4_:List (SB×Bool):=((.lt (.c 0) (.v 76)),.false)::f1_
 let f5_:List (SB×Bool):=p9_::f2_
 let f6_:List (SB×Bool):=((.eq (.op .tmod x7_ (.c 2)) (.c 0)),.true)::f3_
 let f7_:List (SB×Bool):=((.eq (.op .tmod x7_ (.c 2)) (.c 0)),.false)::f3_
 let f8_:List (SB×Bool):=p9_::f4_
 let f9_:List (SB×Bool):=p1_::f5_
 let f10_:List (SB×Bool):=((.le (.c 0) x14_),.true)::f6_
 let f11_:List (SB×Bool):=p9_::f7_
 let f12_:List (SB×Bool):=p1_::f8_
 let f13_:List (SB×Bool):=((.lt x14_ (.v 199)),.true)::f10_
 let f14_:List (SB×Bool):=p1_::f11_
 let f15_:List (SB×Bool):=((.le x25_ (.c 65536)),.true)::f13_
 let f16_:List (SB×Bool):=((.le (.c 0) x14_),.true)::f14_
 let f17_:List (SB×Bool):=((.lt x17_ (.c 0)),.false)::f15_
 let f18_:List (SB×Bool):=((.le (.c 4) x17_),.false)::f17_
 let f19_:List (SB×Bool):=((.le (.op .add (.v 199) (.c (-1))) (.d 0)),.true)::((.lt x14_ (.v 199)),.true)::f16_
 let f20_:List (SB×Bool):=((.lt x18_ (.c 0)),.false)::f18_
 let f21_:List (SB×Bool):=((.lt x14_ (.v 76)),.true)::f19_
 let f22_:List (SB×Bool):=((.le (.c 4) x18_),.false)::f20_
 let f23_:List (SB×Bool):=((.eq x17_ x19_),.true)::f21_
 let f24_:List (SB×Bool):=((.eq x17_ x18_),.false)::f22_
 let f25_:List (SB×Bool):=((.eq x18_ x20_),.true)::f23_
 let f26_:List (SB×Bool):=((.ap 2 x21_ x22_ (.c 0) (.c 0) (.c 0) (.c 0)),.true)::f25_
 let f27_:List (SB×Bool):=((.le (.op .add (.v 199) (.c 1)) (.d 0)),.true)::((.le (.c 4096) (.v 199)),.false)::f24_
 let f28_:List (SB×Bool):=((.le (.c 0) x16_),.true)::f26_
 let f29_:List (SB×Bool):=((.lt x14_ (.v 76)),.true)::f27_
 let f30_:List (SB×Bool):=((.le x16_ (.v 76)),.true)::f28_
 let f31_:List (SB×Bool):=((.eq (.v 76) x16_),.false)::f30_
 [(.fin (((.lt x17_ (.c 0)),.true)::f15_) 0 ⟨⟨[],[]⟩,[],[],[]⟩ [(.eb (.c .true) (.c .false))] []),
  (.fin (((.le (.c 4) x17_),.true)::f17_) 0 ⟨⟨[],[]⟩,[],[],[]⟩ [(.eb (.c .true) (.c .false))] []),
  (.fin (((.lt x18_ (.c 0)),.true)::f18_) 0 ⟨⟨[],[]⟩,[],[],[]⟩ [(.eb (.c .true) (.c .false))] []),
  (.fin (((.le (.c 4) x18_),.true)::f20_) 0 ⟨⟨[],[]⟩,[],[],[]⟩ [(.eb (.c .true) (.c .false))] []),
  (.fin (((.eq x17_ x18_),.true)::f22_) 0 ⟨⟨[],[]⟩,[],[],[]⟩ [(.eb (.c .true) (.c .false))] []),
  (.fin (((.le (.c 4096) (.v 199)),.true)::f24_) 0 ⟨⟨[],[]⟩,[],[],[]⟩ [(.eb (.c .true) (.c .false))] []),
  (let i_:In:=⟨⟨[(77,(.ap 8 (.ap 8 (.ap 8 (.v 77) (.v 76) (.c 0) x19_ (.c 0) (.c 0)) (.v 76) (.c 1) x20_ (.c 0) (.c 0)) (.v 76) (.c 2) x22_ (.c 0) (.c 0))),(75,(.ap 8 (.ap 8 (.ap 8 (.v 75) (.v 199) (.c 0) x17_ (.c 0) (.c 0)) (.v 199) (.c 1) x18_ (.c 0) (.c 0)) (.v 199) (.c 2) x21_ (.c 0) (.c 0))),(119,(.d 0)),(199,(.op .add (.v 199) (.c 1))),(118,(.d 1)),(76,(.op .add (.v 76) (.c 1))),(117,(.wk .i64 x0_))],[]⟩,[(13,30),(0,0),(15,32)],[],[]⟩;.cut (((.le (.op .add (.v 76) (.c 1)) (.d 1)),.true)::((.le (.op .add (.v 76) (.c 1)) (.c 16777216)),.true)::f29_) 5 i_ [(.rn (.wk .i64 x0_) 0 (-1))] (shT pHolds_T5 i_)),
  (.bad (((.le (.op .add (.v 76) (.c 1)) (.c 16777216)),.false)::f29_)),
  (.bad (((.lt x14_ (.v 76)),.false)::f27_)),
  (.bad (((.le x25_ (.c 65536)),.false)::f13_)),
  (.fin (((.lt x14_ (.v 199)),.false)::f10_) 0 ⟨⟨[],[]⟩,[],[],[]⟩ [(.eb (.c .true) (.c .false))] []),
  (.fin (((.le (.c 0) x14_),.false)::f6_) 0 ⟨⟨[],[]⟩,[],[],[]⟩ [(.eb (.c .true) (.c .false))] []),
  (let i_:In:=⟨⟨[(77,(.v 77)),(75,(.ap 9 (.v 75) x14_ (.v 75) x15_ x24_ (.c 0))),(119,(.d 0)),(199,(.op .add (.v 199) (.c (-1)))),(118,(.d 1)),(76,(.op .tmod x13_ (.v 76))),(117,(.wk .i64 x0_))],[]⟩,[(13,16),(0,0),(15,19)],[],[]⟩;.cut (((.le x14_ (.d 1)),.true)::((.eq (.v 76) x16_),.true)::f30_) 5 i_ [(.rn (.op .add (.v 199) (.c (-1))) 0 4611686018427387904),(.rn (.op .tmod x13_ (.v 76)) 0 (-1)),(.rn (.wk .i64 x0_) 0 (-1))] (shT pHolds_T5 i_)),
  (let i_:In:=⟨⟨[(77,(.ap 9 (.v 77) x14_ (.v 77) x16_ x23_ (.c 0))),(75,(.ap 9 (.v 75) x14_ (.v 75) x15_ x24_ (.c 0))),(119,(.d 0)),(199,(.op .add (.v 199) (.c (-1)))),(118,(.d 2)),(76,(.op .add x14_ x23_)),(117,(.wk .i64 x0_))],[]⟩,[(13,16),(0,0),(15,20)],[],[]⟩;.cut (((.le x26_ (.d 2)),.true)::((.le x14_ (.d 1)),.true)::((.le x26_ (.c 16777216)),.true)::f31_) 5 i_ [(.rn (.op .add (.v 199) (.c (-1))) 0 4611686018427387904),(.rn (.op .add x14_ x23_) 0 (-1)),(.rn (.wk .i64 x0_) 0 (-1))] (shT pHolds_T5 i_)),
  (.bad (((.le x26_ (.c 16777216)),.false)::f31_)),
  (.bad (((.le x16_ (.v 76)),.false)::f28_)),
  (.bad (((.le (.c 0) x16_),.false)::f26_)),
  (.fin (((.ap 2 x21_ x22_ (.c 0) (.c 0) (.c 0) (.c 0)),.false)::f25_) 0 ⟨⟨[],[]⟩,[],[],[]⟩ [(.eb (.c .true) (.c .false))] []),
  (.fin (((.eq x18_ x20_),.false)::f23_) 0 ⟨⟨[],[]⟩,[],[],[]⟩ [(.eb (.c .true) (.c .false))] []),
  (.fin (((.eq x17_ x19_),.false)::f21_) 0 ⟨⟨[],[]⟩,[],[],[]⟩ [(.eb (.c .true) (.c .false))] []),
  (.bad (((.lt x14_ (.v 76)),.false)::f19_)),
  (.fin (((.lt x14_ (.v 199)),.false)::f16_) 0 ⟨⟨[],[]⟩,[],[],[]⟩ [(.eb (.c .true) (.c .false))] []),
  (.fin (((.le (.c 0) x14_),.false)::f14_) 0 ⟨⟨[],[]⟩,[],[],[]⟩ [(.eb (.c .true) (.c .false))] []),
  (.bad (p2_::f11_)),
  (.bad (p10_::f7_)),
  (.fin (p11_::f12_) 0 ⟨⟨[],[]⟩,[],[],[]⟩ [] []),
  (.fin (p12_::f12_) 0 ⟨⟨[],[]⟩,[],[],[]⟩ [(.eb (.c .true) (.c .false))] []),
  (.bad (p2_::f8_)),
  (.bad (p10_::f4_)),
  (.fin (p11_::f9_) 0 ⟨⟨[],[]⟩,[],[],[]⟩ [] []),
  (.fin (p12_::f9_) 0 ⟨⟨[],[]⟩,[],[],[]⟩ [(.eb (.c .true) (.c .false))] []),
  (.bad (p2_::f5_)),
  (.bad (p10_::f2_))]
def pHolds_run (T:Tm):=(ex (ccOf Try.prog BF [] pHolds) ((fun cc=>[pWks.ent cc,cOwn.entH cc,cSmP.ent cc,cIs.ent cc,cIs0.ent cc,cTake.ent cc]) (ccOf Try.prog BF [] pHolds)) (dw (ccOf Try.prog BF [] pHolds) ((fun cc=>[pWks.ent cc,cOwn.entH cc,cSmP.ent cc,cIs.ent cc,cIs0.ent cc,cTake.ent cc]) (ccOf Try.prog BF [] pHolds)) 1000 4) (stopX [0,1,2,3,5,6,7,8,9,10,11,12,13,14,15,16,17,18,19,20,21,22,23,24,25,26,27,28,29,30,31,32,33,34,35,36,37,38,39,40,41,42,43,44,45,46,47,48,49,50,51,52,53,54,55,56,57,58,59,60,61,62,63,64,65,66,67,68,69,70,71,72,73,74,75,76,77,78,79,80,81,82,83,84,85,86,87,88,89,90,91,92,93,94,95,96,97,98,99,100,101,102,103,104,105,106,107,108,109,110,111,112,113,114,115,116,117,118,119,120,121,122,123,124,125,126,127,128,129,130,131,132,133,134,135,136,137,138,139,140,141,142,143,144,145,146,147,148,149,150,151,152,153,154,155,156,157,158,159,160,161,162,163,164,165,166,167,168,169,170,171,172,173,174,175,176,177,178,179,180,181,182,183,184,185,186,187,188,189,190,191,192,193,194,195,196,197,198,199,200,201,202,203,204,205,206,207,208,209,210,211,212,213,214,215,216,217,218,219,220,221,222,223,224,225,226,227,228,229,230,231,232,233,234,235,236,237,238,239,240,241,242,243,244,245,246,247,248,249]) 200000 T.f T.fs T.H).lfs (ccOf Try.prog BF [] pHolds) ((tm0 pHolds Try.f4 (Try.f4.body.getD .skip))::[pHolds_T1,pHolds_T2,pHolds_T3,pHolds_T4,pHolds_T5]) pHolds.os
theorem pHolds_h0:pHolds_run (tm0 pHolds Try.f4 (Try.f4.body.getD .skip))=some pHolds_L0:=by kernel_rfl
theorem pHolds_h1:pHolds_run pHolds_T1=some pHolds_L1:=by kernel_rfl
theorem pHolds_h2:pHolds_run pHolds_T2=some pHolds_L2:=by kernel_rfl
theorem pHolds_h3:pHolds_run pHolds_T3=some pHolds_L3:=by kernel_rfl
theorem pHolds_h4:pHolds_run pHolds_T4=some pHolds_L4:=by kernel_rfl
theorem pHolds_h5:pHolds_run pHolds_T5=some pHolds_L5:=by kernel_rfl
def pHolds_inv:(Nat→Int)→(Nat→Bool)→Nat→(Nat→Int)→(Nat→Bool)→Prop:=fun iv0 _ k iv _=>match k with | 0=>True | 1=>0≤iv 22∧iv 22≤31∧0≤iv 23∧iv 23≤1001 | 2=>0≤iv 24∧iv 24≤flenC (iv0 0) | 3=>1≤iv 38∧iv 38≤flenC (iv0 0)∧1≤iv 26∧iv 26≤iv 38∧iv 26≤iv 28∧iv 26≤iv 29∧okV (iv 25) (iv 26)∧eqN (iv 25) (iv 27) (iv 26) | 4=>True | _=>0≤iv 117∧iv 117≤flenC (iv0 1)∧iv 199=iv 76∧0≤iv 76∧iv 76≤30+iv 117∧iv 199≤iv 119∧iv 76≤iv 118∧okV (iv 75) (iv 199)∧eqN (iv 75) (iv 77) (iv 76)
def pHolds_mu:(Nat→Int)→(Nat→Bool)→Nat→(Nat→Int)→(Nat→Bool)→Nat:=fun iv0 _ k iv _=>match k with | 0=>2 ^ 90 | 1=>(2000000 - iv 22).toNat | 2=>(20000 - iv 24).toNat | 3=>(10000 - iv 38).toNat | 4=>1 | _=>(100 - iv 117).toNat
def pHolds_ob (k:Nat) (l:List Lf):Prop:=∀ (kv:Kv) (iv0:Nat→Int) (bv0:Nat→Bool),InB pHolds.B iv0→FT (sta FI FB kv iv0 bv0) (dlt dyn0) pHolds.F→∀ (iv:Nat→Int) (bv:Nat→Bool),Agr 2 iv0 bv0 iv bv→pHolds_inv iv0 bv0 k iv bv→∀ lf∈l,LfT (sta FI FB kv) pHolds.os (pHolds_inv iv0 bv0) (pHolds_mu iv0 bv0) k iv bv lf
theorem pHolds_o0:pHolds_ob 0 pHolds_L0:=by
 intro kv iv0 bv0 hin hF iv bv ha hi
 unfold pHolds_L0
 refine List.forall_mem_cons.2 ⟨?_,List.forall_mem_nil _⟩
 all_goals
  intro δ hf
 all_goals
  have a0:=ha.1 0 (by omega)
  have a1:=ha.1 1 (by omega)
 all_goals
  simp only [FT,TP,SB.tp,SI.tv,sta,IB.eval,and_true,true_and,ObsT,Ob.Tv,rowT,kix,In.tiv,↓tbvT,In.tbv,get_cons,get_nil,reduceIte,Nat.reduceEqDiff,Int.reduceToNat,Int.reduceAdd,Int.reduceSub,Int.reduceLE,Int.reduceLT,Int.reduceEq,ne_eq,Bool.false_eq_true,not_true_eq_false,not_false_eq_true,true_iff,false_iff,iff_true,iff_false,false_implies,implies_true,decT,decide_true,decide_false,Bool.decide_eq_true,ap2,pb2,FI_3,FI_4,FI_8,FI_9,FI_8c,FI_8z,FI_200,FB_2,Int.toNat_natCast,Int.toNat_zero,FI_24,FI_26,FB_24,FB_26,pHolds_inv,pHolds_mu,pHolds,o1,othT,o1,i64b,kP,pkV,flF,i64s,lmap,SI.fl,flay,flayL,wP,pk0,pkAt,mayO,i64b,lO,hO,lenB,fO,bO,plO,plN,ppV,bP,plA,arP,fT,bT,rgT,n1T,mxF,a0,a1] at hf hi ⊢
 all_goals
  have z0:=flenC_zero
 all_goals
  have n0:=flenC_nn (iv0 0)
 all_goals
  have n1:=flenC_nn (iv0 1)
 all_goals
  (repeat' (with_reducible apply And.intro))<;>first
  | omega
  | assumption
  | (unfold inM;omega)
  | exact trivial
  | (clear hin hF ha;grind)
theorem pHolds_o1:pHolds_ob 1 pHolds_L1:=by
 intro kv iv0 bv0 hin hF iv bv ha hi
 unfold pHolds_L1
 refine List.forall_mem_cons.2 ⟨?_,List.forall_mem_cons.2 ⟨?_,List.forall_mem_cons.2 ⟨?_,List.forall_mem_cons.2 ⟨?_,List.forall_mem_cons.2 ⟨?_,List.forall_mem_cons.2 ⟨?_,List.forall_mem_cons.2 ⟨?_,List.forall_mem_cons.2 ⟨?_,List.forall_mem_nil _⟩⟩⟩⟩⟩⟩⟩⟩
 all_goals
  intro δ hf
 all_goals
  have a0:=ha.1 0 (by omega)
  have a1:=ha.1 1 (by omega)
 all_goals
  simp only [FT,TP,SB.tp,SI.tv,sta,IB.eval,and_true,true_and,ObsT,Ob.Tv,rowT,kix,In.tiv,↓tbvT,In.tbv,get_cons,get_nil,reduceIte,Nat.reduceEqDiff,Int.reduceToNat,Int.reduceAdd,Int.reduceSub,Int.reduceLE,Int.reduceLT,Int.reduceEq,ne_eq,Bool.false_eq_true,not_true_eq_false,not_false_eq_true,true_iff,false_iff,iff_true,iff_false,false_implies,implies_true,decT,decide_true,decide_false,Bool.decide_eq_true,ap2,pb2,FI_3,FI_4,FI_8,FI_9,FI_8c,FI_8z,FI_200,FB_2,Int.toNat_natCast,Int.toNat_zero,FI_24,FI_26,FB_24,FB_26,pHolds_inv,pHolds_mu,pHolds,o1,othT,o1,i64b,kP,pkV,flF,i64s,lmap,SI.fl,flay,flayL,wP,pk0,pkAt,mayO,i64b,lO,hO,lenB,fO,bO,plO,plN,ppV,bP,plA,arP,fT,bT,rgT,n1T,mxF,a0,a1] at hf hi ⊢
 all_goals
  obtain ⟨g0,g1,g2,g3⟩:=hi
 all_goals
  have z0:=flenC_zero
 all_goals
  have n0:=flenC_nn (iv0 0)
 all_goals
  have n1:=flenC_nn (iv0 1)
 all_goals
  have f0:=flenC_nn (gt (iv0 0) (iv 22).toNat 2)
 all_goals
  have w22:0≤iv 22→iv 22≤4096→IntKind.i64.wrap (iv 22+1)=iv 22+1:=fun _ _=>by rw [wrap_i64];omega
 all_goals
  have b0:=fun m=>isB_nil 0 m
 all_goals
  have b1:=b0 1000
 all_goals
  (repeat' (with_reducible apply And.intro))<;>first
  | omega
  | assumption
  | (unfold inM;omega)
  | exact trivial
  | (clear hin hF ha;grind)
theorem pHolds_o2:pHolds_ob 2 pHolds_L2:=by
 intro kv iv0 bv0 hin hF iv bv ha hi
 unfold pHolds_L2
 refine List.forall_mem_cons.2 ⟨?_,List.forall_mem_cons.2 ⟨?_,List.forall_mem_cons.2 ⟨?_,List.forall_mem_cons.2 ⟨?_,List.forall_mem_cons.2 ⟨?_,List.forall_mem_cons.2 ⟨?_,List.forall_mem_cons.2 ⟨?_,List.forall_mem_cons.2 ⟨?_,List.forall_mem_nil _⟩⟩⟩⟩⟩⟩⟩⟩
 all_goals
  intro δ hf
 all_goals
  have a0:=ha.1 0 (by omega)
  have a1:=ha.1 1 (by omega)
 all_goals
  simp only [FT,TP,SB.tp,SI.tv,sta,IB.eval,and_true,true_and,ObsT,Ob.Tv,rowT,kix,In.tiv,↓tbvT,In.tbv,get_cons,get_nil,reduceIte,Nat.reduceEqDiff,Int.reduceToNat,Int.reduceAdd,Int.reduceSub,Int.reduceLE,Int.reduceLT,Int.reduceEq,ne_eq,Bool.false_eq_true,not_true_eq_false,not_false_eq_true,true_iff,false_iff,iff_true,iff_false,false_implies,implies_true,decT,decide_true,decide_false,Bool.decide_eq_true,ap2,pb2,FI_3,FI_4,FI_8,FI_9,FI_8c,FI_8z,FI_200,FB_2,Int.toNat_natCast,Int.toNat_zero,FI_24,FI_26,FB_24,FB_26,pHolds_inv,pHolds_mu,pHolds,o1,othT,o1,i64b,kP,pkV,flF,i64s,lmap,SI.fl,flay,flayL,wP,pk0,pkAt,mayO,i64b,lO,hO,lenB,fO,bO,plO,plN,ppV,bP,plA,arP,fT,bT,rgT,n1T,mxF,a0,a1] at hf hi ⊢
 all_goals
  obtain ⟨g0,g1⟩:=hi
 all_goals
  have z0:=flenC_zero
 all_goals
  have n0:=flenC_nn (iv0 0)
 all_goals
  have n1:=flenC_nn (iv0 1)
 all_goals
  have w24:0≤iv 24→iv 24≤4096→IntKind.i64.wrap (iv 24+1)=iv 24+1:=fun _ _=>by rw [wrap_i64];omega
 all_goals
  have b0:=fun m=>isB_nil 0 m
 all_goals
  have b1:=b0 1000
 all_goals
  have r1:=@row_new _ _ (gt (iv0 0) (iv 24).toNat 2) (iv0 0) (iv 24).toNat rfl rfl
 all_goals
  have k1:=@okV_one _ _ _ (iv0 0) (iv 24).toNat rfl rfl rfl
 all_goals
  unfold vR at k1
 all_goals
  have q1:=fun c=>eqN_refl c 1
 all_goals
  (repeat' (with_reducible apply And.intro))<;>first
  | omega
  | assumption
  | (unfold inM;omega)
  | exact trivial
  | (exact eqN_refl _ _)
  | (clear hin hF ha;grind)
theorem pHolds_o3:pHolds_ob 3 pHolds_L3:=by
 intro kv iv0 bv0 hin hF iv bv ha hi
 unfold pHolds_L3
 refine List.forall_mem_cons.2 ⟨?_,List.forall_mem_cons.2 ⟨?_,List.forall_mem_cons.2 ⟨?_,List.forall_mem_cons.2 ⟨?_,List.forall_mem_cons.2 ⟨?_,List.forall_mem_cons.2 ⟨?_,List.forall_mem_cons.2 ⟨?_,List.forall_mem_cons.2 ⟨?_,List.forall_mem_cons.2 ⟨?_,List.forall_mem_cons.2 ⟨?_,List.forall_mem_nil _⟩⟩⟩⟩⟩⟩⟩⟩⟩⟩
 all_goals
  intro δ hf
 all_goals
  have a0:=ha.1 0 (by omega)
  have a1:=ha.1 1 (by omega)
 all_goals
  simp only [FT,TP,SB.tp,SI.tv,sta,IB.eval,and_true,true_and,ObsT,Ob.Tv,rowT,kix,In.tiv,↓tbvT,In.tbv,get_cons,get_nil,reduceIte,Nat.reduceEqDiff,Int.reduceToNat,Int.reduceAdd,Int.reduceSub,Int.reduceLE,Int.reduceLT,Int.reduceEq,ne_eq,Bool.false_eq_true,not_true_eq_false,not_false_eq_true,true_iff,false_iff,iff_true,iff_false,false_implies,implies_true,decT,decide_true,decide_false,Bool.decide_eq_true,ap2,pb2,FI_3,FI_4,FI_8,FI_9,FI_8c,FI_8z,FI_200,FB_2,Int.toNat_natCast,Int.toNat_zero,FI_24,FI_26,FB_24,FB_26,pHolds_inv,pHolds_mu,pHolds,o1,othT,o1,i64b,kP,pkV,flF,i64s,lmap,SI.fl,flay,flayL,wP,pk0,pkAt,mayO,i64b,lO,hO,lenB,fO,bO,plO,plN,ppV,bP,plA,arP,fT,bT,rgT,n1T,mxF,a0,a1] at hf hi ⊢
 all_goals
  obtain ⟨g0,g1,g2,g3,g4,g5,g6,g7⟩:=hi
 all_goals
  have z0:=flenC_zero
 all_goals
  have n0:=flenC_nn (iv0 0)
 all_goals
  have n1:=flenC_nn (iv0 1)
 all_goals
  have w38:0≤iv 38→iv 38≤4096→IntKind.i64.wrap (iv 38+1)=iv 38+1:=fun _ _=>by rw [wrap_i64];omega
 all_goals
  have k3:=@okV_suc (iv 25) (iv 26) (iv 26) _ _ _ (iv0 0) (iv 38).toNat g6 rfl (by omega) rfl rfl rfl
 all_goals
  unfold vR at k3
 all_goals
  have q3:=@eqN_set (iv 25) (iv 27) (iv 26) (iv 26) (iv 26) (fl (iv0 0) (iv 38).toNat 0) (fl (iv0 0) (iv 38).toNat 1) (gt (iv0 0) (iv 38).toNat 2) (fl (iv0 0) (iv 38).toNat 0) (fl (iv0 0) (iv 38).toNat 1) (gt (iv0 0) (iv 38).toNat 2) g7 rfl rfl (by omega) rfl rfl rfl
 all_goals
  (repeat' (with_reducible apply And.intro))<;>first
  | omega
  | assumption
  | (unfold inM;omega)
  | exact trivial
  | (clear hin hF ha;grind)
theorem pHolds_o4:pHolds_ob 4 pHolds_L4:=by
 intro kv iv0 bv0 hin hF iv bv ha hi
 unfold pHolds_L4
 refine List.forall_mem_cons.2 ⟨?_,List.forall_mem_cons.2 ⟨?_,List.forall_mem_cons.2 ⟨?_,List.forall_mem_cons.2 ⟨?_,List.forall_mem_nil _⟩⟩⟩⟩
 all_goals
  intro δ hf
 all_goals
  have a0:=ha.1 0 (by omega)
  have a1:=ha.1 1 (by omega)
 all_goals
  simp only [FT,TP,SB.tp,SI.tv,sta,IB.eval,and_true,true_and,ObsT,Ob.Tv,rowT,kix,In.tiv,↓tbvT,In.tbv,get_cons,get_nil,reduceIte,Nat.reduceEqDiff,Int.reduceToNat,Int.reduceAdd,Int.reduceSub,Int.reduceLE,Int.reduceLT,Int.reduceEq,ne_eq,Bool.false_eq_true,not_true_eq_false,not_false_eq_true,true_iff,false_iff,iff_true,iff_false,false_implies,implies_true,decT,decide_true,decide_false,Bool.decide_eq_true,ap2,pb2,FI_3,FI_4,FI_8,FI_9,FI_8c,FI_8z,FI_200,FB_2,Int.toNat_natCast,Int.toNat_zero,FI_24,FI_26,FB_24,FB_26,pHolds_inv,pHolds_mu,pHolds,o1,othT,o1,i64b,kP,pkV,flF,i64s,lmap,SI.fl,flay,flayL,wP,pk0,pkAt,mayO,i64b,lO,hO,lenB,fO,bO,plO,plN,ppV,bP,plA,arP,fT,bT,rgT,n1T,mxF,a0,a1] at hf hi ⊢
 all_goals
  have z0:=flenC_zero
 all_goals
  have n0:=flenC_nn (iv0 0)
 all_goals
  have n1:=flenC_nn (iv0 1)
 all_goals
  have b0:=fun m=>isB_nil 0 m
 all_goals
  have b1:=b0 1000
 all_goals
  (repeat' (with_reducible apply And.intro))<;>first
  | omega
  | assumption
  | (unfold inM;omega)
  | exact trivial
  | (clear hin hF ha;grind)
theorem pHolds_o5:pHolds_ob 5 pHolds_L5:=by
 intro kv iv0 bv0 hin hF iv bv ha hi
 unfold pHolds_L5
 refine List.forall_mem_cons.2 ⟨?_,List.forall_mem_cons.2 ⟨?_,List.forall_mem_cons.2 ⟨?_,List.forall_mem_cons.2 ⟨?_,List.forall_mem_cons.2 ⟨?_,List.forall_mem_cons.2 ⟨?_,List.forall_mem_cons.2 ⟨?_,List.forall_mem_cons.2 ⟨?_,List.forall_mem_cons.2 ⟨?_,List.forall_mem_cons.2 ⟨?_,List.forall_mem_cons.2 ⟨?_,List.forall_mem_cons.2 ⟨?_,List.forall_mem_cons.2 ⟨?_,List.forall_mem_cons.2 ⟨?_,List.forall_mem_cons.2 ⟨?_,List.forall_mem_cons.2 ⟨?_,List.forall_mem_cons.2 ⟨?_,List.forall_mem_cons.2 ⟨?_,List.forall_mem_cons.2 ⟨?_,List.forall_mem_cons.2 ⟨?_,List.forall_mem_cons.2 ⟨?_,List.forall_mem_cons.2 ⟨?_,List.forall_mem_cons.2 ⟨?_,List.forall_mem_cons.2 ⟨?_,List.forall_mem_cons.2 ⟨?_,List.forall_mem_cons.2 ⟨?_,List.forall_mem_cons.2 ⟨?_,List.forall_mem_cons.2 ⟨?_,List.forall_mem_cons.2 ⟨?_,List.forall_mem_cons.2 ⟨?_,List.forall_mem_cons.2 ⟨?_,List.forall_mem_cons.2 ⟨?_,List.forall_mem_cons.2 ⟨?_,List.forall_mem_nil _⟩⟩⟩⟩⟩⟩⟩⟩⟩⟩⟩⟩⟩⟩⟩⟩⟩⟩⟩⟩⟩⟩⟩⟩⟩⟩⟩⟩⟩⟩⟩⟩⟩
 all_goals
  intro δ hf
 all_goals
  have a0:=ha.1 0 (by omega)
  have a1:=ha.1 1 (by omega)
 all_goals
  simp only [FT,TP,SB.tp,SI.tv,sta,IB.eval,and_true,true_and,ObsT,Ob.Tv,rowT,kix,In.tiv,↓tbvT,In.tbv,get_cons,get_nil,reduceIte,Nat.reduceEqDiff,Int.reduceToNat,Int.reduceAdd,Int.reduceSub,Int.reduceLE,Int.reduceLT,Int.reduceEq,ne_eq,Bool.false_eq_true,not_true_eq_false,not_false_eq_true,true_iff,false_iff,iff_true,iff_false,false_implies,implies_true,decT,decide_true,decide_false,Bool.decide_eq_true,ap2,pb2,FI_3,FI_4,FI_8,FI_9,FI_8c,FI_8z,FI_200,FB_2,Int.toNat_natCast,Int.toNat_zero,FI_24,FI_26,FB_24,FB_26,pHolds_inv,pHolds_mu,pHolds,o1,othT,o1,i64b,kP,pkV,flF,i64s,lmap,SI.fl,flay,flayL,wP,pk0,pkAt,mayO,i64b,lO,hO,lenB,fO,bO,plO,plN,ppV,bP,plA,arP,fT,bT,rgT,n1T,mxF,a0,a1] at hf hi ⊢
 all_goals
  obtain ⟨g0,g1,g2,g3,g4,g5,g6,g7,g8⟩:=hi
 all_goals
  have z0:=flenC_zero
 all_goals
  have n0:=flenC_nn (iv0 0)
 all_goals
  have n1:=flenC_nn (iv0 1)
 all_goals
  have w117:0≤iv 117→iv 117≤4096→IntKind.i64.wrap (iv 117+1)=iv 117+1:=fun _ _=>by rw [wrap_i64];omega
 all_goals
  have ai:=at_in (IntKind.i64.wrap ((fl (iv0 1) (iv 117).toNat 0).tdiv 2)) (iv 76)
 all_goals
  try generalize hA:((IntKind.i64.wrap ((IntKind.i64.wrap ((fl (iv0 1) (iv 117).toNat 0).tdiv 2)).tmod (iv 76)+iv 76)).tmod (iv 76))=A at *
 all_goals
  have vA:=fun (h0:0≤A) (h1:A < iv 199)=>g7 A.toNat (by omega)
 all_goals
  unfold vR at vA
 all_goals
  have eA:=fun (h0:0≤A) (h1:A < iv 76)=>g8 A.toNat (by omega)
 all_goals
  unfold Rw at eA
 all_goals
  have kD:=fun (h0:0≤A) (h1:A < iv 199)=>@okV_suc (iv 75) (iv 199) (iv 199) _ _ _ (iv 75) A.toNat g7 rfl (by omega) rfl rfl rfl (g7 A.toNat (by omega))
 all_goals
  have qD:=fun (h0:0≤A) (h1:A < iv 76)=>@eqN_set (iv 75) (iv 77) (iv 76) (iv 199) (iv 76) (fl (iv 75) A.toNat 0) (fl (iv 75) A.toNat 1) (gt (iv 75) A.toNat 2) (fl (iv 77) A.toNat 0) (fl (iv 77) A.toNat 1) (gt (iv 77) A.toNat 2) g8 g2 rfl g3 (eA h0 h1).1 (eA h0 h1).2.1 (eA h0 h1).2.2
 all_goals
  have wA:0≤A→A < iv 76→IntKind.i64.wrap (A+1)=A+1:=fun _ _=>by rw [wrap_i64];omega
 all_goals
  have rA:=fun (h0:0≤A)=>@rmR_blit (iv 75) (iv 199) A (A+1) (iv 199+A * -1+-1) h0 rfl (by omega)
 all_goals
  have kR:=fun (h0:0≤A)=>@okV_rm (iv 75) _ (iv 199) (iv 199+-1) A g7 (rA h0) (by omega)
 all_goals
  have qL:=fun (h0:0≤A)=>@eqN_last (iv 75) (iv 77) _ (iv 199) A (by rw [g2];exact g8) (rA h0)
 all_goals
  have qM:=fun (h0:0≤A) (h1:A < iv 76)=>@eqN_rm (iv 75) (iv 77) _ (blitC (iv 77) A (iv 77) (IntKind.i64.wrap (A+1)) (iv 76 - IntKind.i64.wrap (A+1))) (iv 76) (A+(iv 76 - IntKind.i64.wrap (A+1))) A g8 (@rmR_blit (iv 75) (iv 76) A (A+1) (iv 199+A * -1+-1) h0 rfl (by omega)) (rmR_blit h0 (wA h0 h1) (by rw [wA h0 h1];omega)) (by rw [wA h0 h1];omega)
 all_goals
  have ln:=okV_len g7
 all_goals
  have iB:=fun m=>isB_frz (many:=m) g3 g8
 all_goals
  (repeat' (with_reducible apply And.intro))<;>first
  | omega
  | assumption
  | (unfold inM;omega)
  | exact trivial
  | (clear hin hF ha;grind)
theorem pHolds_c:LsC ((tm0 pHolds Try.f4 (Try.f4.body.getD .skip))::[pHolds_T1,pHolds_T2,pHolds_T3,pHolds_T4,pHolds_T5]) pHolds.os [pHolds_L0,pHolds_L1,pHolds_L2,pHolds_L3,pHolds_L4,pHolds_L5]:=by
 unfold pHolds_L0 pHolds_L1 pHolds_L2 pHolds_L3 pHolds_L4 pHolds_L5
 exact ⟨List.forall_mem_cons.2 ⟨⟨⟨_,rfl,rfl⟩,by kernel_rfl⟩,List.forall_mem_nil _⟩,List.forall_mem_cons.2 ⟨⟨⟨_,rfl,rfl⟩,by kernel_rfl⟩,List.forall_mem_cons.2 ⟨⟨⟨_,rfl,rfl⟩,by kernel_rfl⟩,List.forall_mem_cons.2 ⟨⟨⟨_,rfl,rfl⟩,by kernel_rfl⟩,List.forall_mem_cons.2 ⟨⟨⟨_,rfl,rfl⟩,by kernel_rfl⟩,List.forall_mem_cons.2 ⟨⟨⟨_,rfl,rfl⟩,by kernel_rfl⟩,List.forall_mem_cons.2 ⟨⟨⟨_,rfl,rfl⟩,by kernel_rfl⟩,List.forall_mem_cons.2 ⟨⟨⟨_,rfl,rfl⟩,by kernel_rfl⟩,List.forall_mem_cons.2 ⟨⟨⟨_,rfl,rfl⟩,by kernel_rfl⟩,List.forall_mem_nil _⟩⟩⟩⟩⟩⟩⟩⟩,List.forall_mem_cons.2 ⟨⟨⟨_,rfl,rfl⟩,by kernel_rfl⟩,List.forall_mem_cons.2 ⟨⟨⟨_,rfl,rfl⟩,by kernel_rfl⟩,List.forall_mem_cons.2 ⟨⟨⟨_,rfl,rfl⟩,by kernel_rfl⟩,List.forall_mem_cons.2 ⟨⟨⟨_,rfl,rfl⟩,by kernel_rfl⟩,List.forall_mem_cons.2 ⟨⟨⟨_,rfl,rfl⟩,by kernel_rfl⟩,List.forall_mem_cons.2 ⟨⟨⟨_,rfl,rfl⟩,by kernel_rfl⟩,List.forall_mem_cons.2 ⟨⟨⟨_,rfl,rfl⟩,by kernel_rfl⟩,List.forall_mem_cons.2 ⟨⟨⟨_,rfl,rfl⟩,by kernel_rfl⟩,List.forall_mem_nil _⟩⟩⟩⟩⟩⟩⟩⟩,List.forall_mem_cons.2 ⟨⟨⟨_,rfl,rfl⟩,by kernel_rfl⟩,List.forall_mem_cons.2 ⟨⟨⟨_,rfl,rfl⟩,by kernel_rfl⟩,List.forall_mem_cons.2 ⟨⟨⟨_,rfl,rfl⟩,by kernel_rfl⟩,List.forall_mem_cons.2 ⟨⟨⟨_,rfl,rfl⟩,by kernel_rfl⟩,List.forall_mem_cons.2 ⟨⟨⟨_,rfl,rfl⟩,by kernel_rfl⟩,List.forall_mem_cons.2 ⟨⟨⟨_,rfl,rfl⟩,by kernel_rfl⟩,List.forall_mem_cons.2 ⟨⟨⟨_,rfl,rfl⟩,by kernel_rfl⟩,List.forall_mem_cons.2 ⟨⟨⟨_,rfl,rfl⟩,by kernel_rfl⟩,List.forall_mem_cons.2 ⟨trivial,List.forall_mem_cons.2 ⟨⟨⟨_,rfl,rfl⟩,by kernel_rfl⟩,List.forall_mem_nil _⟩⟩⟩⟩⟩⟩⟩⟩⟩⟩,List.forall_mem_cons.2 ⟨⟨⟨_,rfl,rfl⟩,by kernel_rfl⟩,List.forall_mem_cons.2 ⟨⟨⟨_,rfl,rfl⟩,by kernel_rfl⟩,List.forall_mem_cons.2 ⟨⟨⟨_,rfl,rfl⟩,by kernel_rfl⟩,List.forall_mem_cons.2 ⟨⟨⟨_,rfl,rfl⟩,by kernel_rfl⟩,List.forall_mem_nil _⟩⟩⟩⟩,List.forall_mem_cons.2 ⟨⟨⟨_,rfl,rfl⟩,by kernel_rfl⟩,List.forall_mem_cons.2 ⟨⟨⟨_,rfl,rfl⟩,by kernel_rfl⟩,List.forall_mem_cons.2 ⟨⟨⟨_,rfl,rfl⟩,by kernel_rfl⟩,List.forall_mem_cons.2 ⟨⟨⟨_,rfl,rfl⟩,by kernel_rfl⟩,List.forall_mem_cons.2 ⟨⟨⟨_,rfl,rfl⟩,by kernel_rfl⟩,List.forall_mem_cons.2 ⟨⟨⟨_,rfl,rfl⟩,by kernel_rfl⟩,List.forall_mem_cons.2 ⟨⟨⟨_,rfl,rfl⟩,by kernel_rfl⟩,List.forall_mem_cons.2 ⟨trivial,List.forall_mem_cons.2 ⟨trivial,List.forall_mem_cons.2 ⟨trivial,List.forall_mem_cons.2 ⟨⟨⟨_,rfl,rfl⟩,by kernel_rfl⟩,List.forall_mem_cons.2 ⟨⟨⟨_,rfl,rfl⟩,by kernel_rfl⟩,List.forall_mem_cons.2 ⟨⟨⟨_,rfl,rfl⟩,by kernel_rfl⟩,List.forall_mem_cons.2 ⟨⟨⟨_,rfl,rfl⟩,by kernel_rfl⟩,List.forall_mem_cons.2 ⟨trivial,List.forall_mem_cons.2 ⟨trivial,List.forall_mem_cons.2 ⟨trivial,List.forall_mem_cons.2 ⟨⟨⟨_,rfl,rfl⟩,by kernel_rfl⟩,List.forall_mem_cons.2 ⟨⟨⟨_,rfl,rfl⟩,by kernel_rfl⟩,List.forall_mem_cons.2 ⟨⟨⟨_,rfl,rfl⟩,by kernel_rfl⟩,List.forall_mem_cons.2 ⟨trivial,List.forall_mem_cons.2 ⟨⟨⟨_,rfl,rfl⟩,by kernel_rfl⟩,List.forall_mem_cons.2 ⟨⟨⟨_,rfl,rfl⟩,by kernel_rfl⟩,List.forall_mem_cons.2 ⟨trivial,List.forall_mem_cons.2 ⟨trivial,List.forall_mem_cons.2 ⟨⟨⟨_,rfl,rfl⟩,by kernel_rfl⟩,List.forall_mem_cons.2 ⟨⟨⟨_,rfl,rfl⟩,by kernel_rfl⟩,List.forall_mem_cons.2 ⟨trivial,List.forall_mem_cons.2 ⟨trivial,List.forall_mem_cons.2 ⟨⟨⟨_,rfl,rfl⟩,by kernel_rfl⟩,List.forall_mem_cons.2 ⟨⟨⟨_,rfl,rfl⟩,by kernel_rfl⟩,List.forall_mem_cons.2 ⟨trivial,List.forall_mem_cons.2 ⟨trivial,List.forall_mem_nil _⟩⟩⟩⟩⟩⟩⟩⟩⟩⟩⟩⟩⟩⟩⟩⟩⟩⟩⟩⟩⟩⟩⟩⟩⟩⟩⟩⟩⟩⟩⟩⟩⟩,trivial⟩
theorem pHolds_ok:pHolds.Ok Try.prog FI FB:=
 Con.of_plain (body:=Try.f4.body.getD .skip) pok fiok (EntsFor.cons pWks_ok (EntsFor.consH cOwn_ok (EntsFor.cons cSmP_ok (EntsFor.consM cIs_ok (EntsFor.consM cIs0_ok (EntsFor.consM cTake_ok EntsFor.nil)))))) pHolds Try.func4 (by kernel_rfl) 2 [pHolds_T1,pHolds_T2,pHolds_T3,pHolds_T4,pHolds_T5] (by kernel_rfl) [pHolds_L0,pHolds_L1,pHolds_L2,pHolds_L3,pHolds_L4,pHolds_L5] ⟨pHolds_h0,pHolds_h1,pHolds_h2,pHolds_h3,pHolds_h4,pHolds_h5,trivial⟩ pHolds_c
  pHolds_inv pHolds_mu (fun _ _ _=>trivial) fun kv iv0 bv0 hin hF k l iv bv hk ha hi=>match k,hk,hi with
  | 0,hk,hi=>by
    cases hk
    exact pHolds_o0 kv iv0 bv0 hin hF iv bv ha hi
  | 1,hk,hi=>by
    cases hk
    exact pHolds_o1 kv iv0 bv0 hin hF iv bv ha hi
  | 2,hk,hi=>by
    cases hk
    exact pHolds_o2 kv iv0 bv0 hin hF iv bv ha hi
  | 3,hk,hi=>by
    cases hk
    exact pHolds_o3 kv iv0 bv0 hin hF iv bv ha hi
  | 4,hk,hi=>by
    cases hk
    exact pHolds_o4 kv iv0 bv0 hin hF iv bv ha hi
  | 5,hk,hi=>by
    cases hk
    exact pHolds_o5 kv iv0 bv0 hin hF iv bv ha hi
  | k+6,hk,_=>by simp at hk
end
end Go.Sx.Pk
