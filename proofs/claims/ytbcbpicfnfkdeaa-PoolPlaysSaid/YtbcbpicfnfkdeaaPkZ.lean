/- The pool: PoolPlays. -/
import Derived.Test.YtbcbpicfnfkdeaaPkC
import Derived.Test.YtbcbpicfnfkdeaaPkW
import Derived.Test.YtbcbpicfnfkdeaaPkPa
namespace Go.Sx.Pk
set_option linter.unusedVariables false
set_option linter.unusedSimpArgs false
set_option maxRecDepth 100000
set_option maxHeartbeats 0
noncomputable section
open Go Go.Sx Go.Proofs
def mxF (i:Nat):SB×Bool:=(.le (SI.fl (.v i)) (.c 9223372036854775807),true)
def pPlays:Con:=⟨5,[0,1],[.it .i64 (.v 0),.fs 6 (.v 1)],[],[i64b 0],[mxF 1],o1 (.bo (.c true)),[29]⟩
def pPlays_T1:Tm:=⟨⟨15,76,[(7,(.it .i64 (.v 24))),(6,(.it .i64 (.v 25))),(5,(.it .i64 (.v 26))),(0,(.fs 6 (.v 1))),(1,(.it .i64 (.c 40)))],[(.code (atC Try.f15 [1,1,0,1,0,0])),(.inLoop (atC Try.f15 [1,1,0,1,0,0])),(.inBlock 0),(.code (atC Try.f15 [1,1,1]))],[],.none⟩,[⟨5,79,[(11,(.fs 6 (.v 1))),(0,(.it .i64 (.v 0))),(1,(.fs 6 (.v 1)))],[(.inRegion (opsC (atC Try.f5 [1,0,0])) [1,2]),(.code (atC Try.f5 [1,0,1])),(.code (atC Try.f5 [1,1]))],[],.none⟩],
    ⟨[],0,0,0,[((.le (.ap 200 (.v 1) (.c 0) (.c 0) (.c 0) (.c 0) (.c 0)) (.c 9223372036854775807)),.true)],[0],[(25,((-9223372036854775808),9223372036854775807)),(26,((-9223372036854775808),9223372036854775807)),(0,((-9223372036854775808),9223372036854775807)),(24,(0,(-1)))]⟩,[24,25,26]⟩
def pPlays_T2:Tm:=⟨⟨15,76,[(8,(.it .i64 (.v 27))),(6,(.it .i64 (.op .add (.v 25) (.op .imin (.ap 200 (.ap 8 (.v 1) (.v 24) (.c 2) (.c 0) (.c 10) (.c 0)) (.c 0) (.c 0) (.c 0) (.c 0) (.c 0)) (.c 101))))),(7,(.it .i64 (.v 24))),(5,(.it .i64 (.v 28))),(0,(.fs 6 (.v 1))),(1,(.it .i64 (.c 40)))],[(.code (atC Try.f15 [1,1,0,1,0,0,1,0,0,1,1,0,0])),(.inLoop (atC Try.f15 [1,1,0,1,0,0,1,0,0,1,1,0,0])),(.inBlock 2),(.inBlock 1),(.code (atC Try.f15 [1,1,0,1,0,0,1,1])),(.inLoop (atC Try.f15 [1,1,0,1,0,0])),(.inBlock 0),(.code (atC Try.f15 [1,1,1]))],[],.none⟩,[⟨5,79,[(11,(.fs 6 (.v 1))),(0,(.it .i64 (.v 0))),(1,(.fs 6 (.v 1)))],[(.inRegion (opsC (atC Try.f5 [1,0,0])) [1,2]),(.code (atC Try.f5 [1,0,1])),(.code (atC Try.f5 [1,1]))],[],.none⟩],
    ⟨[],0,0,0,[((.le (.v 25) (.c 100)),.true),((.le (.v 24) (.c 40)),.true),((.lt (.v 24) (.ap 200 (.v 1) (.c 0) (.c 0) (.c 0) (.c 0) (.c 0))),.true),((.le (.ap 200 (.v 1) (.c 0) (.c 0) (.c 0) (.c 0) (.c 0)) (.c 9223372036854775807)),.true)],[0],[(28,((-9223372036854775808),9223372036854775807)),(25,((-9223372036854775808),100)),(24,(0,40)),(0,((-9223372036854775808),9223372036854775807)),(27,(0,(-1)))]⟩,[27,28]⟩
def pPlays_T3:Tm:=⟨⟨5,79,[(8,(.it .i64 (.c 0))),(7,(.pt (.n 1) (.c 0))),(5,(.pt (.n 0) (.c 0))),(1,(.fs 6 (.v 1)))],[(.code (atC Try.f5 [1,1,1,1,1,1,0,1,0,0])),(.inLoop (atC Try.f5 [1,1,1,1,1,1,0,1,0,0])),(.inBlock 0),(.code (atC Try.f5 [1,1,1,1,1,1,1]))],[],.none⟩,[],
    ⟨[(0,(.cells [.sn,(.it .i64 (.v 0))] 59)),(1,(.cells [(.it .i64 (.v 0)),.sn] 41))],2,0,0,[((.lt (.c 64) (.v 0)),.false),((.lt (.v 0) (.c 1)),.false),((.le (.v 26) (.c 2000)),.true),((.le (.v 25) (.c 100)),.true),((.le (.ap 200 (.v 1) (.c 0) (.c 0) (.c 0) (.c 0) (.c 0)) (.c 40)),.true),((.lt (.v 24) (.ap 200 (.v 1) (.c 0) (.c 0) (.c 0) (.c 0) (.c 0))),.false),((.le (.ap 200 (.v 1) (.c 0) (.c 0) (.c 0) (.c 0) (.c 0)) (.c 9223372036854775807)),.true)],[0],[(0,(1,64)),(0,(1,9223372036854775807)),(26,((-9223372036854775808),2000)),(25,((-9223372036854775808),100)),(24,(0,(-1))),(25,((-9223372036854775808),9223372036854775807)),(26,((-9223372036854775808),9223372036854775807)),(0,((-9223372036854775808),9223372036854775807)),(24,(0,(-1)))]⟩,[]⟩
def pPlays_T4:Tm:=⟨⟨5,79,[(8,(.it .i64 (.v 39))),(7,(.pt (.n 1) (.c 0))),(5,(.pt (.n 0) (.c 0))),(1,(.fs 6 (.v 1)))],[(.code (atC Try.f5 [1,1,1,1,1,1,0,1,0,0])),(.inLoop (atC Try.f5 [1,1,1,1,1,1,0,1,0,0])),(.inBlock 0),(.code (atC Try.f5 [1,1,1,1,1,1,1]))],[],.none⟩,[],
    ⟨[(0,(.cells [.sn,(.it .i64 (.v 0))] 59)),(1,(.cells [(.it .i64 (.v 0)),(.fs 2 (.v 32))] 41))],2,0,0,[((.lt (.c 0) (.ap 200 (.v 1) (.c 0) (.c 0) (.c 0) (.c 0) (.c 0))),.true),((.lt (.c 64) (.v 0)),.false),((.lt (.v 0) (.c 1)),.false),((.le (.v 26) (.c 2000)),.true),((.le (.v 25) (.c 100)),.true),((.le (.ap 200 (.v 1) (.c 0) (.c 0) (.c 0) (.c 0) (.c 0)) (.c 40)),.true),((.lt (.v 24) (.ap 200 (.v 1) (.c 0) (.c 0) (.c 0) (.c 0) (.c 0))),.false),((.le (.ap 200 (.v 1) (.c 0) (.c 0) (.c 0) (.c 0) (.c 0)) (.c 9223372036854775807)),.true)],[0],[(0,(1,64)),(39,(1,0))]⟩,[39,32]⟩
def pPlays_T5:Tm:=⟨⟨5,79,[(8,(.it .i64 (.v 49))),(7,(.pt (.n 1) (.c 0))),(5,(.pt (.n 0) (.c 0))),(1,(.fs 6 (.v 1)))],[(.code (atC Try.f5 [1,1,1,1,1,1,0,1,0,0])),(.inLoop (atC Try.f5 [1,1,1,1,1,1,0,1,0,0])),(.inBlock 0),(.code (atC Try.f5 [1,1,1,1,1,1,1]))],[],.none⟩,[],
    ⟨[(0,(.cells [(.sl (.n 2) (.c 0) (.v 41) (.v 42)),(.it .i64 (.v 0))] 59)),(1,(.cells [(.it .i64 (.v 0)),(.fs 2 (.v 50))] 41)),(2,(.arr [(.nt .i64),(.nt .i64),(.fs 0)] (.v 40) (.v 41) 29 (.v 42)))],3,0,0,[((.lt (.c 0) (.ap 200 (.v 1) (.c 0) (.c 0) (.c 0) (.c 0) (.c 0))),.true),((.lt (.c 64) (.v 0)),.false),((.lt (.v 0) (.c 1)),.false),((.le (.v 26) (.c 2000)),.true),((.le (.v 25) (.c 100)),.true),((.le (.ap 200 (.v 1) (.c 0) (.c 0) (.c 0) (.c 0) (.c 0)) (.c 40)),.true),((.lt (.v 24) (.ap 200 (.v 1) (.c 0) (.c 0) (.c 0) (.c 0) (.c 0))),.false),((.le (.ap 200 (.v 1) (.c 0) (.c 0) (.c 0) (.c 0) (.c 0)) (.c 9223372036854775807)),.true),((.le (.v 41) (.v 42)),.true)],[0],[(49,((-9223372036854775808),9223372036854775807)),(41,(0,(-1))),(42,(0,(-1))),(0,(1,64))]⟩,[49,50,42,40,41]⟩
def pPlays_L0:List Lf:=
 [(let i_:In:=⟨⟨[(26,(.c 0)),(25,(.c 0)),(24,(.c 0))],[]⟩,[],[],[]⟩;.cut ([((.le (.ap 200 (.v 1) (.c 0) (.c 0) (.c 0) (.c 0) (.c 0)) (.c 9223372036854775807)),.true)]) 1 i_ [] (shT pPlays_T1 i_))]
def pPlays_L1:List Lf:=
 let x0_:SI:=(.ap 200 (.v 1) (.c 0) (.c 0) (.c 0) (.c 0) (.c 0))
 let p1_:SB×Bool:=((.le x0_ (.c 9223372036854775807)),.true)
 let f0_:List (SB×Bool):=[((.lt (.v 24) x0_),.true),p1_]
 let f1_:List (SB×Bool):=[((.lt (.v 24) x0_),.false),p1_]
 let f2_:List (SB×Bool):=((.le (.v 24) (.c 40)),.true)::f0_
 let f3_:List (SB×Bool):=((.le x0_ (.c 40)),.true)::f1_
 let f4_:List (SB×Bool):=((.le (.v 25) (.c 100)),.false)::f2_
 let f5_:List (SB×Bool):=((.le (.v 25) (.c 100)),.true)::f3_
 let f6_:List (SB×Bool):=((.le (.v 26) (.c 2000)),.true)::f5_
 let f7_:List (SB×Bool):=((.lt (.v 0) (.c 1)),.false)::f6_
 [(.cut (((.le (.v 25) (.c 100)),.true)::f2_) 2 ⟨⟨[(28,(.v 26)),(27,(.c 0))],[]⟩,[],[],[]⟩ [] (shT pPlays_T2 ⟨⟨[(28,(.v 26)),(27,(.c 0))],[]⟩,[],[],[]⟩)),
  (.fin (((.le x0_ (.c 40)),.true)::f4_) 0 ⟨⟨[],[]⟩,[],[],[]⟩ [] []),
  (.fin (((.le x0_ (.c 40)),.false)::f4_) 0 ⟨⟨[],[]⟩,[],[],[]⟩ [] []),
  (.fin (((.le (.v 24) (.c 40)),.false)::f0_) 0 ⟨⟨[],[]⟩,[],[],[]⟩ [] []),
  (.fin (((.lt (.v 0) (.c 1)),.true)::f6_) 0 ⟨⟨[],[]⟩,[],[],[]⟩ [] []),
  (.fin (((.lt (.c 64) (.v 0)),.true)::f7_) 0 ⟨⟨[],[]⟩,[],[],[]⟩ [] []),
  (.cut (((.lt (.c 64) (.v 0)),.false)::f7_) 3 ⟨⟨[],[]⟩,[(0,0),(1,1)],[],[]⟩ [] (shT pPlays_T3 ⟨⟨[],[]⟩,[(0,0),(1,1)],[],[]⟩)),
  (.fin (((.le (.v 26) (.c 2000)),.false)::f5_) 0 ⟨⟨[],[]⟩,[],[],[]⟩ [] []),
  (.fin (((.le (.v 25) (.c 100)),.false)::f3_) 0 ⟨⟨[],[]⟩,[],[],[]⟩ [] []),
  (.fin (((.le x0_ (.c 40)),.false)::f1_) 0 ⟨⟨[],[]⟩,[],[],[]⟩ [] [])]
def pPlays_L2:List Lf:=
 let x0_:SI:=(.ap 200 (.v 1) (.c 0) (.c 0) (.c 0) (.c 0) (.c 0))
 let x1_:SI:=(.ap 8 (.v 1) (.v 24) (.c 2) (.c 0) (.c 10) (.c 0))
 let x2_:SI:=(.ap 200 x1_ (.c 0) (.c 0) (.c 0) (.c 0) (.c 0))
 let x3_:SI:=(.op .imin x2_ (.c 101))
 let f0_:List (SB×Bool):=[((.le (.v 25) (.c 100)),.true),((.le (.v 24) (.c 40)),.true),((.lt (.v 24) x0_),.true),((.le x0_ (.c 9223372036854775807)),.true)]
 let f1_:List (SB×Bool):=((.lt (.v 27) x2_),.true)::f0_
 let f2_:List (SB×Bool):=((.le (.v 27) (.c 100)),.true)::f1_
 [(let i_:In:=⟨⟨[(28,(.op .add (.v 28) (.op .imin (.ap 200 (.ap 8 x1_ (.v 27) (.c 2) (.c 0) (.c 10) (.c 0)) (.c 0) (.c 0) (.c 0) (.c 0) (.c 0)) (.c 2001)))),(27,(.op .add (.v 27) (.c 1)))],[]⟩,[],[],[]⟩;.cut (((.le (.v 28) (.c 2000)),.true)::f2_) 2 i_ [] (shT pPlays_T2 i_)),
  (let i_:In:=⟨⟨[(26,(.v 28)),(25,(.op .add (.v 25) x3_)),(24,(.op .add (.v 24) (.c 1)))],[]⟩,[],[],[]⟩;.cut (((.le (.v 28) (.c 2000)),.false)::f2_) 1 i_ [] (shT pPlays_T1 i_)),
  (let i_:In:=⟨⟨[(26,(.v 28)),(25,(.op .add (.v 25) x3_)),(24,(.op .add (.v 24) (.c 1)))],[]⟩,[],[],[]⟩;.cut (((.le (.v 27) (.c 100)),.false)::f1_) 1 i_ [] (shT pPlays_T1 i_)),
  (let i_:In:=⟨⟨[(26,(.v 28)),(25,(.op .add (.v 25) x3_)),(24,(.op .add (.v 24) (.c 1)))],[]⟩,[],[],[]⟩;.cut (((.lt (.v 27) x2_),.false)::f0_) 1 i_ [] (shT pPlays_T1 i_))]
def pPlays_L3:List Lf:=
 let x0_:SI:=(.ap 3 (.v 1) (.c 0) (.c 0) (.c 0) (.c 0) (.c 0))
 let x1_:SI:=(.ap 8 (.v 1) (.c 0) (.c 2) (.c 0) (.c 10) (.c 0))
 let x2_:SI:=(.ap 200 (.v 1) (.c 0) (.c 0) (.c 0) (.c 0) (.c 0))
 let x3_:SI:=(.ap 22 (.v 0) (.c 0) x1_ (.c 0) (.c 0) (.c 0))
 let x4_:SI:=(.ap 25 (.v 0) (.c 0) x1_ (.c 0) (.c 0) (.c 0))
 let x5_:SI:=(.ap 9 (.c 0) (.c 0) x1_ (.c 0) x3_ (.c 0))
 let f0_:List (SB×Bool):=[((.lt (.c 64) (.v 0)),.false),((.lt (.v 0) (.c 1)),.false),((.le (.v 26) (.c 2000)),.true),((.le (.v 25) (.c 100)),.true),((.le x2_ (.c 40)),.true),((.lt (.v 24) x2_),.false),((.le x2_ (.c 9223372036854775807)),.true)]
 let f1_:List (SB×Bool):=((.lt (.c 0) x2_),.true)::f0_
 let f2_:List (SB×Bool):=((.lt (.c 0) x2_),.false)::f0_
 let f3_:List (SB×Bool):=((.eq x0_ (.c 0)),.true)::f1_
 let f4_:List (SB×Bool):=((.eq x0_ (.c 0)),.false)::f1_
 let f5_:List (SB×Bool):=((.eq x3_ (.c 0)),.true)::f3_
 let f6_:List (SB×Bool):=((.ap 24 (.c 0) (.c 0) (.c 0) (.c 0) (.c 0) (.c 0)),.true)::f4_
 let f7_:List (SB×Bool):=((.le x3_ (.d 0)),.true)::((.eq x3_ (.c 0)),.false)::f3_
 let f8_:List (SB×Bool):=((.ap 26 x5_ x3_ (.c 0) (.c 0) (.c 0) (.c 0)),.true)::f7_
 let f9_:List (SB×Bool):=((.le x3_ (.c 4096)),.true)::f8_
 [(let i_:In:=⟨⟨[(32,(.ap 25 (.v 0) (.c 0) x1_ (.c 0) (.c 0) (.c 0))),(39,(.c 1))],[]⟩,[(0,0),(1,1)],[],[]⟩;.cut (((.ap 24 (.c 0) x4_ (.c 0) (.c 0) (.c 0) (.c 0)),.true)::f5_) 4 i_ [] (shT pPlays_T4 i_)),
  (.fin (((.ap 24 (.c 0) x4_ (.c 0) (.c 0) (.c 0) (.c 0)),.false)::f5_) 0 ⟨⟨[],[]⟩,[],[],[]⟩ [(.eb (.c .true) (.c .false))] []),
  (let i_:In:=⟨⟨[(40,(.ap 9 (.c 0) (.c 0) x1_ (.c 0) x3_ (.c 0))),(50,(.ap 25 (.v 0) (.c 0) x1_ (.c 0) (.c 0) (.c 0))),(42,(.d 0)),(41,(.ap 22 (.v 0) (.c 0) x1_ (.c 0) (.c 0) (.c 0))),(49,(.c 1))],[]⟩,[(2,2),(0,0),(1,1)],[],[]⟩;.cut (((.ap 24 x5_ x4_ x3_ (.c 0) (.c 0) (.c 0)),.true)::f9_) 5 i_ [] (shT pPlays_T5 i_)),
  (.fin (((.ap 24 x5_ x4_ x3_ (.c 0) (.c 0) (.c 0)),.false)::f9_) 0 ⟨⟨[],[]⟩,[],[],[]⟩ [(.eb (.c .true) (.c .false))] []),
  (.bad (((.le x3_ (.c 4096)),.false)::f8_)),
  (.bad (((.ap 26 x5_ x3_ (.c 0) (.c 0) (.c 0) (.c 0)),.false)::f7_)),
  (let i_:In:=⟨⟨[(32,(.c 0)),(39,(.c 1))],[]⟩,[(0,3),(1,1)],[],[]⟩;.cut (((.eq x0_ (.c 5)),.true)::f6_) 4 i_ [] (shT pPlays_T4 i_)),
  (let i_:In:=⟨⟨[(32,(.c 0)),(39,(.c 1))],[]⟩,[(0,0),(1,1)],[],[]⟩;.cut (((.eq x0_ (.c 5)),.false)::f6_) 4 i_ [] (shT pPlays_T4 i_)),
  (.fin (((.ap 24 (.c 0) (.c 0) (.c 0) (.c 0) (.c 0) (.c 0)),.false)::f4_) 0 ⟨⟨[],[]⟩,[],[],[]⟩ [(.eb (.c .true) (.c .false))] []),
  (.fin (((.ap 24 (.c 0) (.c 0) (.c 0) (.c 1000) (.c 0) (.c 0)),.true)::f2_) 0 ⟨⟨[],[]⟩,[],[],[]⟩ [] []),
  (.fin (((.ap 24 (.c 0) (.c 0) (.c 0) (.c 1000) (.c 0) (.c 0)),.false)::f2_) 0 ⟨⟨[],[]⟩,[],[],[]⟩ [(.eb (.c .true) (.c .false))] [])]
def pPlays_L4:List Lf:=
 let x0_:SI:=(.op .add (.v 39) (.c 1))
 let x1_:SI:=(.op .tmod (.v 39) (.c 5))
 let x2_:SI:=(.ap 3 (.v 1) (.v 39) (.c 0) (.c 0) (.c 0) (.c 0))
 let x3_:SI:=(.ap 200 (.v 1) (.c 0) (.c 0) (.c 0) (.c 0) (.c 0))
 let x4_:SI:=(.ap 8 (.v 1) (.v 39) (.c 2) (.c 0) (.c 10) (.c 0))
 let x5_:SI:=(.ap 200 (.v 32) (.c 0) (.c 0) (.c 0) (.c 0) (.c 0))
 let x6_:SI:=(.ap 22 (.v 0) (.c 0) x4_ (.c 0) (.c 0) (.c 0))
 let x7_:SI:=(.ap 25 (.v 0) (.v 32) x4_ (.c 0) (.c 0) (.c 0))
 let x8_:SI:=(.ap 9 (.c 0) (.c 0) x4_ (.c 0) x6_ (.c 0))
 let f0_:List (SB×Bool):=[((.lt (.c 0) x3_),.true),((.lt (.c 64) (.v 0)),.false),((.lt (.v 0) (.c 1)),.false),((.le (.v 26) (.c 2000)),.true),((.le (.v 25) (.c 100)),.true),((.le x3_ (.c 40)),.true),((.lt (.v 24) x3_),.false),((.le x3_ (.c 9223372036854775807)),.true)]
 let f1_:List (SB×Bool):=((.lt (.v 39) x3_),.true)::f0_
 let f2_:List (SB×Bool):=((.lt (.v 39) x3_),.false)::f0_
 let f3_:List (SB×Bool):=((.eq x5_ (.c 0)),.true)::f1_
 let f4_:List (SB×Bool):=((.eq x2_ (.c 0)),.true)::f3_
 let f5_:List (SB×Bool):=((.eq x2_ (.c 0)),.false)::f3_
 let f6_:List (SB×Bool):=((.eq x6_ (.c 0)),.true)::f4_
 let f7_:List (SB×Bool):=((.ap 24 (.c 0) (.v 32) (.c 0) x1_ (.c 0) (.c 0)),.true)::f5_
 let f8_:List (SB×Bool):=((.le x6_ (.d 0)),.true)::((.eq x6_ (.c 0)),.false)::f4_
 let f9_:List (SB×Bool):=((.ap 26 x8_ x6_ (.c 0) (.c 0) (.c 0) (.c 0)),.true)::f8_
 let f10_:List (SB×Bool):=((.le x6_ (.c 4096)),.true)::f9_
 [(let i_:In:=⟨⟨[(32,(.ap 25 (.v 0) (.v 32) x4_ (.c 0) (.c 0) (.c 0))),(39,(.wk .i64 x0_))],[]⟩,[(0,0),(1,1)],[],[]⟩;.cut (((.ap 24 (.c 0) x7_ (.c 0) x1_ (.c 0) (.c 0)),.true)::f6_) 4 i_ [(.rn (.wk .i64 x0_) 1 0)] (shT pPlays_T4 i_)),
  (.fin (((.ap 24 (.c 0) x7_ (.c 0) x1_ (.c 0) (.c 0)),.false)::f6_) 0 ⟨⟨[],[]⟩,[],[],[]⟩ [(.eb (.c .true) (.c .false))] []),
  (let i_:In:=⟨⟨[(40,(.ap 9 (.c 0) (.c 0) x4_ (.c 0) x6_ (.c 0))),(50,(.ap 25 (.v 0) (.v 32) x4_ (.c 0) (.c 0) (.c 0))),(42,(.d 0)),(41,(.ap 22 (.v 0) (.c 0) x4_ (.c 0) (.c 0) (.c 0))),(49,(.wk .i64 x0_))],[]⟩,[(2,2),(0,0),(1,1)],[],[]⟩;.cut (((.ap 24 x8_ x7_ x6_ x1_ (.c 0) (.c 0)),.true)::f10_) 5 i_ [] (shT pPlays_T5 i_)),
  (.fin (((.ap 24 x8_ x7_ x6_ x1_ (.c 0) (.c 0)),.false)::f10_) 0 ⟨⟨[],[]⟩,[],[],[]⟩ [(.eb (.c .true) (.c .false))] []),
  (.bad (((.le x6_ (.c 4096)),.false)::f9_)),
  (.bad (((.ap 26 x8_ x6_ (.c 0) (.c 0) (.c 0) (.c 0)),.false)::f8_)),
  (let i_:In:=⟨⟨[(32,(.v 32)),(39,(.wk .i64 x0_))],[]⟩,[(0,3),(1,1)],[],[]⟩;.cut (((.eq x2_ (.c 5)),.true)::f7_) 4 i_ [(.rn (.wk .i64 x0_) 1 0)] (shT pPlays_T4 i_)),
  (let i_:In:=⟨⟨[(32,(.v 32)),(39,(.wk .i64 x0_))],[]⟩,[(0,0),(1,1)],[],[]⟩;.cut (((.eq x2_ (.c 5)),.false)::f7_) 4 i_ [(.rn (.wk .i64 x0_) 1 0)] (shT pPlays_T4 i_)),
  (.fin (((.ap 24 (.c 0) (.v 32) (.c 0) x1_ (.c 0) (.c 0)),.false)::f5_) 0 ⟨⟨[],[]⟩,[],[],[]⟩ [(.eb (.c .true) (.c .false))] []),
  (.bad (((.eq x5_ (.c 0)),.false)::f1_)),
  (.fin (((.ap 24 (.c 0) (.v 32) (.c 0) (.c 1000) (.c 0) (.c 0)),.true)::f2_) 0 ⟨⟨[],[]⟩,[],[],[]⟩ [] []),
  (.fin (((.ap 24 (.c 0) (.v 32) (.c 0) (.c 1000) (.c 0) (.c 0)),.false)::f2_) 0 ⟨⟨[],[]⟩,[],[],[]⟩ [(.eb (.c .true) (.c .false))] [])]
def pPlays_L5:List Lf:=
 let x0_:SI:=(.op .add (.v 41) (.c 1))
 let x1_:SI:=(.op .add (.v 49) (.c 1))
 let x2_:SI:=(.op .tmod (.v 49) (.c 5))
 let x3_:SI:=(.op .add (.v 41) (.c (-1)))
 let p4_:SB×Bool:=((.le (.v 41) (.d 0)),.true)
 let x5_:SI:=(.ap 3 (.v 1) (.v 49) (.c 0) (.c 0) (.c 0) (.c 0))
 let x6_:SI:=(.ap 3 (.v 1) (.v 49) (.c 1) (.c 0) (.c 0) (.c 0))
 let x7_:SI:=(.ap 200 (.v 1) (.c 0) (.c 0) (.c 0) (.c 0) (.c 0))
 let x8_:SI:=(.ap 8 (.v 1) (.v 49) (.c 2) (.c 0) (.c 10) (.c 0))
 let x9_:SI:=(.ap 200 (.v 50) (.c 0) (.c 0) (.c 0) (.c 0) (.c 0))
 let p10_:SB×Bool:=((.ap 26 (.v 40) (.v 41) (.c 0) (.c 0) (.c 0) (.c 0)),.true)
 let p11_:SB×Bool:=((.ap 26 (.v 40) (.v 41) (.c 0) (.c 0) (.c 0) (.c 0)),.false)
 let p12_:SB×Bool:=((.ap 24 (.v 40) (.v 50) (.v 41) x2_ (.c 0) (.c 0)),.true)
 let p13_:SB×Bool:=((.ap 24 (.v 40) (.v 50) (.v 41) x2_ (.c 0) (.c 0)),.false)
 let x14_:SI:=(.ap 26 (.v 50) x6_ (.c 0) (.c 0) (.c 0) (.c 0))
 let x15_:SI:=(.ap 27 (.v 50) x6_ (.c 0) (.c 0) (.c 0) (.c 0))
 let x16_:SI:=(.ap 22 (.v 0) (.v 41) x8_ (.c 0) (.c 0) (.c 0))
 let x17_:SI:=(.ap 9 (.v 40) (.v 41) (.v 40) x6_ (.c 1) (.c 0))
 let x18_:SI:=(.ap 25 (.v 0) (.v 50) x8_ (.c 0) (.c 0) (.c 0))
 let x19_:SI:=(.op .add (.op .add (.v 41) (.op .mul x6_ (.c (-1)))) (.c (-1)))
 let x20_:SI:=(.op .add (.v 41) x16_)
 let x21_:SI:=(.ap 9 (.v 40) (.v 41) x8_ (.c 0) x16_ (.c 0))
 let x22_:SI:=(.ap 9 (.v 40) x6_ (.v 40) (.op .add x6_ (.c 1)) x19_ (.c 0))
 let f0_:List (SB×Bool):=[((.lt (.c 0) x7_),.true),((.lt (.c 64) (.v 0)),.false),((.lt (.v 0) (.c 1)),.false),((.le (.v 26) (.c 2000)),.true),((.le (.v 25) (.c 100)),.true),((.le x7_ (.c 40)),.true),((.lt (.v 24) x7_),.false),((.le x7_ (.c 9223372036854775807)),.true),((.le (.v 41) (.v 42)),.true)]
 let f1_:List (SB×Bool):=((.lt (.v 49) x7_),.true)::f0_
 let f2_:List (SB×Bool):=((.lt (.v 49) x7_),.false)::f0_
 let f3_:List (SB×Bool):=((.le (.c 0) (.v 49)),.true)::f1_
 let f4_:List (SB×Bool):=p10_::f2_
 let f5_:List (SB×Bool):=((.ap 27 (.v 40) (.v 41) (.v 50) (.c 0) (.c 0) (.c 0)),.true)::f3_
 let f6_:List (SB×Bool):=((.le (.v 41) (.c 4096)),.true)::f4_
 let f7_:List (SB×Bool):=((.ap 28 (.v 40) (.v 41) (.v 0) (.c 0) (.c 0) (.c 0)),.true)::f5_
 let f8_:List (SB×Bool):=p10_::f7_
 let f9_:List (SB×Bool):=((.eq (.v 41) x9_),.true)::f8_
 let f10_:List (SB×Bool):=((.le x9_ (.c 4096)),.true)::f9_
 let f11_:List (SB×Bool):=((.eq x5_ (.c 0)),.false)::f10_
 let f12_:List (SB×Bool):=((.le x20_ (.d 0)),.true)::((.eq x5_ (.c 0)),.true)::f10_
 let f13_:List (SB×Bool):=((.eq x5_ (.c 1)),.true)::f11_
 let f14_:List (SB×Bool):=((.eq x5_ (.c 1)),.false)::f11_
 let f15_:List (SB×Bool):=((.ap 26 x21_ x20_ (.c 0) (.c 0) (.c 0) (.c 0)),.true)::f12_
 let f16_:List (SB×Bool):=((.le (.c 0) x6_),.true)::f13_
 let f17_:List (SB×Bool):=((.eq x5_ (.c 2)),.true)::f14_
 let f18_:List (SB×Bool):=((.le x20_ (.c 4096)),.true)::f15_
 let f19_:List (SB×Bool):=p4_::((.le (.c 0) x6_),.false)::f13_
 let f20_:List (SB×Bool):=((.le (.c 0) x6_),.true)::f17_
 let f21_:List (SB×Bool):=p4_::((.eq x5_ (.c 2)),.false)::f14_
 let f22_:List (SB×Bool):=((.le x3_ (.d 0)),.true)::((.lt x6_ (.v 41)),.true)::f16_
 let f23_:List (SB×Bool):=p4_::((.lt x6_ (.v 41)),.false)::f16_
 let f24_:List (SB×Bool):=((.lt x6_ (.v 41)),.true)::f20_
 let f25_:List (SB×Bool):=p4_::((.le (.c 0) x6_),.false)::f17_
 let f26_:List (SB×Bool):=p12_::f21_
 let f27_:List (SB×Bool):=((.ap 26 x22_ x3_ (.c 0) (.c 0) (.c 0) (.c 0)),.true)::f22_
 let f28_:List (SB×Bool):=p4_::((.lt x6_ (.v 41)),.false)::f20_
 let f29_:List (SB×Bool):=((.eq x5_ (.c 5)),.true)::f26_
 let f30_:List (SB×Bool):=((.le x0_ (.d 0)),.true)::((.lt (.v 41) (.c 4096)),.true)::f24_
 let f31_:List (SB×Bool):=p4_::((.lt (.v 41) (.c 4096)),.false)::f24_
 let f32_:List (SB×Bool):=((.ap 26 x17_ x0_ (.c 0) (.c 0) (.c 0) (.c 0)),.true)::f30_
 [(let i_:In:=⟨⟨[(40,(.ap 9 (.v 40) (.v 41) x8_ (.c 0) x16_ (.c 0))),(50,(.ap 25 (.v 0) (.v 50) x8_ (.c 0) (.c 0) (.c 0))),(42,(.d 0)),(41,(.op .add (.v 41) x16_)),(49,(.wk .i64 x1_))],[]⟩,[(2,3),(0,0),(1,1)],[],[]⟩;.cut (((.ap 24 x21_ x18_ x20_ x2_ (.c 0) (.c 0)),.true)::f18_) 5 i_ [] (shT pPlays_T5 i_)),
  (.fin (((.ap 24 x21_ x18_ x20_ x2_ (.c 0) (.c 0)),.false)::f18_) 0 ⟨⟨[],[]⟩,[],[],[]⟩ [(.eb (.c .true) (.c .false))] []),
  (.bad (((.le x20_ (.c 4096)),.false)::f15_)),
  (.bad (((.ap 26 x21_ x20_ (.c 0) (.c 0) (.c 0) (.c 0)),.false)::f12_)),
  (let i_:In:=⟨⟨[(40,(.ap 9 (.v 40) x6_ (.v 40) (.op .add x6_ (.c 1)) x19_ (.c 0))),(50,(.ap 26 (.v 50) x6_ (.c 0) (.c 0) (.c 0) (.c 0))),(42,(.d 0)),(41,(.op .add (.v 41) (.c (-1)))),(49,(.wk .i64 x1_))],[]⟩,[(2,3),(0,0),(1,1)],[],[]⟩;.cut (((.ap 24 x22_ x14_ x3_ x2_ (.c 0) (.c 0)),.true)::f27_) 5 i_ [(.rn (.op .add (.v 41) (.c (-1))) 0 (-1))] (shT pPlays_T5 i_)),
  (.fin (((.ap 24 x22_ x14_ x3_ x2_ (.c 0) (.c 0)),.false)::f27_) 0 ⟨⟨[],[]⟩,[],[],[]⟩ [(.eb (.c .true) (.c .false))] []),
  (.bad (((.ap 26 x22_ x3_ (.c 0) (.c 0) (.c 0) (.c 0)),.false)::f22_)),
  (let i_:In:=⟨⟨[(40,(.v 40)),(50,(.v 50)),(42,(.d 0)),(41,(.v 41)),(49,(.wk .i64 x1_))],[]⟩,[(2,3),(0,0),(1,1)],[],[]⟩;.cut (p12_::f23_) 5 i_ [] (shT pPlays_T5 i_)),
  (.fin (p13_::f23_) 0 ⟨⟨[],[]⟩,[],[],[]⟩ [(.eb (.c .true) (.c .false))] []),
  (let i_:In:=⟨⟨[(40,(.v 40)),(50,(.v 50)),(42,(.d 0)),(41,(.v 41)),(49,(.wk .i64 x1_))],[]⟩,[(2,3),(0,0),(1,1)],[],[]⟩;.cut (p12_::f19_) 5 i_ [] (shT pPlays_T5 i_)),
  (.fin (p13_::f19_) 0 ⟨⟨[],[]⟩,[],[],[]⟩ [(.eb (.c .true) (.c .false))] []),
  (let i_:In:=⟨⟨[(40,(.ap 9 (.v 40) (.v 41) (.v 40) x6_ (.c 1) (.c 0))),(50,(.ap 27 (.v 50) x6_ (.c 0) (.c 0) (.c 0) (.c 0))),(42,(.d 0)),(41,(.op .add (.v 41) (.c 1))),(49,(.wk .i64 x1_))],[]⟩,[(2,3),(0,0),(1,1)],[],[]⟩;.cut (((.ap 24 x17_ x15_ x0_ x2_ (.c 0) (.c 0)),.true)::f32_) 5 i_ [] (shT pPlays_T5 i_)),
  (.fin (((.ap 24 x17_ x15_ x0_ x2_ (.c 0) (.c 0)),.false)::f32_) 0 ⟨⟨[],[]⟩,[],[],[]⟩ [(.eb (.c .true) (.c .false))] []),
  (.bad (((.ap 26 x17_ x0_ (.c 0) (.c 0) (.c 0) (.c 0)),.false)::f30_)),
  (let i_:In:=⟨⟨[(40,(.v 40)),(50,(.v 50)),(42,(.d 0)),(41,(.v 41)),(49,(.wk .i64 x1_))],[]⟩,[(2,3),(0,0),(1,1)],[],[]⟩;.cut (p12_::f31_) 5 i_ [] (shT pPlays_T5 i_)),
  (.fin (p13_::f31_) 0 ⟨⟨[],[]⟩,[],[],[]⟩ [(.eb (.c .true) (.c .false))] []),
  (let i_:In:=⟨⟨[(40,(.v 40)),(50,(.v 50)),(42,(.d 0)),(41,(.v 41)),(49,(.wk .i64 x1_))],[]⟩,[(2,3),(0,0),(1,1)],[],[]⟩;.cut (p12_::f28_) 5 i_ [] (shT pPlays_T5 i_)),
  (.fin (p13_::f28_) 0 ⟨⟨[],[]⟩,[],[],[]⟩ [(.eb (.c .true) (.c .false))] []),
  (let i_:In:=⟨⟨[(40,(.v 40)),(50,(.v 50)),(42,(.d 0)),(41,(.v 41)),(49,(.wk .i64 x1_))],[]⟩,[(2,3),(0,0),(1,1)],[],[]⟩;.cut (p12_::f25_) 5 i_ [] (shT pPlays_T5 i_)),
  (.fin (p13_::f25_) 0 ⟨⟨[],[]⟩,[],[],[]⟩ [(.eb (.c .true) (.c .false))] []),
  (let i_:In:=⟨⟨[(32,(.v 50)),(39,(.wk .i64 x1_))],[]⟩,[(0,5),(1,1)],[],[]⟩;.cut (((.eq (.v 41) (.c 0)),.true)::f29_) 4 i_ [(.rn (.wk .i64 x1_) 1 0)] (shT pPlays_T4 i_)),
  (let i_:In:=⟨⟨[(40,(.ap 23 (.v 40) (.v 41) (.c 0) (.c 0) (.c 0) (.c 0))),(50,(.v 50)),(42,(.d 1)),(41,(.v 41)),(49,(.wk .i64 x1_))],[]⟩,[(2,5),(0,6),(1,1)],[],[]⟩;.cut (((.le (.v 41) (.d 1)),.true)::((.eq (.v 41) (.c 0)),.false)::f29_) 5 i_ [] (shT pPlays_T5 i_)),
  (let i_:In:=⟨⟨[(40,(.v 40)),(50,(.v 50)),(42,(.d 0)),(41,(.v 41)),(49,(.wk .i64 x1_))],[]⟩,[(2,3),(0,0),(1,1)],[],[]⟩;.cut (((.eq x5_ (.c 5)),.false)::f26_) 5 i_ [] (shT pPlays_T5 i_)),
  (.fin (p13_::f21_) 0 ⟨⟨[],[]⟩,[],[],[]⟩ [(.eb (.c .true) (.c .false))] []),
  (.bad (((.le x9_ (.c 4096)),.false)::f9_)),
  (.bad (((.eq (.v 41) x9_),.false)::f8_)),
  (.bad (p11_::f7_)),
  (.bad (((.ap 28 (.v 40) (.v 41) (.v 0) (.c 0) (.c 0) (.c 0)),.false)::f5_)),
  (.bad (((.ap 27 (.v 40) (.v 41) (.v 50) (.c 0) (.c 0) (.c 0)),.false)::f3_)),
  (.bad (((.le (.c 0) (.v 49)),.false)::f1_)),
  (.fin (((.ap 24 (.v 40) (.v 50) (.v 41) (.c 1000) (.c 0) (.c 0)),.true)::f6_) 0 ⟨⟨[],[]⟩,[],[],[]⟩ [] []),
  (.fin (((.ap 24 (.v 40) (.v 50) (.v 41) (.c 1000) (.c 0) (.c 0)),.false)::f6_) 0 ⟨⟨[],[]⟩,[],[],[]⟩ [(.eb (.c .true) (.c .false))] []),
  (.bad (((.le (.v 41) (.c 4096)),.false)::f4_)),
  (.bad (p11_::f2_))]
def pPlays_run (T:Tm):=(ex (ccOf Try.prog BF [] pPlays) ((fun cc=>[pWks.ent cc,cOwn.entH cc,cSmP.ent cc,cIs.ent cc,cIs0.ent cc,cAct.ent cc,cAct0.ent cc,cEach.ent cc]) (ccOf Try.prog BF [] pPlays)) (dw (ccOf Try.prog BF [] pPlays) ((fun cc=>[pWks.ent cc,cOwn.entH cc,cSmP.ent cc,cIs.ent cc,cIs0.ent cc,cAct.ent cc,cAct0.ent cc,cEach.ent cc]) (ccOf Try.prog BF [] pPlays)) 100 4) (stopX [0,1,2,3,4,6,7,8,9,10,11,12,13,14,16,17,18,19,20,21,22,23,24,25,26,27,28,29,30,31,32,33,34,35,36,37,38,39,40,41,42,43,44,45,46,47,48,49,50,51,52,53,54,55,56,57,58,59,60,61,62,63,64,65,66,67,68,69,70,71,72,73,74,75,76,77,78,79,80,81,82,83,84,85,86,87,88,89,90,91,92,93,94,95,96,97,98,99,100,101,102,103,104,105,106,107,108,109,110,111,112,113,114,115,116,117,118,119,120,121,122,123,124,125,126,127,128,129,130,131,132,133,134,135,136,137,138,139,140,141,142,143,144,145,146,147,148,149,150,151,152,153,154,155,156,157,158,159,160,161,162,163,164,165,166,167,168,169,170,171,172,173,174,175,176,177,178,179,180,181,182,183,184,185,186,187,188,189,190,191,192,193,194,195,196,197,198,199,200,201,202,203,204,205,206,207,208,209,210,211,212,213,214,215,216,217,218,219,220,221,222,223,224,225,226,227,228,229,230,231,232,233,234,235,236,237,238,239,240,241,242,243,244,245,246,247,248,249]) 200000 T.f T.fs T.H).lfs (ccOf Try.prog BF [] pPlays) ((tm0 pPlays Try.f5 (Try.f5.body.getD .skip))::[pPlays_T1,pPlays_T2,pPlays_T3,pPlays_T4,pPlays_T5]) pPlays.os
theorem pPlays_h0:pPlays_run (tm0 pPlays Try.f5 (Try.f5.body.getD .skip))=some pPlays_L0:=by kernel_rfl
theorem pPlays_h1:pPlays_run pPlays_T1=some pPlays_L1:=by kernel_rfl
theorem pPlays_h2:pPlays_run pPlays_T2=some pPlays_L2:=by kernel_rfl
theorem pPlays_h3:pPlays_run pPlays_T3=some pPlays_L3:=by kernel_rfl
theorem pPlays_h4:pPlays_run pPlays_T4=some pPlays_L4:=by kernel_rfl
theorem pPlays_h5:pPlays_run pPlays_T5=some pPlays_L5:=by kernel_rfl
def pPlays_inv:(Nat→Int)→(Nat→Bool)→Nat→(Nat→Int)→(Nat→Bool)→Prop:=fun iv0 _ k iv _=>match k with | 0=>True | 1=>0≤iv 24∧iv 24≤41∧0≤iv 25∧iv 25≤201∧0≤iv 26∧iv 26≤4001 | 2=>0≤iv 24∧iv 24≤40∧0≤iv 25∧iv 25≤100∧0≤iv 27∧iv 27≤101∧0≤iv 28∧iv 28≤4001 | 3=>True | 4=>1≤iv 39∧iv 39≤flenC (iv0 1)∧flenC (iv 32)=0 | _=>1≤iv 49∧iv 49≤flenC (iv0 1)∧relB (iv 40) (iv 41) (iv 50)∧rowsOk (iv 40) (iv 41) (iv0 0)∧0≤iv 41∧iv 41≤4096∧iv 41≤iv 42
def pPlays_mu:(Nat→Int)→(Nat→Bool)→Nat→(Nat→Int)→(Nat→Bool)→Nat:=fun iv0 _ k iv _=>match k with | 0=>2 ^ 90 | 1=>((100 - iv 24) * 2000+1000).toNat | 2=>((100 - iv 24) * 2000+500 - iv 27).toNat | 3=>10000 | 4=>(5000 - iv 39).toNat | _=>(5000 - iv 49).toNat
def pPlays_ob (k:Nat) (l:List Lf):Prop:=∀ (kv:Kv) (iv0:Nat→Int) (bv0:Nat→Bool),InB pPlays.B iv0→FT (sta FI FB kv iv0 bv0) (dlt dyn0) pPlays.F→∀ (iv:Nat→Int) (bv:Nat→Bool),Agr 2 iv0 bv0 iv bv→pPlays_inv iv0 bv0 k iv bv→∀ lf∈l,LfT (sta FI FB kv) pPlays.os (pPlays_inv iv0 bv0) (pPlays_mu iv0 bv0) k iv bv lf
theorem pPlays_o0:pPlays_ob 0 pPlays_L0:=by
 intro kv iv0 bv0 hin hF iv bv ha hi
 unfold pPlays_L0
 refine List.forall_mem_cons.2 ⟨?_,List.forall_mem_nil _⟩
 all_goals
  intro δ hf
 all_goals
  have a0:=ha.1 0 (by omega)
  have a1:=ha.1 1 (by omega)
 all_goals
  simp only [FT,TP,SB.tp,SI.tv,sta,IB.eval,and_true,true_and,ObsT,Ob.Tv,rowT,kix,In.tiv,↓tbvT,In.tbv,get_cons,get_nil,reduceIte,Nat.reduceEqDiff,Int.reduceToNat,Int.reduceAdd,Int.reduceSub,Int.reduceLE,Int.reduceLT,Int.reduceEq,ne_eq,Bool.false_eq_true,not_true_eq_false,not_false_eq_true,true_iff,false_iff,iff_true,iff_false,false_implies,implies_true,decT,decide_true,decide_false,Bool.decide_eq_true,ap2,pb2,FI_3,FI_4,FI_8,FI_9,FI_8c,FI_8z,FI_200,FB_2,Int.toNat_natCast,Int.toNat_zero,FI_22,FI_23,FI_24,FI_25,FI_26,FI_27,FB_24,FB_25,FB_26,FB_27,FB_28,pPlays_inv,pPlays_mu,pPlays,o1,othT,o1,i64b,kP,pkV,flF,i64s,lmap,SI.fl,flay,flayL,wP,pk0,pkAt,mayO,i64b,lO,hO,lenB,fO,bO,plO,plN,ppV,bP,plA,arP,fT,bT,rgT,n1T,toF,plR,arR,bkR,leR,outR,fcR,outC,isW,rgC,fC,aC,bC,pwC,mxF,a0,a1] at hf hi ⊢
 all_goals
  have z0:=flenC_zero
 all_goals
  have n1:=flenC_nn (iv0 1)
 all_goals
  (repeat' (with_reducible apply And.intro))<;>first
  | omega
  | assumption
  | (unfold inM;omega)
  | exact trivial
  | (clear hin hF ha;grind)
theorem pPlays_o1:pPlays_ob 1 pPlays_L1:=by
 intro kv iv0 bv0 hin hF iv bv ha hi
 unfold pPlays_L1
 refine List.forall_mem_cons.2 ⟨?_,List.forall_mem_cons.2 ⟨?_,List.forall_mem_cons.2 ⟨?_,List.forall_mem_cons.2 ⟨?_,List.forall_mem_cons.2 ⟨?_,List.forall_mem_cons.2 ⟨?_,List.forall_mem_cons.2 ⟨?_,List.forall_mem_cons.2 ⟨?_,List.forall_mem_cons.2 ⟨?_,List.forall_mem_cons.2 ⟨?_,List.forall_mem_nil _⟩⟩⟩⟩⟩⟩⟩⟩⟩⟩
 all_goals
  intro δ hf
 all_goals
  have a0:=ha.1 0 (by omega)
  have a1:=ha.1 1 (by omega)
 all_goals
  simp only [FT,TP,SB.tp,SI.tv,sta,IB.eval,and_true,true_and,ObsT,Ob.Tv,rowT,kix,In.tiv,↓tbvT,In.tbv,get_cons,get_nil,reduceIte,Nat.reduceEqDiff,Int.reduceToNat,Int.reduceAdd,Int.reduceSub,Int.reduceLE,Int.reduceLT,Int.reduceEq,ne_eq,Bool.false_eq_true,not_true_eq_false,not_false_eq_true,true_iff,false_iff,iff_true,iff_false,false_implies,implies_true,decT,decide_true,decide_false,Bool.decide_eq_true,ap2,pb2,FI_3,FI_4,FI_8,FI_9,FI_8c,FI_8z,FI_200,FB_2,Int.toNat_natCast,Int.toNat_zero,FI_22,FI_23,FI_24,FI_25,FI_26,FI_27,FB_24,FB_25,FB_26,FB_27,FB_28,pPlays_inv,pPlays_mu,pPlays,o1,othT,o1,i64b,kP,pkV,flF,i64s,lmap,SI.fl,flay,flayL,wP,pk0,pkAt,mayO,i64b,lO,hO,lenB,fO,bO,plO,plN,ppV,bP,plA,arP,fT,bT,rgT,n1T,toF,plR,arR,bkR,leR,outR,fcR,outC,isW,rgC,fC,aC,bC,pwC,mxF,a0,a1] at hf hi ⊢
 all_goals
  obtain ⟨g0,g1,g2,g3,g4,g5⟩:=hi
 all_goals
  have z0:=flenC_zero
 all_goals
  have n1:=flenC_nn (iv0 1)
 all_goals
  have f0:=flenC_nn (gt (iv0 1) (iv 24).toNat 2)
 all_goals
  have w24:0≤iv 24→iv 24≤4096→IntKind.i64.wrap (iv 24+1)=iv 24+1:=fun _ _=>by rw [wrap_i64];omega
 all_goals
  (repeat' (with_reducible apply And.intro))<;>first
  | omega
  | assumption
  | (unfold inM;omega)
  | exact trivial
  | (clear hin hF ha;grind)
theorem pPlays_o2:pPlays_ob 2 pPlays_L2:=by
 intro kv iv0 bv0 hin hF iv bv ha hi
 unfold pPlays_L2
 refine List.forall_mem_cons.2 ⟨?_,List.forall_mem_cons.2 ⟨?_,List.forall_mem_cons.2 ⟨?_,List.forall_mem_cons.2 ⟨?_,List.forall_mem_nil _⟩⟩⟩⟩
 all_goals
  intro δ hf
 all_goals
  have a0:=ha.1 0 (by omega)
  have a1:=ha.1 1 (by omega)
 all_goals
  simp only [FT,TP,SB.tp,SI.tv,sta,IB.eval,and_true,true_and,ObsT,Ob.Tv,rowT,kix,In.tiv,↓tbvT,In.tbv,get_cons,get_nil,reduceIte,Nat.reduceEqDiff,Int.reduceToNat,Int.reduceAdd,Int.reduceSub,Int.reduceLE,Int.reduceLT,Int.reduceEq,ne_eq,Bool.false_eq_true,not_true_eq_false,not_false_eq_true,true_iff,false_iff,iff_true,iff_false,false_implies,implies_true,decT,decide_true,decide_false,Bool.decide_eq_true,ap2,pb2,FI_3,FI_4,FI_8,FI_9,FI_8c,FI_8z,FI_200,FB_2,Int.toNat_natCast,Int.toNat_zero,FI_22,FI_23,FI_24,FI_25,FI_26,FI_27,FB_24,FB_25,FB_26,FB_27,FB_28,pPlays_inv,pPlays_mu,pPlays,o1,othT,o1,i64b,kP,pkV,flF,i64s,lmap,SI.fl,flay,flayL,wP,pk0,pkAt,mayO,i64b,lO,hO,lenB,fO,bO,plO,plN,ppV,bP,plA,arP,fT,bT,rgT,n1T,toF,plR,arR,bkR,leR,outR,fcR,outC,isW,rgC,fC,aC,bC,pwC,mxF,a0,a1] at hf hi ⊢
 all_goals
  obtain ⟨g0,g1,g2,g3,g4,g5,g6,g7⟩:=hi
 all_goals
  have z0:=flenC_zero
 all_goals
  have n1:=flenC_nn (iv0 1)
 all_goals
  have f0:=flenC_nn (gt (gt (iv0 1) (iv 24).toNat 2) (iv 27).toNat 2)
 all_goals
  have f1:=flenC_nn (gt (iv0 1) (iv 24).toNat 2)
 all_goals
  (repeat' (with_reducible apply And.intro))<;>first
  | omega
  | assumption
  | (unfold inM;omega)
  | exact trivial
  | (clear hin hF ha;grind)
theorem pPlays_o3:pPlays_ob 3 pPlays_L3:=by
 intro kv iv0 bv0 hin hF iv bv ha hi
 unfold pPlays_L3
 refine List.forall_mem_cons.2 ⟨?_,List.forall_mem_cons.2 ⟨?_,List.forall_mem_cons.2 ⟨?_,List.forall_mem_cons.2 ⟨?_,List.forall_mem_cons.2 ⟨?_,List.forall_mem_cons.2 ⟨?_,List.forall_mem_cons.2 ⟨?_,List.forall_mem_cons.2 ⟨?_,List.forall_mem_cons.2 ⟨?_,List.forall_mem_cons.2 ⟨?_,List.forall_mem_cons.2 ⟨?_,List.forall_mem_nil _⟩⟩⟩⟩⟩⟩⟩⟩⟩⟩⟩
 all_goals
  intro δ hf
 all_goals
  have a0:=ha.1 0 (by omega)
  have a1:=ha.1 1 (by omega)
 all_goals
  simp only [FT,TP,SB.tp,SI.tv,sta,IB.eval,and_true,true_and,ObsT,Ob.Tv,rowT,kix,In.tiv,↓tbvT,In.tbv,get_cons,get_nil,reduceIte,Nat.reduceEqDiff,Int.reduceToNat,Int.reduceAdd,Int.reduceSub,Int.reduceLE,Int.reduceLT,Int.reduceEq,ne_eq,Bool.false_eq_true,not_true_eq_false,not_false_eq_true,true_iff,false_iff,iff_true,iff_false,false_implies,implies_true,decT,decide_true,decide_false,Bool.decide_eq_true,ap2,pb2,FI_3,FI_4,FI_8,FI_9,FI_8c,FI_8z,FI_200,FB_2,Int.toNat_natCast,Int.toNat_zero,FI_22,FI_23,FI_24,FI_25,FI_26,FI_27,FB_24,FB_25,FB_26,FB_27,FB_28,pPlays_inv,pPlays_mu,pPlays,o1,othT,o1,i64b,kP,pkV,flF,i64s,lmap,SI.fl,flay,flayL,wP,pk0,pkAt,mayO,i64b,lO,hO,lenB,fO,bO,plO,plN,ppV,bP,plA,arP,fT,bT,rgT,n1T,toF,plR,arR,bkR,leR,outR,fcR,outC,isW,rgC,fC,aC,bC,pwC,mxF,a0,a1] at hf hi ⊢
 all_goals
  have z0:=flenC_zero
 all_goals
  have n1:=flenC_nn (iv0 1)
 all_goals
  have e0:flenC 0=0→relB 0 0 0:=fun h=>⟨h.symm,fun j hj=>by omega⟩
 all_goals
  have p0:=fun h=>@rel_put 0 0 0 (iv0 0) (gt (iv0 1) 0 2) (e0 h) (Int.le_refl 0)
 all_goals
  have q0:=@rows_put 0 0 (iv0 0) (gt (iv0 1) 0 2) (fun j hj=>by omega) (Int.le_refl 0)
 all_goals
  have l0:=rows_len q0
 all_goals
  have k0:=@putK_le (iv0 0) 0 (gt (iv0 1) 0 2) (Int.le_refl 0) (by omega)
 all_goals
  have m0:=putK_in (iv0 0) 0 (gt (iv0 1) 0 2)
 all_goals
  have f0:flenC 0=0→flenC (putW (iv0 0) 0 (gt (iv0 1) 0 2))=putK (iv0 0) 0 (gt (iv0 1) 0 2):=fun h=>by have:=@putW_fl (iv0 0) 0 (gt (iv0 1) 0 2);rw [h] at this;omega
 all_goals
  have b2:=fun m h=>@isB_no0 (putW (iv0 0) 0 (gt (iv0 1) 0 2)) m h
 all_goals
  have b0:=fun m=>@isB_no0 0 m
 all_goals
  have b1:=fun h m=>@isB_rel _ _ _ m (p0 h)
 all_goals
  simp only [Int.zero_add] at p0 q0 l0 k0 b1
 all_goals
  have c0:=fun h=>rel_cpR (p0 h)
 all_goals
  have c1:=rows_cpR q0
 all_goals
  (repeat' (with_reducible apply And.intro))<;>first
  | omega
  | assumption
  | (unfold inM;omega)
  | exact trivial
  | (clear hin hF ha;grind)
theorem pPlays_o4:pPlays_ob 4 pPlays_L4:=by
 intro kv iv0 bv0 hin hF iv bv ha hi
 unfold pPlays_L4
 refine List.forall_mem_cons.2 ⟨?_,List.forall_mem_cons.2 ⟨?_,List.forall_mem_cons.2 ⟨?_,List.forall_mem_cons.2 ⟨?_,List.forall_mem_cons.2 ⟨?_,List.forall_mem_cons.2 ⟨?_,List.forall_mem_cons.2 ⟨?_,List.forall_mem_cons.2 ⟨?_,List.forall_mem_cons.2 ⟨?_,List.forall_mem_cons.2 ⟨?_,List.forall_mem_cons.2 ⟨?_,List.forall_mem_cons.2 ⟨?_,List.forall_mem_nil _⟩⟩⟩⟩⟩⟩⟩⟩⟩⟩⟩⟩
 all_goals
  intro δ hf
 all_goals
  have a0:=ha.1 0 (by omega)
  have a1:=ha.1 1 (by omega)
 all_goals
  simp only [FT,TP,SB.tp,SI.tv,sta,IB.eval,and_true,true_and,ObsT,Ob.Tv,rowT,kix,In.tiv,↓tbvT,In.tbv,get_cons,get_nil,reduceIte,Nat.reduceEqDiff,Int.reduceToNat,Int.reduceAdd,Int.reduceSub,Int.reduceLE,Int.reduceLT,Int.reduceEq,ne_eq,Bool.false_eq_true,not_true_eq_false,not_false_eq_true,true_iff,false_iff,iff_true,iff_false,false_implies,implies_true,decT,decide_true,decide_false,Bool.decide_eq_true,ap2,pb2,FI_3,FI_4,FI_8,FI_9,FI_8c,FI_8z,FI_200,FB_2,Int.toNat_natCast,Int.toNat_zero,FI_22,FI_23,FI_24,FI_25,FI_26,FI_27,FB_24,FB_25,FB_26,FB_27,FB_28,pPlays_inv,pPlays_mu,pPlays,o1,othT,o1,i64b,kP,pkV,flF,i64s,lmap,SI.fl,flay,flayL,wP,pk0,pkAt,mayO,i64b,lO,hO,lenB,fO,bO,plO,plN,ppV,bP,plA,arP,fT,bT,rgT,n1T,toF,plR,arR,bkR,leR,outR,fcR,outC,isW,rgC,fC,aC,bC,pwC,mxF,a0,a1] at hf hi ⊢
 all_goals
  obtain ⟨g0,g1,g2⟩:=hi
 all_goals
  have z0:=flenC_zero
 all_goals
  have n1:=flenC_nn (iv0 1)
 all_goals
  have w39:0≤iv 39→iv 39≤4096→IntKind.i64.wrap (iv 39+1)=iv 39+1:=fun _ _=>by rw [wrap_i64];omega
 all_goals
  have e0:flenC (iv 32)=0→relB 0 0 (iv 32):=fun h=>⟨h.symm,fun j hj=>by omega⟩
 all_goals
  have p0:=fun h=>@rel_put 0 0 (iv 32) (iv0 0) (gt (iv0 1) (iv 39).toNat 2) (e0 h) (Int.le_refl 0)
 all_goals
  have q0:=@rows_put 0 0 (iv0 0) (gt (iv0 1) (iv 39).toNat 2) (fun j hj=>by omega) (Int.le_refl 0)
 all_goals
  have l0:=rows_len q0
 all_goals
  have k0:=@putK_le (iv0 0) 0 (gt (iv0 1) (iv 39).toNat 2) (Int.le_refl 0) (by omega)
 all_goals
  have m0:=putK_in (iv0 0) 0 (gt (iv0 1) (iv 39).toNat 2)
 all_goals
  have f0:flenC (iv 32)=0→flenC (putW (iv0 0) (iv 32) (gt (iv0 1) (iv 39).toNat 2))=putK (iv0 0) 0 (gt (iv0 1) (iv 39).toNat 2):=fun h=>by have:=@putW_fl (iv0 0) (iv 32) (gt (iv0 1) (iv 39).toNat 2);rw [h] at this;omega
 all_goals
  have b2:=fun m h=>@isB_no0 (putW (iv0 0) (iv 32) (gt (iv0 1) (iv 39).toNat 2)) m h
 all_goals
  have b0:=fun m=>@isB_no0 (iv 32) m
 all_goals
  have b1:=fun h m=>@isB_rel _ _ _ m (p0 h)
 all_goals
  simp only [Int.zero_add] at p0 q0 l0 k0 b1
 all_goals
  have c0:=fun h=>rel_cpR (p0 h)
 all_goals
  have c1:=rows_cpR q0
 all_goals
  (repeat' (with_reducible apply And.intro))<;>first
  | omega
  | assumption
  | (unfold inM;omega)
  | exact trivial
  | (clear hin hF ha;grind)
theorem pPlays_o5:pPlays_ob 5 pPlays_L5:=by
 intro kv iv0 bv0 hin hF iv bv ha hi
 unfold pPlays_L5
 refine List.forall_mem_cons.2 ⟨?_,List.forall_mem_cons.2 ⟨?_,List.forall_mem_cons.2 ⟨?_,List.forall_mem_cons.2 ⟨?_,List.forall_mem_cons.2 ⟨?_,List.forall_mem_cons.2 ⟨?_,List.forall_mem_cons.2 ⟨?_,List.forall_mem_cons.2 ⟨?_,List.forall_mem_cons.2 ⟨?_,List.forall_mem_cons.2 ⟨?_,List.forall_mem_cons.2 ⟨?_,List.forall_mem_cons.2 ⟨?_,List.forall_mem_cons.2 ⟨?_,List.forall_mem_cons.2 ⟨?_,List.forall_mem_cons.2 ⟨?_,List.forall_mem_cons.2 ⟨?_,List.forall_mem_cons.2 ⟨?_,List.forall_mem_cons.2 ⟨?_,List.forall_mem_cons.2 ⟨?_,List.forall_mem_cons.2 ⟨?_,List.forall_mem_cons.2 ⟨?_,List.forall_mem_cons.2 ⟨?_,List.forall_mem_cons.2 ⟨?_,List.forall_mem_cons.2 ⟨?_,List.forall_mem_cons.2 ⟨?_,List.forall_mem_cons.2 ⟨?_,List.forall_mem_cons.2 ⟨?_,List.forall_mem_cons.2 ⟨?_,List.forall_mem_cons.2 ⟨?_,List.forall_mem_cons.2 ⟨?_,List.forall_mem_cons.2 ⟨?_,List.forall_mem_cons.2 ⟨?_,List.forall_mem_cons.2 ⟨?_,List.forall_mem_cons.2 ⟨?_,List.forall_mem_nil _⟩⟩⟩⟩⟩⟩⟩⟩⟩⟩⟩⟩⟩⟩⟩⟩⟩⟩⟩⟩⟩⟩⟩⟩⟩⟩⟩⟩⟩⟩⟩⟩⟩⟩
 all_goals
  intro δ hf
 all_goals
  have a0:=ha.1 0 (by omega)
  have a1:=ha.1 1 (by omega)
 all_goals
  simp only [FT,TP,SB.tp,SI.tv,sta,IB.eval,and_true,true_and,ObsT,Ob.Tv,rowT,kix,In.tiv,↓tbvT,In.tbv,get_cons,get_nil,reduceIte,Nat.reduceEqDiff,Int.reduceToNat,Int.reduceAdd,Int.reduceSub,Int.reduceLE,Int.reduceLT,Int.reduceEq,ne_eq,Bool.false_eq_true,not_true_eq_false,not_false_eq_true,true_iff,false_iff,iff_true,iff_false,false_implies,implies_true,decT,decide_true,decide_false,Bool.decide_eq_true,ap2,pb2,FI_3,FI_4,FI_8,FI_9,FI_8c,FI_8z,FI_200,FB_2,Int.toNat_natCast,Int.toNat_zero,FI_22,FI_23,FI_24,FI_25,FI_26,FI_27,FB_24,FB_25,FB_26,FB_27,FB_28,pPlays_inv,pPlays_mu,pPlays,o1,othT,o1,i64b,kP,pkV,flF,i64s,lmap,SI.fl,flay,flayL,wP,pk0,pkAt,mayO,i64b,lO,hO,lenB,fO,bO,plO,plN,ppV,bP,plA,arP,fT,bT,rgT,n1T,toF,plR,arR,bkR,leR,outR,fcR,outC,isW,rgC,fC,aC,bC,pwC,mxF,a0,a1] at hf hi ⊢
 all_goals
  obtain ⟨g0,g1,g2,g3,g4,g5,g6⟩:=hi
 all_goals
  have z0:=flenC_zero
 all_goals
  have n1:=flenC_nn (iv0 1)
 all_goals
  have w49:0≤iv 49→iv 49≤4096→IntKind.i64.wrap (iv 49+1)=iv 49+1:=fun _ _=>by rw [wrap_i64];omega
 all_goals
  have g7:=g2.1
 all_goals
  have qp:=@rel_put _ _ _ (iv0 0) (gt (iv0 1) (iv 49).toNat 2) g2 g4
 all_goals
  have qr:=@rows_put _ _ _ (gt (iv0 1) (iv 49).toNat 2) g3 g4
 all_goals
  have ql:=rows_len qr
 all_goals
  have qk:=@putK_le (iv0 0) _ (gt (iv0 1) (iv 49).toNat 2) g4 g5
 all_goals
  have qi:=putK_in (iv0 0) (iv 41) (gt (iv0 1) (iv 49).toNat 2)
 all_goals
  have tr:=fun (h0:0≤(fl (iv0 1) (iv 49).toNat 1))=>@rmR_blit (iv 40) (iv 41) (fl (iv0 1) (iv 49).toNat 1) ((fl (iv0 1) (iv 49).toNat 1)+1) ((iv 41)+((fl (iv0 1) (iv 49).toNat 1) * -1+-1)) h0 rfl (by omega)
 all_goals
  have tp:=fun h0 h1=>@rel_rm (iv 40) (iv 41) (iv 50) (fl (iv0 1) (iv 49).toNat 1) _ ((iv 41)+-1) g2 h0 h1 (tr h0) (by omega)
 all_goals
  have tq:=fun h0=>@rows_rm (iv 40) (iv 41) (iv0 0) (fl (iv0 1) (iv 49).toNat 1) _ ((iv 41)+-1) g3 (tr h0) (by omega)
 all_goals
  have tl:=fun h0=>rows_len (tq h0)
 all_goals
  have dp:=fun h0 h1=>@rel_dbl (iv 40) (iv 41) (iv 50) (fl (iv0 1) (iv 49).toNat 1) g2 h0 h1
 all_goals
  have dq:=fun h0 h1=>@rows_dbl (iv 40) (iv 41) (iv0 0) (fl (iv0 1) (iv 49).toNat 1) g3 h0 h1
 all_goals
  have dl:=fun h0 h1=>rows_len (dq h0 h1)
 all_goals
  have gl:=rows_len g3
 all_goals
  have gi:=fun m=>@isB_rel _ _ _ m g2
 all_goals
  have bp:=fun m=>@isB_rel _ _ _ m qp
 all_goals
  have bt:=fun h0 h1 m=>@isB_rel _ _ _ m (tp h0 h1)
 all_goals
  have bd:=fun h0 h1 m=>@isB_rel _ _ _ m (dp h0 h1)
 all_goals
  have cr:=rel_cpR g2
 all_goals
  have cs:=rows_cpR g3
 all_goals
  (repeat' (with_reducible apply And.intro))<;>first
  | omega
  | assumption
  | (unfold inM;omega)
  | exact trivial
  | (clear hin hF ha;grind)
theorem pPlays_c:LsC ((tm0 pPlays Try.f5 (Try.f5.body.getD .skip))::[pPlays_T1,pPlays_T2,pPlays_T3,pPlays_T4,pPlays_T5]) pPlays.os [pPlays_L0,pPlays_L1,pPlays_L2,pPlays_L3,pPlays_L4,pPlays_L5]:=by
 unfold pPlays_L0 pPlays_L1 pPlays_L2 pPlays_L3 pPlays_L4 pPlays_L5
 exact ⟨List.forall_mem_cons.2 ⟨⟨⟨_,rfl,rfl⟩,by kernel_rfl⟩,List.forall_mem_nil _⟩,List.forall_mem_cons.2 ⟨⟨⟨_,rfl,rfl⟩,by kernel_rfl⟩,List.forall_mem_cons.2 ⟨⟨⟨_,rfl,rfl⟩,by kernel_rfl⟩,List.forall_mem_cons.2 ⟨⟨⟨_,rfl,rfl⟩,by kernel_rfl⟩,List.forall_mem_cons.2 ⟨⟨⟨_,rfl,rfl⟩,by kernel_rfl⟩,List.forall_mem_cons.2 ⟨⟨⟨_,rfl,rfl⟩,by kernel_rfl⟩,List.forall_mem_cons.2 ⟨⟨⟨_,rfl,rfl⟩,by kernel_rfl⟩,List.forall_mem_cons.2 ⟨⟨⟨_,rfl,rfl⟩,by kernel_rfl⟩,List.forall_mem_cons.2 ⟨⟨⟨_,rfl,rfl⟩,by kernel_rfl⟩,List.forall_mem_cons.2 ⟨⟨⟨_,rfl,rfl⟩,by kernel_rfl⟩,List.forall_mem_cons.2 ⟨⟨⟨_,rfl,rfl⟩,by kernel_rfl⟩,List.forall_mem_nil _⟩⟩⟩⟩⟩⟩⟩⟩⟩⟩,List.forall_mem_cons.2 ⟨⟨⟨_,rfl,rfl⟩,by kernel_rfl⟩,List.forall_mem_cons.2 ⟨⟨⟨_,rfl,rfl⟩,by kernel_rfl⟩,List.forall_mem_cons.2 ⟨⟨⟨_,rfl,rfl⟩,by kernel_rfl⟩,List.forall_mem_cons.2 ⟨⟨⟨_,rfl,rfl⟩,by kernel_rfl⟩,List.forall_mem_nil _⟩⟩⟩⟩,List.forall_mem_cons.2 ⟨⟨⟨_,rfl,rfl⟩,by kernel_rfl⟩,List.forall_mem_cons.2 ⟨⟨⟨_,rfl,rfl⟩,by kernel_rfl⟩,List.forall_mem_cons.2 ⟨⟨⟨_,rfl,rfl⟩,by kernel_rfl⟩,List.forall_mem_cons.2 ⟨⟨⟨_,rfl,rfl⟩,by kernel_rfl⟩,List.forall_mem_cons.2 ⟨trivial,List.forall_mem_cons.2 ⟨trivial,List.forall_mem_cons.2 ⟨⟨⟨_,rfl,rfl⟩,by kernel_rfl⟩,List.forall_mem_cons.2 ⟨⟨⟨_,rfl,rfl⟩,by kernel_rfl⟩,List.forall_mem_cons.2 ⟨⟨⟨_,rfl,rfl⟩,by kernel_rfl⟩,List.forall_mem_cons.2 ⟨⟨⟨_,rfl,rfl⟩,by kernel_rfl⟩,List.forall_mem_cons.2 ⟨⟨⟨_,rfl,rfl⟩,by kernel_rfl⟩,List.forall_mem_nil _⟩⟩⟩⟩⟩⟩⟩⟩⟩⟩⟩,List.forall_mem_cons.2 ⟨⟨⟨_,rfl,rfl⟩,by kernel_rfl⟩,List.forall_mem_cons.2 ⟨⟨⟨_,rfl,rfl⟩,by kernel_rfl⟩,List.forall_mem_cons.2 ⟨⟨⟨_,rfl,rfl⟩,by kernel_rfl⟩,List.forall_mem_cons.2 ⟨⟨⟨_,rfl,rfl⟩,by kernel_rfl⟩,List.forall_mem_cons.2 ⟨trivial,List.forall_mem_cons.2 ⟨trivial,List.forall_mem_cons.2 ⟨⟨⟨_,rfl,rfl⟩,by kernel_rfl⟩,List.forall_mem_cons.2 ⟨⟨⟨_,rfl,rfl⟩,by kernel_rfl⟩,List.forall_mem_cons.2 ⟨⟨⟨_,rfl,rfl⟩,by kernel_rfl⟩,List.forall_mem_cons.2 ⟨trivial,List.forall_mem_cons.2 ⟨⟨⟨_,rfl,rfl⟩,by kernel_rfl⟩,List.forall_mem_cons.2 ⟨⟨⟨_,rfl,rfl⟩,by kernel_rfl⟩,List.forall_mem_nil _⟩⟩⟩⟩⟩⟩⟩⟩⟩⟩⟩⟩,List.forall_mem_cons.2 ⟨⟨⟨_,rfl,rfl⟩,by kernel_rfl⟩,List.forall_mem_cons.2 ⟨⟨⟨_,rfl,rfl⟩,by kernel_rfl⟩,List.forall_mem_cons.2 ⟨trivial,List.forall_mem_cons.2 ⟨trivial,List.forall_mem_cons.2 ⟨⟨⟨_,rfl,rfl⟩,by kernel_rfl⟩,List.forall_mem_cons.2 ⟨⟨⟨_,rfl,rfl⟩,by kernel_rfl⟩,List.forall_mem_cons.2 ⟨trivial,List.forall_mem_cons.2 ⟨⟨⟨_,rfl,rfl⟩,by kernel_rfl⟩,List.forall_mem_cons.2 ⟨⟨⟨_,rfl,rfl⟩,by kernel_rfl⟩,List.forall_mem_cons.2 ⟨⟨⟨_,rfl,rfl⟩,by kernel_rfl⟩,List.forall_mem_cons.2 ⟨⟨⟨_,rfl,rfl⟩,by kernel_rfl⟩,List.forall_mem_cons.2 ⟨⟨⟨_,rfl,rfl⟩,by kernel_rfl⟩,List.forall_mem_cons.2 ⟨⟨⟨_,rfl,rfl⟩,by kernel_rfl⟩,List.forall_mem_cons.2 ⟨trivial,List.forall_mem_cons.2 ⟨⟨⟨_,rfl,rfl⟩,by kernel_rfl⟩,List.forall_mem_cons.2 ⟨⟨⟨_,rfl,rfl⟩,by kernel_rfl⟩,List.forall_mem_cons.2 ⟨⟨⟨_,rfl,rfl⟩,by kernel_rfl⟩,List.forall_mem_cons.2 ⟨⟨⟨_,rfl,rfl⟩,by kernel_rfl⟩,List.forall_mem_cons.2 ⟨⟨⟨_,rfl,rfl⟩,by kernel_rfl⟩,List.forall_mem_cons.2 ⟨⟨⟨_,rfl,rfl⟩,by kernel_rfl⟩,List.forall_mem_cons.2 ⟨⟨⟨_,rfl,rfl⟩,by kernel_rfl⟩,List.forall_mem_cons.2 ⟨⟨⟨_,rfl,rfl⟩,by kernel_rfl⟩,List.forall_mem_cons.2 ⟨⟨⟨_,rfl,rfl⟩,by kernel_rfl⟩,List.forall_mem_cons.2 ⟨⟨⟨_,rfl,rfl⟩,by kernel_rfl⟩,List.forall_mem_cons.2 ⟨trivial,List.forall_mem_cons.2 ⟨trivial,List.forall_mem_cons.2 ⟨trivial,List.forall_mem_cons.2 ⟨trivial,List.forall_mem_cons.2 ⟨trivial,List.forall_mem_cons.2 ⟨trivial,List.forall_mem_cons.2 ⟨⟨⟨_,rfl,rfl⟩,by kernel_rfl⟩,List.forall_mem_cons.2 ⟨⟨⟨_,rfl,rfl⟩,by kernel_rfl⟩,List.forall_mem_cons.2 ⟨trivial,List.forall_mem_cons.2 ⟨trivial,List.forall_mem_nil _⟩⟩⟩⟩⟩⟩⟩⟩⟩⟩⟩⟩⟩⟩⟩⟩⟩⟩⟩⟩⟩⟩⟩⟩⟩⟩⟩⟩⟩⟩⟩⟩⟩⟩,trivial⟩
theorem pPlays_ok:pPlays.Ok Try.prog FI FB:=
 Con.of_plain (body:=Try.f5.body.getD .skip) pok fiok (EntsFor.cons pWks_ok (EntsFor.consH cOwn_ok (EntsFor.cons cSmP_ok (EntsFor.consM cIs_ok (EntsFor.consM cIs0_ok (EntsFor.consM cAct_ok (EntsFor.consM cAct0_ok (EntsFor.consM cEach_ok EntsFor.nil)))))))) pPlays Try.func5 (by kernel_rfl) 2 [pPlays_T1,pPlays_T2,pPlays_T3,pPlays_T4,pPlays_T5] (by kernel_rfl) [pPlays_L0,pPlays_L1,pPlays_L2,pPlays_L3,pPlays_L4,pPlays_L5] ⟨pPlays_h0,pPlays_h1,pPlays_h2,pPlays_h3,pPlays_h4,pPlays_h5,trivial⟩ pPlays_c
  pPlays_inv pPlays_mu (fun _ _ _=>trivial) fun kv iv0 bv0 hin hF k l iv bv hk ha hi=>match k,hk,hi with
  | 0,hk,hi=>by
    cases hk
    exact pPlays_o0 kv iv0 bv0 hin hF iv bv ha hi
  | 1,hk,hi=>by
    cases hk
    exact pPlays_o1 kv iv0 bv0 hin hF iv bv ha hi
  | 2,hk,hi=>by
    cases hk
    exact pPlays_o2 kv iv0 bv0 hin hF iv bv ha hi
  | 3,hk,hi=>by
    cases hk
    exact pPlays_o3 kv iv0 bv0 hin hF iv bv ha hi
  | 4,hk,hi=>by
    cases hk
    exact pPlays_o4 kv iv0 bv0 hin hF iv bv ha hi
  | 5,hk,hi=>by
    cases hk
    exact pPlays_o5 kv iv0 bv0 hin hF iv bv ha hi
  | k+6,hk,_=>by simp at hk
end
end Go.Sx.Pk
