/- The pool: a call by both. -/
import Derived.Test.YtbcbpicfnfkdeaaPkB
import Derived.Test.YtbcbpicfnfkdeaaPkAa
namespace Go.Sx.Pk
set_option linter.unusedVariables false
set_option linter.unusedSimpArgs false
set_option maxRecDepth 100000
set_option maxHeartbeats 0
noncomputable section
open Go Go.Sx Go.Proofs
def outC (cs:List (SB×Bool)) (w c n:SI):Out:=⟨cs,.tp [.ag [.it .i64 (.v 4),.fs 2 w],.bo (.c true)],bkR c n,3,1,leR n⟩
def isW (k:Int) (b:Bool):SB×Bool:=(.eq (.v 6) (.c k),b)
def rgC:SB:=.and (.le (.c 0) (.v 7)) (.lt (.v 7) (.v 1))
def fC:List (SB×Bool):=[((.ap 27 (.v 0) (.v 1) (.v 5) (.c 0) (.c 0) (.c 0)),true),((.ap 28 (.v 0) (.v 1) (.v 3) (.c 0) (.c 0) (.c 0)),true),(lenB 0 1,true),(.eq (.v 1) (SI.fl (.v 5)),true),(.le (SI.fl (.v 5)) (.c 4096),true),(.eq (.v 4) (.v 3),true),(.le (.v 1) (.v 2),true),(.le (.v 1) (.c 4096),true)]
def aC:List SV:=[ppV,wP 4,.ag [.it .i64 (.v 6),.it .i64 (.v 7),.fs 2 (.v 8)]]
def bC:List (Nat×Int×Int):=i64b 6::i64b 7::i64b 4::bT
def cAct:Com:=⟨17,[0,1,2,3,4,5,6,7,8],aC,plO,2,bC,fC,[
 outC [isW 0 true] (.ap 25 (.v 4) (.v 5) (.v 8) (.c 0) (.c 0) (.c 0)) (.ap 9 (.v 0) (.v 1) (.v 8) (.c 0) (.ap 22 (.v 3) (.v 1) (.v 8) (.c 0) (.c 0) (.c 0)) (.c 0)) (.op .add (.v 1) (.ap 22 (.v 3) (.v 1) (.v 8) (.c 0) (.c 0) (.c 0))),
 outC [isW 1 true,(rgC,true)] (.ap 26 (.v 5) (.v 7) (.c 0) (.c 0) (.c 0) (.c 0)) (.ap 9 (.v 0) (.v 7) (.v 0) (.op .add (.v 7) (.c 1)) (.op .add (.v 1) (.op .add (.op .mul (.c (-1)) (.v 7)) (.c (-1)))) (.c 0)) (.op .add (.v 1) (.c (-1))),
 outC [isW 2 true,(rgC,true),(.lt (.v 1) (.c 4096),true)] (.ap 27 (.v 5) (.v 7) (.c 0) (.c 0) (.c 0) (.c 0)) (.ap 9 (.v 0) (.v 1) (.v 0) (.v 7) (.c 1) (.c 0)) (.op .add (.v 1) (.c 1)),
 outC [isW 0 false,(.and (.eq (.v 6) (.c 1)) rgC,false),(.and (.eq (.v 6) (.c 2)) (.and rgC (.lt (.v 1) (.c 4096))),false)] (.v 5) (.v 0) (.v 1)],.c 0,[29]⟩
def cAct_T1:Tm:=⟨⟨17,158,[(24,(.it .i64 (.v 36))),(23,(.it .i64 (.c 0))),(22,.sn),(117,(.pt (.n 0) (.c 0))),(6,(.pt (.n 4) (.c 0))),(5,(.pt (.n 3) (.c 0))),(4,(.pt (.n 2) (.c 0))),(0,(.pt (.n 0) (.c 0)))],[(.code (atC Try.f17 [1,0,1,0,1,1,1,1,1,1,1,1,1,0,1,1,0,1,0,0])),(.inLoop (atC Try.f17 [1,0,1,0,1,1,1,1,1,1,1,1,1,0,1,1,0,1,0,0])),(.inBlock 1),(.code (atC Try.f17 [1,0,1,0,1,1,1,1,1,1,1,1,1,0,1,1,1])),(.inBlock 0),(.code (atC Try.f17 [1,1]))],[],.none⟩,[],
    ⟨[(0,(.cells [(.sl (.n 1) (.c 0) (.v 1) (.v 2)),(.it .i64 (.v 3))] 59)),(1,(.arr [(.nt .i64),(.nt .i64),(.fs 0)] (.v 29) (.v 1) 29 (.v 2))),(2,(.cells [(.it .i64 (.v 4)),(.fs 2 (.v 5))] 41)),(3,(.cells [(.it .i64 (.v 6)),(.it .i64 (.v 7)),(.fs 2 (.v 8))] 48)),(4,(.cells [(.it .i64 (.c 0)),.sn] 41))],5,0,0,[((.eq (.ap 24 (.v 0) (.v 1) (.v 7) (.c 0) (.c 0) (.c 0)) (.c 0)),.true),((.eq (.v 6) (.c 4)),.true),((.eq (.v 6) (.c 3)),.false),((.eq (.v 6) (.c 2)),.false),((.eq (.v 6) (.c 1)),.false),((.eq (.v 6) (.c 0)),.false),((.ap 27 (.v 0) (.v 1) (.v 5) (.c 0) (.c 0) (.c 0)),.true),((.ap 28 (.v 0) (.v 1) (.v 3) (.c 0) (.c 0) (.c 0)),.true),((.ap 26 (.v 0) (.v 1) (.c 0) (.c 0) (.c 0) (.c 0)),.true),((.eq (.v 1) (.ap 200 (.v 5) (.c 0) (.c 0) (.c 0) (.c 0) (.c 0))),.true),((.le (.ap 200 (.v 5) (.c 0) (.c 0) (.c 0) (.c 0) (.c 0)) (.c 4096)),.true),((.eq (.v 4) (.v 3)),.true),((.le (.v 1) (.c 4096)),.true),((.le (.v 1) (.v 2)),.true)],[0],[(6,(4,4)),(1,(0,4096)),(2,(0,(-1))),(7,((-9223372036854775808),9223372036854775807)),(4,((-9223372036854775808),9223372036854775807)),(3,(1,64)),(36,(0,(-1)))]⟩,[36,29]⟩
def cAct_T2:Tm:=⟨⟨17,158,[(24,(.it .i64 (.v 45))),(23,(.it .i64 (.v 56))),(22,(.fs 1 (.v 39))),(117,(.pt (.n 0) (.c 0))),(6,(.pt (.n 4) (.c 0))),(5,(.pt (.n 3) (.c 0))),(4,(.pt (.n 2) (.c 0))),(0,(.pt (.n 0) (.c 0)))],[(.code (atC Try.f17 [1,0,1,0,1,1,1,1,1,1,1,1,1,0,1,1,0,1,0,0])),(.inLoop (atC Try.f17 [1,0,1,0,1,1,1,1,1,1,1,1,1,0,1,1,0,1,0,0])),(.inBlock 1),(.code (atC Try.f17 [1,0,1,0,1,1,1,1,1,1,1,1,1,0,1,1,1])),(.inBlock 0),(.code (atC Try.f17 [1,1]))],[],.none⟩,[],
    ⟨[(0,(.cells [(.sl (.n 1) (.c 0) (.v 1) (.v 2)),(.it .i64 (.v 3))] 59)),(1,(.arr [(.nt .i64),(.nt .i64),(.fs 0)] (.v 38) (.v 1) 29 (.v 2))),(2,(.cells [(.it .i64 (.v 4)),(.fs 2 (.v 5))] 41)),(3,(.cells [(.it .i64 (.v 6)),(.it .i64 (.v 7)),(.fs 2 (.v 8))] 48)),(4,(.cells [(.it .i64 (.c 0)),.sn] 41))],5,0,0,[((.eq (.ap 24 (.v 0) (.v 1) (.v 7) (.c 0) (.c 0) (.c 0)) (.c 0)),.false),((.eq (.v 6) (.c 4)),.true),((.eq (.v 6) (.c 3)),.false),((.eq (.v 6) (.c 2)),.false),((.eq (.v 6) (.c 1)),.false),((.eq (.v 6) (.c 0)),.false),((.ap 27 (.v 0) (.v 1) (.v 5) (.c 0) (.c 0) (.c 0)),.true),((.ap 28 (.v 0) (.v 1) (.v 3) (.c 0) (.c 0) (.c 0)),.true),((.ap 26 (.v 0) (.v 1) (.c 0) (.c 0) (.c 0) (.c 0)),.true),((.eq (.v 1) (.ap 200 (.v 5) (.c 0) (.c 0) (.c 0) (.c 0) (.c 0))),.true),((.le (.ap 200 (.v 5) (.c 0) (.c 0) (.c 0) (.c 0) (.c 0)) (.c 4096)),.true),((.eq (.v 4) (.v 3)),.true),((.le (.v 1) (.c 4096)),.true),((.le (.v 1) (.v 2)),.true)],[0],[(56,((-9223372036854775808),9223372036854775807)),(39,(0,(-1))),(6,(4,4)),(1,(0,4096)),(2,(0,(-1))),(7,((-9223372036854775808),9223372036854775807)),(4,((-9223372036854775808),9223372036854775807)),(3,(1,64)),(45,(0,(-1)))]⟩,[56,45,39,38]⟩
def cAct_L0:List Lf:=
 let x0_:SI:=(.op .add (.v 1) (.c 1))
 let p1_:SB×Bool:=((.le (.c 0) (.v 7)),.true)
 let p2_:SB×Bool:=((.le (.v 1) (.d 0)),.true)
 let p3_:SB×Bool:=((.le (.c 0) (.v 7)),.false)
 let x4_:SI:=(.ap 3 (.v 5) (.v 7) (.c 0) (.c 0) (.c 0) (.c 0))
 let x5_:SI:=(.ap 3 (.v 0) (.v 7) (.c 0) (.c 0) (.c 0) (.c 0))
 let x6_:SI:=(.ap 3 (.v 5) (.v 7) (.c 1) (.c 0) (.c 0) (.c 0))
 let x7_:SI:=(.ap 3 (.v 0) (.v 7) (.c 1) (.c 0) (.c 0) (.c 0))
 let x8_:SI:=(.ap 8 (.v 5) (.v 7) (.c 2) (.c 0) (.c 10) (.c 0))
 let x9_:SI:=(.ap 8 (.v 0) (.v 7) (.c 2) (.c 0) (.c 10) (.c 0))
 let x10_:SI:=(.ap 24 (.v 0) (.v 1) (.v 7) (.c 0) (.c 0) (.c 0))
 let x11_:SI:=(.ap 200 (.v 5) (.c 0) (.c 0) (.c 0) (.c 0) (.c 0))
 let p12_:SB×Bool:=((.lt (.v 7) x11_),.true)
 let p13_:SB×Bool:=((.lt (.v 7) x11_),.false)
 let x14_:SI:=(.ap 200 x9_ (.c 0) (.c 0) (.c 0) (.c 0) (.c 0))
 let x15_:SI:=(.ap 20 (.v 3) x5_ x7_ x14_ (.v 1) (.c 0))
 let f0_:List (SB×Bool):=[((.ap 27 (.v 0) (.v 1) (.v 5) (.c 0) (.c 0) (.c 0)),.true),((.ap 28 (.v 0) (.v 1) (.v 3) (.c 0) (.c 0) (.c 0)),.true),((.ap 26 (.v 0) (.v 1) (.c 0) (.c 0) (.c 0) (.c 0)),.true),((.eq (.v 1) x11_),.true),((.le x11_ (.c 4096)),.true),((.eq (.v 4) (.v 3)),.true),((.le (.v 1) (.v 2)),.true),((.le (.v 1) (.c 4096)),.true)]
 let f1_:List (SB×Bool):=((.eq (.v 6) (.c 0)),.false)::f0_
 let f2_:List (SB×Bool):=((.eq (.v 6) (.c 1)),.true)::f1_
 let f3_:List (SB×Bool):=((.eq (.v 6) (.c 1)),.false)::f1_
 let f4_:List (SB×Bool):=p1_::f2_
 let f5_:List (SB×Bool):=((.eq (.v 6) (.c 2)),.true)::f3_
 let f6_:List (SB×Bool):=((.eq (.v 6) (.c 2)),.false)::f3_
 let f7_:List (SB×Bool):=p1_::f5_
 let f8_:List (SB×Bool):=((.eq (.v 6) (.c 3)),.true)::f6_
 let f9_:List (SB×Bool):=((.eq (.v 6) (.c 3)),.false)::f6_
 let f10_:List (SB×Bool):=p12_::f7_
 let f11_:List (SB×Bool):=p1_::f8_
 let f12_:List (SB×Bool):=((.eq (.v 6) (.c 4)),.true)::f9_
 let f13_:List (SB×Bool):=((.lt x11_ (.c 4096)),.true)::f10_
 let f14_:List (SB×Bool):=((.lt x11_ (.c 4096)),.false)::f10_
 let f15_:List (SB×Bool):=p12_::f11_
 [(.fin (((.le (.op .add (.v 1) (.ap 22 (.v 3) (.v 1) (.v 8) (.c 0) (.c 0) (.c 0))) (.d 0)),.true)::((.eq (.v 6) (.c 0)),.true)::f0_) 0 ⟨⟨[],[]⟩,[(2,6),(0,0)],[(0,(.d 0))],[]⟩ [(.eb (.c .true) (.eq (.ap 21 (.v 3) (.v 1) (.v 8) (.c 0) (.c 0) (.c 0)) (.ap 21 (.v 4) x11_ (.v 8) (.c 0) (.c 0) (.c 0))))] [.none,.none]),
  (.fin (((.le (.op .add (.v 1) (.c (-1))) (.d 0)),.true)::p12_::f4_) 1 ⟨⟨[],[]⟩,[(2,7),(0,0)],[(0,(.d 0))],[]⟩ [(.eb (.c .true) (.and (.eq x4_ x5_) (.and (.eq x6_ x7_) (.ap 2 x8_ x9_ (.c 0) (.c 0) (.c 0) (.c 0)))))] [.none,.none]),
  (.fin (p13_::f4_) 3 ⟨⟨[],[]⟩,[(2,1),(0,0)],[(0,(.v 2))],[]⟩ [(.eb (.c .true) (.and (.eq (.c 0) (.c 0)) (.and (.eq (.c 0) (.c 0)) (.ap 2 (.c 0) (.c 0) (.c 0) (.c 0) (.c 0) (.c 0)))))] [.none,.none]),
  (.fin (p3_::f2_) 3 ⟨⟨[],[]⟩,[(2,1),(0,0)],[(0,(.v 2))],[]⟩ [(.eb (.c .true) (.and (.eq (.c 0) (.c 0)) (.and (.eq (.c 0) (.c 0)) (.ap 2 (.c 0) (.c 0) (.c 0) (.c 0) (.c 0) (.c 0)))))] [.none,.none]),
  (.fin (((.le x0_ (.d 0)),.true)::((.eq x15_ (.c 0)),.true)::f13_) 2 ⟨⟨[],[]⟩,[(2,6),(0,0)],[(0,(.d 0))],[]⟩ [] [.none,.none]),
  (.fin (p2_::((.eq x15_ (.c 0)),.false)::f13_) 2 ⟨⟨[],[]⟩,[(2,6),(0,0)],[(0,(.d 0))],[]⟩ [(.eb (.c .true) (.c .false)),(.ei (.op .add (.v 1) (.c 1)) (.v 1)),(.ar [(.nt .i64),(.nt .i64),(.fs 0)] (.ap 9 (.v 0) (.v 1) (.v 0) (.v 7) (.c 1) (.c 0)) (.v 0) (.op .add (.v 1) (.c 1))),(.fa (.le x0_ (.v 1)) .true),(.fa (.le x0_ (.d 0)) .true)] [.none,.none]),
  (.fin (((.le x0_ (.d 0)),.true)::((.eq x15_ (.c 0)),.true)::f14_) 3 ⟨⟨[],[]⟩,[(2,6),(0,0)],[(0,(.d 0))],[]⟩ [(.eb (.c .true) (.c .false)),(.ei (.v 1) (.op .add (.v 1) (.c 1))),(.ar [(.nt .i64),(.nt .i64),(.fs 0)] (.v 0) (.ap 9 (.v 0) (.v 1) (.v 0) (.v 7) (.c 1) (.c 0)) (.v 1)),(.fa (.le (.v 1) x0_) .true)] [.none,.none]),
  (.fin (p2_::((.eq x15_ (.c 0)),.false)::f14_) 3 ⟨⟨[],[]⟩,[(2,6),(0,0)],[(0,(.d 0))],[]⟩ [(.eb (.c .true) (.eq x15_ (.c 200)))] [.none,.none]),
  (.fin (p2_::p13_::f7_) 3 ⟨⟨[],[]⟩,[(2,6),(0,0)],[(0,(.d 0))],[]⟩ [] [.none,.none]),
  (.fin (p2_::p3_::f5_) 3 ⟨⟨[],[]⟩,[(2,6),(0,0)],[(0,(.d 0))],[]⟩ [] [.none,.none]),
  (.fin (((.le x14_ (.c 65536)),.true)::f15_) 3 ⟨⟨[],[]⟩,[(2,1),(0,0)],[(0,(.v 2))],[]⟩ [(.eb (.c .true) (.and (.eq x4_ x5_) (.and (.eq x6_ x7_) (.ap 2 x8_ x9_ (.c 0) (.c 0) (.c 0) (.c 0)))))] [.none,.none]),
  (.bad (((.le x14_ (.c 65536)),.false)::f15_)),
  (.fin (p13_::f11_) 3 ⟨⟨[],[]⟩,[(2,1),(0,0)],[(0,(.v 2))],[]⟩ [(.eb (.c .true) (.and (.eq (.c 0) (.c 0)) (.and (.eq (.c 0) (.c 0)) (.ap 2 (.c 0) (.c 0) (.c 0) (.c 0) (.c 0) (.c 0)))))] [.none,.none]),
  (.fin (p3_::f8_) 3 ⟨⟨[],[]⟩,[(2,1),(0,0)],[(0,(.v 2))],[]⟩ [(.eb (.c .true) (.and (.eq (.c 0) (.c 0)) (.and (.eq (.c 0) (.c 0)) (.ap 2 (.c 0) (.c 0) (.c 0) (.c 0) (.c 0) (.c 0)))))] [.none,.none]),
  (let i_:In:=⟨⟨[(29,(.v 0)),(36,(.c 0))],[]⟩,[(1,1),(2,2),(3,3),(4,4),(0,0)],[],[]⟩;.cut (((.eq x10_ (.c 0)),.true)::f12_) 1 i_ [] (shT cAct_T1 i_)),
  (let i_:In:=⟨⟨[(38,(.v 0)),(39,(.d 0)),(56,(.c 0)),(45,(.c 0))],[]⟩,[(1,1),(2,2),(3,3),(4,4),(0,0)],[],[]⟩;.cut (((.ap 25 (.d 0) (.v 0) (.v 1) (.v 7) (.c 0) (.c 0)),.true)::((.le (.c 0) (.d 0)),.true)::((.eq x10_ (.c 0)),.false)::f12_) 2 i_ [] (shT cAct_T2 i_)),
  (.fin (((.eq (.v 6) (.c 4)),.false)::f9_) 3 ⟨⟨[],[]⟩,[(2,1),(0,0)],[(0,(.v 2))],[]⟩ [] [.none,.none])]
def cAct_L1:List Lf:=
 let x0_:SI:=(.ap 3 (.v 5) (.v 36) (.c 1) (.c 0) (.c 0) (.c 0))
 let x1_:SI:=(.ap 200 (.v 5) (.c 0) (.c 0) (.c 0) (.c 0) (.c 0))
 let f0_:List (SB×Bool):=[((.eq (.ap 24 (.v 0) (.v 1) (.v 7) (.c 0) (.c 0) (.c 0)) (.c 0)),.true),((.eq (.v 6) (.c 4)),.true),((.eq (.v 6) (.c 3)),.false),((.eq (.v 6) (.c 2)),.false),((.eq (.v 6) (.c 1)),.false),((.eq (.v 6) (.c 0)),.false),((.ap 27 (.v 0) (.v 1) (.v 5) (.c 0) (.c 0) (.c 0)),.true),((.ap 28 (.v 0) (.v 1) (.v 3) (.c 0) (.c 0) (.c 0)),.true),((.ap 26 (.v 0) (.v 1) (.c 0) (.c 0) (.c 0) (.c 0)),.true),((.eq (.v 1) x1_),.true),((.le x1_ (.c 4096)),.true),((.eq (.v 4) (.v 3)),.true),((.le (.v 1) (.c 4096)),.true),((.le (.v 1) (.v 2)),.true)]
 let f1_:List (SB×Bool):=((.lt (.v 36) x1_),.true)::f0_
 [(.fin (((.eq x0_ (.v 7)),.true)::f1_) 3 ⟨⟨[],[]⟩,[(2,1),(0,0)],[(0,(.v 2))],[]⟩ [(.eb (.c .true) (.c .false)),(.ar [(.nt .i64),(.nt .i64),(.fs 0)] (.v 0) (.v 29) (.v 1))] [.none,.none]),
  (let i_:In:=⟨⟨[(29,(.v 29)),(36,(.wk .i64 (.op .add (.v 36) (.c 1))))],[]⟩,[(1,1),(2,2),(3,3),(4,4),(0,0)],[],[]⟩;.cut (((.eq x0_ (.v 7)),.false)::f1_) 1 i_ [(.rn (.wk .i64 (.op .add (.v 36) (.c 1))) 0 (-1))] (shT cAct_T1 i_)),
  (.fin (((.lt (.v 36) x1_),.false)::f0_) 3 ⟨⟨[],[]⟩,[(2,1),(0,0)],[(0,(.v 2))],[]⟩ [(.ar [(.nt .i64),(.nt .i64),(.fs 0)] (.v 0) (.v 29) (.v 1))] [.none,.none])]
def cAct_L2:List Lf:=
 let x0_:SI:=(.op .add (.v 45) (.c 1))
 let x1_:SI:=(.ap 3 (.v 5) (.v 45) (.c 1) (.c 0) (.c 0) (.c 0))
 let x2_:SI:=(.ap 200 (.v 5) (.c 0) (.c 0) (.c 0) (.c 0) (.c 0))
 let x3_:SI:=(.ap 3 (.v 39) (.v 56) (.c 0) (.c 0) (.c 0) (.c 0))
 let x4_:SI:=(.ap 200 (.v 39) (.c 0) (.c 0) (.c 0) (.c 0) (.c 0))
 let f0_:List (SB×Bool):=[((.eq (.ap 24 (.v 0) (.v 1) (.v 7) (.c 0) (.c 0) (.c 0)) (.c 0)),.false),((.eq (.v 6) (.c 4)),.true),((.eq (.v 6) (.c 3)),.false),((.eq (.v 6) (.c 2)),.false),((.eq (.v 6) (.c 1)),.false),((.eq (.v 6) (.c 0)),.false),((.ap 27 (.v 0) (.v 1) (.v 5) (.c 0) (.c 0) (.c 0)),.true),((.ap 28 (.v 0) (.v 1) (.v 3) (.c 0) (.c 0) (.c 0)),.true),((.ap 26 (.v 0) (.v 1) (.c 0) (.c 0) (.c 0) (.c 0)),.true),((.eq (.v 1) x2_),.true),((.le x2_ (.c 4096)),.true),((.eq (.v 4) (.v 3)),.true),((.le (.v 1) (.c 4096)),.true),((.le (.v 1) (.v 2)),.true)]
 let f1_:List (SB×Bool):=((.lt (.v 45) x2_),.true)::f0_
 let f2_:List (SB×Bool):=((.eq x1_ (.v 7)),.true)::f1_
 let f3_:List (SB×Bool):=((.le x4_ (.v 56)),.false)::f2_
 let f4_:List (SB×Bool):=((.le (.c 0) (.v 56)),.true)::f3_
 [(.fin (((.le x4_ (.v 56)),.true)::f2_) 3 ⟨⟨[],[]⟩,[(2,1),(0,0)],[(0,(.v 2))],[]⟩ [(.eb (.c .true) (.c .false)),(.ar [(.nt .i64),(.nt .i64),(.fs 0)] (.v 0) (.v 38) (.v 1))] [.none,.none]),
  (let i_:In:=⟨⟨[(38,(.v 38)),(39,(.v 39)),(56,(.wk .i64 (.op .add (.v 56) (.c 1)))),(45,(.wk .i64 x0_))],[]⟩,[(1,1),(2,2),(3,3),(4,4),(0,0)],[],[]⟩;.cut (((.eq x3_ (.v 45)),.true)::f4_) 2 i_ [(.rn (.wk .i64 x0_) 0 (-1))] (shT cAct_T2 i_)),
  (.fin (((.eq x3_ (.v 45)),.false)::f4_) 3 ⟨⟨[],[]⟩,[(2,1),(0,0)],[(0,(.v 2))],[]⟩ [(.eb (.c .true) (.c .false)),(.ar [(.nt .i64),(.nt .i64),(.fs 0)] (.v 0) (.v 38) (.v 1))] [.none,.none]),
  (.bad (((.le (.c 0) (.v 56)),.false)::f3_)),
  (let i_:In:=⟨⟨[(38,(.v 38)),(39,(.v 39)),(56,(.v 56)),(45,(.wk .i64 x0_))],[]⟩,[(1,1),(2,2),(3,3),(4,4),(0,0)],[],[]⟩;.cut (((.eq x1_ (.v 7)),.false)::f1_) 2 i_ [(.rn (.wk .i64 x0_) 0 (-1))] (shT cAct_T2 i_)),
  (.fin (((.lt (.v 45) x2_),.false)::f0_) 3 ⟨⟨[],[]⟩,[(2,1),(0,0)],[(0,(.v 2))],[]⟩ [(.eb (.c .true) (.eq (.v 56) x4_)),(.ar [(.nt .i64),(.nt .i64),(.fs 0)] (.v 0) (.v 38) (.v 1))] [.none,.none])]
def cAct_run (T:Tm):=(ex (ccM Try.prog BF [] cAct.ow) ((fun cc=>[cOwn.entH cc,cSmP.ent cc,cTake.ent cc,cTo.ent cc,cPut.ent cc,cDbl.ent cc,cRPut.entH cc,cRTake.entH cc,cRDbl.entH cc]) (ccM Try.prog BF [] cAct.ow)) (dw (ccM Try.prog BF [] cAct.ow) ((fun cc=>[cOwn.entH cc,cSmP.ent cc,cTake.ent cc,cTo.ent cc,cPut.ent cc,cDbl.ent cc,cRPut.entH cc,cRTake.entH cc,cRDbl.entH cc]) (ccM Try.prog BF [] cAct.ow)) 100 4) (stopX [0,1,2,3,4,5,6,7,8,9,10,11,12,13,14,15,16,18,19,20,21,22,23,24,25,26,27,28,29,30,31,32,33,34,35,36,37,38,39,40,41,42,43,44,45,46,47,48,49,50,51,52,53,54,55,56,57,58,59,60,61,62,63,64,65,66,67,68,69,70,71,72,73,74,75,76,77,78,79,80,81,82,83,84,85,86,87,88,89,90,91,92,93,94,95,96,97,98,99,100,101,102,103,104,105,106,107,108,109,110,111,112,113,114,115,116,117,118,119,120,121,122,123,124,125,126,127,128,129,130,131,132,133,134,135,136,137,138,139,140,141,142,143,144,145,146,147,148,149,150,151,152,153,154,155,156,157,158,159,160,161,162,163,164,165,166,167,168,169,170,171,172,173,174,175,176,177,178,179,180,181,182,183,184,185,186,187,188,189,190,191,192,193,194,195,196,197,198,199,200,201,202,203,204,205,206,207,208,209,210,211,212,213,214,215,216,217,218,219,220,221,222,223,224,225,226,227,228,229,230,231,232,233,234,235,236,237,238,239,240,241,242,243,244,245,246,247,248,249]) 200000 T.f T.fs T.H).lfsM 2 (ccM Try.prog BF [] cAct.ow) ((tmM cAct Try.f17 (Try.f17.body.getD .skip))::[cAct_T1,cAct_T2]) cAct.os
theorem cAct_h0:cAct_run (tmM cAct Try.f17 (Try.f17.body.getD .skip))=some cAct_L0:=by kernel_rfl
theorem cAct_h1:cAct_run cAct_T1=some cAct_L1:=by kernel_rfl
theorem cAct_h2:cAct_run cAct_T2=some cAct_L2:=by kernel_rfl
def cAct_inv:(Nat→Int)→(Nat→Bool)→Nat→(Nat→Int)→(Nat→Bool)→Prop:=fun iv0 _ k iv _=>match k with | 0=>True | 1=>0≤iv 36∧iv 36≤iv0 1∧eqN (iv 29) (iv0 0) (iv0 1) | _=>0≤iv 45∧iv 45≤iv0 1∧eqN (iv 38) (iv0 0) (iv0 1)∧toR (iv 39) (iv0 0) (iv0 1) (iv0 7)∧iv 56=cntT (iv0 0) (iv 45) (iv0 7)
def cAct_mu:(Nat→Int)→(Nat→Bool)→Nat→(Nat→Int)→(Nat→Bool)→Nat:=fun iv0 _ k iv _=>match k with | 0=>2 ^ 90 | 1=>(6000 - iv 36).toNat | _=>(6000 - iv 45).toNat
theorem cAct_b {iv0:Nat→Int} (hin:InB cAct.B iv0):0≤iv0 1∧0≤iv0 2∧(1≤iv0 3∧iv0 3≤64)∧((-9223372036854775808)≤iv0 4∧iv0 4≤9223372036854775807)∧((-9223372036854775808)≤iv0 6∧iv0 6≤9223372036854775807)∧((-9223372036854775808)≤iv0 7∧iv0 7≤9223372036854775807):=by
 have b1:=hin 1 0 (-1) (by simp [cAct,o1,i64b,kP,pkV,flF,i64s,lmap,SI.fl,flay,flayL,wP,pk0,pkAt,mayO,i64b,lO,hO,lenB,fO,bO,plO,plN,ppV,bP,plA,arP,fT,bT,rgT,n1T,toF,plR,arR,bkR,leR,outR,fcR,outC,isW,rgC,fC,aC,bC])
 simp only [Int.reduceLE,reduceIte,Int.reduceNeg] at b1
 have b2:=hin 2 0 (-1) (by simp [cAct,o1,i64b,kP,pkV,flF,i64s,lmap,SI.fl,flay,flayL,wP,pk0,pkAt,mayO,i64b,lO,hO,lenB,fO,bO,plO,plN,ppV,bP,plA,arP,fT,bT,rgT,n1T,toF,plR,arR,bkR,leR,outR,fcR,outC,isW,rgC,fC,aC,bC])
 simp only [Int.reduceLE,reduceIte,Int.reduceNeg] at b2
 have b3:=hin 3 1 64 (by simp [cAct,o1,i64b,kP,pkV,flF,i64s,lmap,SI.fl,flay,flayL,wP,pk0,pkAt,mayO,i64b,lO,hO,lenB,fO,bO,plO,plN,ppV,bP,plA,arP,fT,bT,rgT,n1T,toF,plR,arR,bkR,leR,outR,fcR,outC,isW,rgC,fC,aC,bC])
 simp only [Int.reduceLE,reduceIte,Int.reduceNeg] at b3
 have b4:=hin 4 (-9223372036854775808) 9223372036854775807 (by simp [cAct,o1,i64b,kP,pkV,flF,i64s,lmap,SI.fl,flay,flayL,wP,pk0,pkAt,mayO,i64b,lO,hO,lenB,fO,bO,plO,plN,ppV,bP,plA,arP,fT,bT,rgT,n1T,toF,plR,arR,bkR,leR,outR,fcR,outC,isW,rgC,fC,aC,bC])
 simp only [Int.reduceLE,reduceIte,Int.reduceNeg] at b4
 have b6:=hin 6 (-9223372036854775808) 9223372036854775807 (by simp [cAct,o1,i64b,kP,pkV,flF,i64s,lmap,SI.fl,flay,flayL,wP,pk0,pkAt,mayO,i64b,lO,hO,lenB,fO,bO,plO,plN,ppV,bP,plA,arP,fT,bT,rgT,n1T,toF,plR,arR,bkR,leR,outR,fcR,outC,isW,rgC,fC,aC,bC])
 simp only [Int.reduceLE,reduceIte,Int.reduceNeg] at b6
 have b7:=hin 7 (-9223372036854775808) 9223372036854775807 (by simp [cAct,o1,i64b,kP,pkV,flF,i64s,lmap,SI.fl,flay,flayL,wP,pk0,pkAt,mayO,i64b,lO,hO,lenB,fO,bO,plO,plN,ppV,bP,plA,arP,fT,bT,rgT,n1T,toF,plR,arR,bkR,leR,outR,fcR,outC,isW,rgC,fC,aC,bC])
 simp only [Int.reduceLE,reduceIte,Int.reduceNeg] at b7
 exact ⟨b1.1,b2.1,b3,b4,b6,b7⟩
def cAct_ob (k:Nat) (l:List Lf):Prop:=∀ (kv:Kv) (iv0:Nat→Int) (bv0:Nat→Bool),InB cAct.B iv0→FT (sta FI FB kv iv0 bv0) (dlt dyn0) cAct.F→∀ (iv:Nat→Int) (bv:Nat→Bool),Agr 9 iv0 bv0 iv bv→cAct_inv iv0 bv0 k iv bv→∀ lf∈l,LfT (sta FI FB kv) cAct.os (cAct_inv iv0 bv0) (cAct_mu iv0 bv0) k iv bv lf
theorem cAct_o0:cAct_ob 0 cAct_L0:=by
 intro kv iv0 bv0 hin hF iv bv ha hi
 unfold cAct_L0
 refine List.forall_mem_cons.2 ⟨?_,List.forall_mem_cons.2 ⟨?_,List.forall_mem_cons.2 ⟨?_,List.forall_mem_cons.2 ⟨?_,List.forall_mem_cons.2 ⟨?_,List.forall_mem_cons.2 ⟨?_,List.forall_mem_cons.2 ⟨?_,List.forall_mem_cons.2 ⟨?_,List.forall_mem_cons.2 ⟨?_,List.forall_mem_cons.2 ⟨?_,List.forall_mem_cons.2 ⟨?_,List.forall_mem_cons.2 ⟨?_,List.forall_mem_cons.2 ⟨?_,List.forall_mem_cons.2 ⟨?_,List.forall_mem_cons.2 ⟨?_,List.forall_mem_cons.2 ⟨?_,List.forall_mem_cons.2 ⟨?_,List.forall_mem_nil _⟩⟩⟩⟩⟩⟩⟩⟩⟩⟩⟩⟩⟩⟩⟩⟩⟩
 all_goals
  intro δ hf
 all_goals
  obtain ⟨b1,b2,b3,b4,b6,b7⟩:=cAct_b hin
 all_goals
  have a0:=ha.1 0 (by omega)
  have a1:=ha.1 1 (by omega)
  have a2:=ha.1 2 (by omega)
  have a3:=ha.1 3 (by omega)
  have a4:=ha.1 4 (by omega)
  have a5:=ha.1 5 (by omega)
  have a6:=ha.1 6 (by omega)
  have a7:=ha.1 7 (by omega)
  have a8:=ha.1 8 (by omega)
 all_goals
  simp only [FT,TP,SB.tp,SI.tv,sta,IB.eval,and_true,true_and,ObsT,Ob.Tv,rowT,kix,In.tiv,↓tbvT,In.tbv,get_cons,get_nil,reduceIte,Nat.reduceEqDiff,Int.reduceToNat,Int.reduceAdd,Int.reduceSub,Int.reduceLE,Int.reduceLT,Int.reduceEq,ne_eq,Bool.false_eq_true,not_true_eq_false,not_false_eq_true,true_iff,false_iff,iff_true,iff_false,false_implies,implies_true,decT,decide_true,decide_false,Bool.decide_eq_true,ap2,pb2,FI_3,FI_4,FI_8,FI_9,FI_8c,FI_8z,FI_200,FB_2,Int.toNat_natCast,Int.toNat_zero,FI_20,FI_21,FI_22,FI_24,FI_25,FI_26,FI_27,FB_24,FB_25,FB_26,FB_27,FB_28,cAct_inv,cAct_mu,cAct,o1,othT,o1,i64b,kP,pkV,flF,i64s,lmap,SI.fl,flay,flayL,wP,pk0,pkAt,mayO,i64b,lO,hO,lenB,fO,bO,plO,plN,ppV,bP,plA,arP,fT,bT,rgT,n1T,toF,plR,arR,bkR,leR,outR,fcR,outC,isW,rgC,fC,aC,bC,a0,a1,a2,a3,a4,a5,a6,a7,a8] at hf hi ⊢
 all_goals
  have ln:lenOk (iv0 0) (iv0 1)→∀ j:Int,0≤j→j < iv0 1→flenC (gt (iv0 0) j.toNat 2)≤65536:=fun h j h0 h1=>h j.toNat (by omega)
 all_goals
  have l0:=fun h h0=>ln h (iv0 7) h0
 all_goals
  have ra:=@rel_at (iv0 0) (iv0 1) (iv0 5) (iv0 7)
 all_goals
  have ma:=@rows_at (iv0 0) (iv0 1) (iv0 3) (iv0 7)
 all_goals
  have q0:=eqN_refl (iv0 0) (iv0 1)
 all_goals
  have z1:=cntT_zero (iv0 0) (iv0 7)
 all_goals
  have z0:=flenC_zero
 all_goals
  (repeat' (with_reducible apply And.intro))<;>first
  | omega
  | assumption
  | (unfold inM;omega)
  | exact trivial
  | (exact eqN_refl _ _)
  | (clear hin hF ha;grind)
theorem cAct_o1:cAct_ob 1 cAct_L1:=by
 intro kv iv0 bv0 hin hF iv bv ha hi
 unfold cAct_L1
 refine List.forall_mem_cons.2 ⟨?_,List.forall_mem_cons.2 ⟨?_,List.forall_mem_cons.2 ⟨?_,List.forall_mem_nil _⟩⟩⟩
 all_goals
  intro δ hf
 all_goals
  obtain ⟨b1,b2,b3,b4,b6,b7⟩:=cAct_b hin
 all_goals
  have a0:=ha.1 0 (by omega)
  have a1:=ha.1 1 (by omega)
  have a2:=ha.1 2 (by omega)
  have a3:=ha.1 3 (by omega)
  have a4:=ha.1 4 (by omega)
  have a5:=ha.1 5 (by omega)
  have a6:=ha.1 6 (by omega)
  have a7:=ha.1 7 (by omega)
  have a8:=ha.1 8 (by omega)
 all_goals
  simp only [FT,TP,SB.tp,SI.tv,sta,IB.eval,and_true,true_and,ObsT,Ob.Tv,rowT,kix,In.tiv,↓tbvT,In.tbv,get_cons,get_nil,reduceIte,Nat.reduceEqDiff,Int.reduceToNat,Int.reduceAdd,Int.reduceSub,Int.reduceLE,Int.reduceLT,Int.reduceEq,ne_eq,Bool.false_eq_true,not_true_eq_false,not_false_eq_true,true_iff,false_iff,iff_true,iff_false,false_implies,implies_true,decT,decide_true,decide_false,Bool.decide_eq_true,ap2,pb2,FI_3,FI_4,FI_8,FI_9,FI_8c,FI_8z,FI_200,FB_2,Int.toNat_natCast,Int.toNat_zero,FI_20,FI_21,FI_22,FI_24,FI_25,FI_26,FI_27,FB_24,FB_25,FB_26,FB_27,FB_28,cAct_inv,cAct_mu,cAct,o1,othT,o1,i64b,kP,pkV,flF,i64s,lmap,SI.fl,flay,flayL,wP,pk0,pkAt,mayO,i64b,lO,hO,lenB,fO,bO,plO,plN,ppV,bP,plA,arP,fT,bT,rgT,n1T,toF,plR,arR,bkR,leR,outR,fcR,outC,isW,rgC,fC,aC,bC,a0,a1,a2,a3,a4,a5,a6,a7,a8] at hf hi ⊢
 all_goals
  obtain ⟨g0,g1,g2⟩:=hi
 all_goals
  unfold eqN Rw at g2
 all_goals
  have ri:=fun h=>@rel_at (iv0 0) (iv0 1) (iv0 5) (iv 36) h g0
 all_goals
  have w1:(iv 36) < (iv0 1)→(iv0 1)≤4096→IntKind.i64.wrap ((iv 36)+1)=(iv 36)+1:=fun _ _=>by rw [wrap_i64];omega
 all_goals
  have cn:=fun h=>@cnt_none (iv0 0) (iv0 1) (iv0 7) (iv 36) h g0
 all_goals
  (repeat' (with_reducible apply And.intro))<;>first
  | omega
  | assumption
  | (unfold inM;omega)
  | exact trivial
  | (unfold eqN Rw;exact g2)
  | (intro j hj;exact ⟨(g2 j hj).1.symm,(g2 j hj).2.1.symm,(g2 j hj).2.2.symm⟩)
  | (clear hin hF ha;grind)
theorem cAct_o2:cAct_ob 2 cAct_L2:=by
 intro kv iv0 bv0 hin hF iv bv ha hi
 unfold cAct_L2
 refine List.forall_mem_cons.2 ⟨?_,List.forall_mem_cons.2 ⟨?_,List.forall_mem_cons.2 ⟨?_,List.forall_mem_cons.2 ⟨?_,List.forall_mem_cons.2 ⟨?_,List.forall_mem_cons.2 ⟨?_,List.forall_mem_nil _⟩⟩⟩⟩⟩⟩
 all_goals
  intro δ hf
 all_goals
  obtain ⟨b1,b2,b3,b4,b6,b7⟩:=cAct_b hin
 all_goals
  have a0:=ha.1 0 (by omega)
  have a1:=ha.1 1 (by omega)
  have a2:=ha.1 2 (by omega)
  have a3:=ha.1 3 (by omega)
  have a4:=ha.1 4 (by omega)
  have a5:=ha.1 5 (by omega)
  have a6:=ha.1 6 (by omega)
  have a7:=ha.1 7 (by omega)
  have a8:=ha.1 8 (by omega)
 all_goals
  simp only [FT,TP,SB.tp,SI.tv,sta,IB.eval,and_true,true_and,ObsT,Ob.Tv,rowT,kix,In.tiv,↓tbvT,In.tbv,get_cons,get_nil,reduceIte,Nat.reduceEqDiff,Int.reduceToNat,Int.reduceAdd,Int.reduceSub,Int.reduceLE,Int.reduceLT,Int.reduceEq,ne_eq,Bool.false_eq_true,not_true_eq_false,not_false_eq_true,true_iff,false_iff,iff_true,iff_false,false_implies,implies_true,decT,decide_true,decide_false,Bool.decide_eq_true,ap2,pb2,FI_3,FI_4,FI_8,FI_9,FI_8c,FI_8z,FI_200,FB_2,Int.toNat_natCast,Int.toNat_zero,FI_20,FI_21,FI_22,FI_24,FI_25,FI_26,FI_27,FB_24,FB_25,FB_26,FB_27,FB_28,cAct_inv,cAct_mu,cAct,o1,othT,o1,i64b,kP,pkV,flF,i64s,lmap,SI.fl,flay,flayL,wP,pk0,pkAt,mayO,i64b,lO,hO,lenB,fO,bO,plO,plN,ppV,bP,plA,arP,fT,bT,rgT,n1T,toF,plR,arR,bkR,leR,outR,fcR,outC,isW,rgC,fC,aC,bC,a0,a1,a2,a3,a4,a5,a6,a7,a8] at hf hi ⊢
 all_goals
  obtain ⟨g0,g1,g2,g3,g4⟩:=hi
 all_goals
  unfold eqN Rw at g2
 all_goals
  have ri:=fun h=>@rel_at (iv0 0) (iv0 1) (iv0 5) (iv 45) h g0
 all_goals
  have w1:(iv 45) < (iv0 1)→(iv0 1)≤4096→IntKind.i64.wrap ((iv 45)+1)=(iv 45)+1:=fun _ _=>by rw [wrap_i64];omega
 all_goals
  have ta:=@to_at (iv 39) (iv0 0) (iv0 1) (iv0 7) (iv 45) g3 g0
 all_goals
  have tl:=g3.1
 all_goals
  have cp:=cntT_in (iv0 0) (iv 45) (iv0 7)
 all_goals
  have cl:=cntT_le (iv0 0) (iv 45) (iv0 7) g0
 all_goals
  have w56:iv 45 < iv0 1→iv0 1≤4096→IntKind.i64.wrap (iv 56+1)=iv 56+1:=fun _ _=>by rw [wrap_i64];omega
 all_goals
  (repeat' (with_reducible apply And.intro))<;>first
  | omega
  | assumption
  | (unfold inM;omega)
  | exact trivial
  | (unfold eqN Rw;exact g2)
  | (intro j hj;exact ⟨(g2 j hj).1.symm,(g2 j hj).2.1.symm,(g2 j hj).2.2.symm⟩)
  | (clear hin hF ha;grind)
theorem cAct_c:LsCM 2 ((tmM cAct Try.f17 (Try.f17.body.getD .skip))::[cAct_T1,cAct_T2]) cAct.os [cAct_L0,cAct_L1,cAct_L2]:=by
 unfold cAct_L0 cAct_L1 cAct_L2
 exact ⟨List.forall_mem_cons.2 ⟨⟨⟨⟨_,rfl,rfl⟩,by kernel_rfl⟩,by kernel_rfl⟩,List.forall_mem_cons.2 ⟨⟨⟨⟨_,rfl,rfl⟩,by kernel_rfl⟩,by kernel_rfl⟩,List.forall_mem_cons.2 ⟨⟨⟨⟨_,rfl,rfl⟩,by kernel_rfl⟩,by kernel_rfl⟩,List.forall_mem_cons.2 ⟨⟨⟨⟨_,rfl,rfl⟩,by kernel_rfl⟩,by kernel_rfl⟩,List.forall_mem_cons.2 ⟨⟨⟨⟨_,rfl,rfl⟩,by kernel_rfl⟩,by kernel_rfl⟩,List.forall_mem_cons.2 ⟨⟨⟨⟨_,rfl,rfl⟩,by kernel_rfl⟩,by kernel_rfl⟩,List.forall_mem_cons.2 ⟨⟨⟨⟨_,rfl,rfl⟩,by kernel_rfl⟩,by kernel_rfl⟩,List.forall_mem_cons.2 ⟨⟨⟨⟨_,rfl,rfl⟩,by kernel_rfl⟩,by kernel_rfl⟩,List.forall_mem_cons.2 ⟨⟨⟨⟨_,rfl,rfl⟩,by kernel_rfl⟩,by kernel_rfl⟩,List.forall_mem_cons.2 ⟨⟨⟨⟨_,rfl,rfl⟩,by kernel_rfl⟩,by kernel_rfl⟩,List.forall_mem_cons.2 ⟨⟨⟨⟨_,rfl,rfl⟩,by kernel_rfl⟩,by kernel_rfl⟩,List.forall_mem_cons.2 ⟨⟨trivial,rfl⟩,List.forall_mem_cons.2 ⟨⟨⟨⟨_,rfl,rfl⟩,by kernel_rfl⟩,by kernel_rfl⟩,List.forall_mem_cons.2 ⟨⟨⟨⟨_,rfl,rfl⟩,by kernel_rfl⟩,by kernel_rfl⟩,List.forall_mem_cons.2 ⟨⟨⟨⟨_,rfl,rfl⟩,by kernel_rfl⟩,by kernel_rfl⟩,List.forall_mem_cons.2 ⟨⟨⟨⟨_,rfl,rfl⟩,by kernel_rfl⟩,by kernel_rfl⟩,List.forall_mem_cons.2 ⟨⟨⟨⟨_,rfl,rfl⟩,by kernel_rfl⟩,by kernel_rfl⟩,List.forall_mem_nil _⟩⟩⟩⟩⟩⟩⟩⟩⟩⟩⟩⟩⟩⟩⟩⟩⟩,List.forall_mem_cons.2 ⟨⟨⟨⟨_,rfl,rfl⟩,by kernel_rfl⟩,by kernel_rfl⟩,List.forall_mem_cons.2 ⟨⟨⟨⟨_,rfl,rfl⟩,by kernel_rfl⟩,by kernel_rfl⟩,List.forall_mem_cons.2 ⟨⟨⟨⟨_,rfl,rfl⟩,by kernel_rfl⟩,by kernel_rfl⟩,List.forall_mem_nil _⟩⟩⟩,List.forall_mem_cons.2 ⟨⟨⟨⟨_,rfl,rfl⟩,by kernel_rfl⟩,by kernel_rfl⟩,List.forall_mem_cons.2 ⟨⟨⟨⟨_,rfl,rfl⟩,by kernel_rfl⟩,by kernel_rfl⟩,List.forall_mem_cons.2 ⟨⟨⟨⟨_,rfl,rfl⟩,by kernel_rfl⟩,by kernel_rfl⟩,List.forall_mem_cons.2 ⟨⟨trivial,rfl⟩,List.forall_mem_cons.2 ⟨⟨⟨⟨_,rfl,rfl⟩,by kernel_rfl⟩,by kernel_rfl⟩,List.forall_mem_cons.2 ⟨⟨⟨⟨_,rfl,rfl⟩,by kernel_rfl⟩,by kernel_rfl⟩,List.forall_mem_nil _⟩⟩⟩⟩⟩⟩,trivial⟩
theorem cAct_ok:cAct.Ok Try.prog FI FB:=
 Com.of_plain (body:=Try.f17.body.getD .skip) pok fiok (EntsFor.consH cOwn_ok (EntsFor.cons cSmP_ok (EntsFor.consM cTake_ok (EntsFor.consM cTo_ok (EntsFor.consM cPut_ok (EntsFor.consM cDbl_ok (EntsFor.consH cRPut_ok (EntsFor.consH cRTake_ok (EntsFor.consH cRDbl_ok EntsFor.nil))))))))) cAct Try.func17 (by kernel_rfl) 9 [cAct_T1,cAct_T2] (by kernel_rfl) [cAct_L0,cAct_L1,cAct_L2] ⟨cAct_h0,cAct_h1,cAct_h2,trivial⟩ cAct_c
  cAct_inv cAct_mu (fun _ _ _=>trivial) fun kv iv0 bv0 hin hF k l iv bv hk ha hi=>match k,hk,hi with
  | 0,hk,hi=>by
    cases hk
    exact cAct_o0 kv iv0 bv0 hin hF iv bv ha hi
  | 1,hk,hi=>by
    cases hk
    exact cAct_o1 kv iv0 bv0 hin hF iv bv ha hi
  | 2,hk,hi=>by
    cases hk
    exact cAct_o2 kv iv0 bv0 hin hF iv bv ha hi
  | k+3,hk,_=>by simp at hk
end
end Go.Sx.Pk
