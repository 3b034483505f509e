/- Tokens: the document's Right, by contract. -/
import Derived.Test.YtfailpbjhlhhiaaGreatTkF
namespace Go.Sx.Tk
set_option linter.unusedVariables false
set_option linter.unusedSimpArgs false
set_option maxRecDepth 100000
set_option maxHeartbeats 0
noncomputable section
open Go Go.Sx Go.Proofs
def rRt:Con:=⟨22,[0,1,2,3,4,5,6,7,8,9],[.ag [.it .i64 (.v 7),.it .i64 (.v 8),.it .i64 (.v 9)],.ag [.it .i64 (.v 0),.fs 1 (.v 1),.fs 3 (.v 2),.fs 4 (.v 3),.it .i64 (.v 4),.it .i64 (.v 5),.it .u64 (.v 6)]],[],i64b 0::i64b 4::i64b 5::u64b 6::i64b 7::i64b 8::i64b 9::[],flF 1 300::flF 2 300::flF 3 300::[],o1 (.bo (.eq (.ap 64 (.ap 65 (.ap 63 (.c 1) (.v 7) (.v 8) (.v 9) (.v 1) (.v 0)) (.v 4) (.v 5) (.v 6) (.c 0) (.c 0)) (.v 1) (.v 2) (.v 3) (.c 0) (.c 0)) (.c 1))),[]⟩
def rRt_T1:Tm:=⟨⟨22,146,[(5,(.it .i64 (.v 30))),(3,(.pt (.n 1) (.c 0)))],[(.code (atC Tryz.f22 [1,1,0,1,0,0])),(.inLoop (atC Tryz.f22 [1,1,0,1,0,0])),(.inBlock 0),(.code (atC Tryz.f22 [1,1,1]))],[],.none⟩,[],
    ⟨[(1,(.cells [(.it .i64 (.v 0)),(.fs 1 (.v 1)),(.fs 3 (.v 2)),(.fs 4 (.v 3)),(.it .i64 (.v 4)),(.it .i64 (.v 5)),(.it .u64 (.v 6))] 31))],2,0,0,[((.le (.v 6) (.c 4611686018427387904)),.true),((.le (.v 5) (.v 4)),.true),((.ap 20 (.v 3) (.ap 200 (.v 3) (.c 0) (.c 0) (.c 0) (.c 0) (.c 0)) (.c 0) (.c 0) (.c 0) (.c 0)),.true),((.lt (.c 256) (.ap 200 (.v 3) (.c 0) (.c 0) (.c 0) (.c 0) (.c 0))),.false),((.ap 30 (.v 2) (.ap 200 (.v 2) (.c 0) (.c 0) (.c 0) (.c 0) (.c 0)) (.c 0) (.c 0) (.c 0) (.c 0)),.true),((.eq (.ap 200 (.v 1) (.c 0) (.c 0) (.c 0) (.c 0) (.c 0)) (.op .mul (.v 7) (.v 9))),.true),((.lt (.c 1099511627776) (.v 0)),.false),((.lt (.v 0) (.c 0)),.false),((.le (.v 9) (.c 4)),.true),((.le (.c 1) (.v 9)),.true),((.le (.v 8) (.c 8)),.true),((.le (.c 1) (.v 8)),.true),((.le (.v 7) (.c 64)),.true),((.le (.c 1) (.v 7)),.true),((.le (.ap 200 (.v 1) (.c 0) (.c 0) (.c 0) (.c 0) (.c 0)) (.c 300)),.true),((.le (.ap 200 (.v 2) (.c 0) (.c 0) (.c 0) (.c 0) (.c 0)) (.c 300)),.true),((.le (.ap 200 (.v 3) (.c 0) (.c 0) (.c 0) (.c 0) (.c 0)) (.c 300)),.true)],[0],[(6,(0,4611686018427387904)),(5,((-9223372036854775808),9223372036854775807)),(4,((-9223372036854775808),9223372036854775807)),(0,(0,1099511627776)),(9,(1,4)),(8,(1,8)),(7,(1,64)),(30,(0,(-1)))]⟩,[30]⟩
def rRt_T2:Tm:=⟨⟨22,146,[(6,(.it .i64 (.v 31))),(3,(.pt (.n 1) (.c 0)))],[(.code (atC Tryz.f22 [1,1,1,0,1,0,0])),(.inLoop (atC Tryz.f22 [1,1,1,0,1,0,0])),(.inBlock 2),(.code (atC Tryz.f22 [1,1,1,1]))],[],.none⟩,[],
    ⟨[(1,(.cells [(.it .i64 (.v 0)),(.fs 1 (.v 1)),(.fs 3 (.v 2)),(.fs 4 (.v 3)),(.it .i64 (.v 4)),(.it .i64 (.v 5)),(.it .u64 (.v 6))] 31))],2,0,0,[((.lt (.v 30) (.ap 200 (.v 1) (.c 0) (.c 0) (.c 0) (.c 0) (.c 0))),.false),((.le (.v 6) (.c 4611686018427387904)),.true),((.le (.v 5) (.v 4)),.true),((.ap 20 (.v 3) (.ap 200 (.v 3) (.c 0) (.c 0) (.c 0) (.c 0) (.c 0)) (.c 0) (.c 0) (.c 0) (.c 0)),.true),((.lt (.c 256) (.ap 200 (.v 3) (.c 0) (.c 0) (.c 0) (.c 0) (.c 0))),.false),((.ap 30 (.v 2) (.ap 200 (.v 2) (.c 0) (.c 0) (.c 0) (.c 0) (.c 0)) (.c 0) (.c 0) (.c 0) (.c 0)),.true),((.eq (.ap 200 (.v 1) (.c 0) (.c 0) (.c 0) (.c 0) (.c 0)) (.op .mul (.v 7) (.v 9))),.true),((.lt (.c 1099511627776) (.v 0)),.false),((.lt (.v 0) (.c 0)),.false),((.le (.v 9) (.c 4)),.true),((.le (.c 1) (.v 9)),.true),((.le (.v 8) (.c 8)),.true),((.le (.c 1) (.v 8)),.true),((.le (.v 7) (.c 64)),.true),((.le (.c 1) (.v 7)),.true),((.le (.ap 200 (.v 1) (.c 0) (.c 0) (.c 0) (.c 0) (.c 0)) (.c 300)),.true),((.le (.ap 200 (.v 2) (.c 0) (.c 0) (.c 0) (.c 0) (.c 0)) (.c 300)),.true),((.le (.ap 200 (.v 3) (.c 0) (.c 0) (.c 0) (.c 0) (.c 0)) (.c 300)),.true)],[0],[(6,(0,4611686018427387904)),(5,((-9223372036854775808),9223372036854775807)),(4,((-9223372036854775808),9223372036854775807)),(0,(0,1099511627776)),(9,(1,4)),(8,(1,8)),(7,(1,64)),(31,(0,(-1)))]⟩,[31]⟩
def rRt_T3:Tm:=⟨⟨22,146,[(8,(.it .i64 (.v 32))),(3,(.pt (.n 1) (.c 0)))],[(.code (atC Tryz.f22 [1,1,1,1,0,1,0,0])),(.inLoop (atC Tryz.f22 [1,1,1,1,0,1,0,0])),(.inBlock 4),(.code (atC Tryz.f22 [1,1,1,1,1]))],[],.none⟩,[],
    ⟨[(1,(.cells [(.it .i64 (.v 0)),(.fs 1 (.v 1)),(.fs 3 (.v 2)),(.fs 4 (.v 3)),(.it .i64 (.v 4)),(.it .i64 (.v 5)),(.it .u64 (.v 6))] 31))],2,0,0,[((.lt (.v 31) (.ap 200 (.v 2) (.c 0) (.c 0) (.c 0) (.c 0) (.c 0))),.false),((.lt (.v 30) (.ap 200 (.v 1) (.c 0) (.c 0) (.c 0) (.c 0) (.c 0))),.false),((.le (.v 6) (.c 4611686018427387904)),.true),((.le (.v 5) (.v 4)),.true),((.ap 20 (.v 3) (.ap 200 (.v 3) (.c 0) (.c 0) (.c 0) (.c 0) (.c 0)) (.c 0) (.c 0) (.c 0) (.c 0)),.true),((.lt (.c 256) (.ap 200 (.v 3) (.c 0) (.c 0) (.c 0) (.c 0) (.c 0))),.false),((.ap 30 (.v 2) (.ap 200 (.v 2) (.c 0) (.c 0) (.c 0) (.c 0) (.c 0)) (.c 0) (.c 0) (.c 0) (.c 0)),.true),((.eq (.ap 200 (.v 1) (.c 0) (.c 0) (.c 0) (.c 0) (.c 0)) (.op .mul (.v 7) (.v 9))),.true),((.lt (.c 1099511627776) (.v 0)),.false),((.lt (.v 0) (.c 0)),.false),((.le (.v 9) (.c 4)),.true),((.le (.c 1) (.v 9)),.true),((.le (.v 8) (.c 8)),.true),((.le (.c 1) (.v 8)),.true),((.le (.v 7) (.c 64)),.true),((.le (.c 1) (.v 7)),.true),((.le (.ap 200 (.v 1) (.c 0) (.c 0) (.c 0) (.c 0) (.c 0)) (.c 300)),.true),((.le (.ap 200 (.v 2) (.c 0) (.c 0) (.c 0) (.c 0) (.c 0)) (.c 300)),.true),((.le (.ap 200 (.v 3) (.c 0) (.c 0) (.c 0) (.c 0) (.c 0)) (.c 300)),.true)],[0],[(6,(0,4611686018427387904)),(5,((-9223372036854775808),9223372036854775807)),(4,((-9223372036854775808),9223372036854775807)),(0,(0,1099511627776)),(9,(1,4)),(8,(1,8)),(7,(1,64)),(32,(0,(-1)))]⟩,[32]⟩
def rRt_L0:List Lf:=
 let x0_:SI:=(.ap 200 (.v 1) (.c 0) (.c 0) (.c 0) (.c 0) (.c 0))
 let x1_:SI:=(.ap 200 (.v 2) (.c 0) (.c 0) (.c 0) (.c 0) (.c 0))
 let x2_:SI:=(.ap 200 (.v 3) (.c 0) (.c 0) (.c 0) (.c 0) (.c 0))
 let x3_:SI:=(.ap 64 (.ap 65 (.ap 63 (.c 1) (.v 7) (.v 8) (.v 9) (.v 1) (.v 0)) (.v 4) (.v 5) (.v 6) (.c 0) (.c 0)) (.v 1) (.v 2) (.v 3) (.c 0) (.c 0))
 let f0_:List (SB×Bool):=[((.le x0_ (.c 300)),.true),((.le x1_ (.c 300)),.true),((.le x2_ (.c 300)),.true)]
 let f1_:List (SB×Bool):=((.le (.c 1) (.v 7)),.true)::f0_
 let f2_:List (SB×Bool):=((.le (.v 7) (.c 64)),.true)::f1_
 let f3_:List (SB×Bool):=((.le (.c 1) (.v 8)),.true)::f2_
 let f4_:List (SB×Bool):=((.le (.v 8) (.c 8)),.true)::f3_
 let f5_:List (SB×Bool):=((.le (.c 1) (.v 9)),.true)::f4_
 let f6_:List (SB×Bool):=((.le (.v 9) (.c 4)),.true)::f5_
 let f7_:List (SB×Bool):=((.lt (.v 0) (.c 0)),.false)::f6_
 let f8_:List (SB×Bool):=((.lt (.c 1099511627776) (.v 0)),.false)::f7_
 let f9_:List (SB×Bool):=((.eq x0_ (.op .mul (.v 7) (.v 9))),.true)::f8_
 let f10_:List (SB×Bool):=((.ap 30 (.v 2) x1_ (.c 0) (.c 0) (.c 0) (.c 0)),.true)::f9_
 let f11_:List (SB×Bool):=((.lt (.c 256) x2_),.false)::f10_
 let f12_:List (SB×Bool):=((.ap 20 (.v 3) x2_ (.c 0) (.c 0) (.c 0) (.c 0)),.true)::f11_
 let f13_:List (SB×Bool):=((.le (.v 5) (.v 4)),.true)::f12_
 [(.fin (((.lt (.v 0) (.c 0)),.true)::f6_) 0 ⟨⟨[],[]⟩,[],[],[]⟩ [(.eb (.eq x3_ (.c 1)) (.c .false))] []),
  (.fin (((.lt (.c 1099511627776) (.v 0)),.true)::f7_) 0 ⟨⟨[],[]⟩,[],[],[]⟩ [(.eb (.eq x3_ (.c 1)) (.c .false))] []),
  (.fin (((.lt (.c 256) x2_),.true)::f10_) 0 ⟨⟨[],[]⟩,[],[],[]⟩ [(.eb (.eq x3_ (.c 1)) (.c .false))] []),
  (.cut (((.le (.v 6) (.c 4611686018427387904)),.true)::f13_) 1 ⟨⟨[(30,(.c 0))],[]⟩,[(1,1)],[],[]⟩ [] (shT rRt_T1 ⟨⟨[(30,(.c 0))],[]⟩,[(1,1)],[],[]⟩)),
  (.fin (((.le (.v 6) (.c 4611686018427387904)),.false)::f13_) 0 ⟨⟨[],[]⟩,[],[],[]⟩ [(.eb (.eq x3_ (.c 1)) (.c .false))] []),
  (.fin (((.le (.v 5) (.v 4)),.false)::f12_) 0 ⟨⟨[],[]⟩,[],[],[]⟩ [(.eb (.eq x3_ (.c 1)) (.c .false))] []),
  (.fin (((.ap 20 (.v 3) x2_ (.c 0) (.c 0) (.c 0) (.c 0)),.false)::f11_) 0 ⟨⟨[],[]⟩,[],[],[]⟩ [(.eb (.eq x3_ (.c 1)) (.c .false))] []),
  (.fin (((.ap 30 (.v 2) x1_ (.c 0) (.c 0) (.c 0) (.c 0)),.false)::f9_) 0 ⟨⟨[],[]⟩,[],[],[]⟩ [(.eb (.eq x3_ (.c 1)) (.c .false))] []),
  (.fin (((.eq x0_ (.op .mul (.v 7) (.v 9))),.false)::f8_) 0 ⟨⟨[],[]⟩,[],[],[]⟩ [(.eb (.eq x3_ (.c 1)) (.c .false))] []),
  (.fin (((.le (.v 9) (.c 4)),.false)::f5_) 0 ⟨⟨[],[]⟩,[],[],[]⟩ [(.eb (.eq x3_ (.c 1)) (.c .false))] []),
  (.fin (((.le (.c 1) (.v 9)),.false)::f4_) 0 ⟨⟨[],[]⟩,[],[],[]⟩ [(.eb (.eq x3_ (.c 1)) (.c .false))] []),
  (.fin (((.le (.v 8) (.c 8)),.false)::f3_) 0 ⟨⟨[],[]⟩,[],[],[]⟩ [(.eb (.eq x3_ (.c 1)) (.c .false))] []),
  (.fin (((.le (.c 1) (.v 8)),.false)::f2_) 0 ⟨⟨[],[]⟩,[],[],[]⟩ [(.eb (.eq x3_ (.c 1)) (.c .false))] []),
  (.fin (((.le (.v 7) (.c 64)),.false)::f1_) 0 ⟨⟨[],[]⟩,[],[],[]⟩ [(.eb (.eq x3_ (.c 1)) (.c .false))] []),
  (.fin (((.le (.c 1) (.v 7)),.false)::f0_) 0 ⟨⟨[],[]⟩,[],[],[]⟩ [(.eb (.eq x3_ (.c 1)) (.c .false))] [])]
def rRt_L1:List Lf:=
 let x0_:SI:=(.ap 3 (.v 1) (.v 30) (.c 0) (.c 0) (.c 0) (.c 0))
 let x1_:SI:=(.ap 200 (.v 3) (.c 0) (.c 0) (.c 0) (.c 0) (.c 0))
 let x2_:SI:=(.ap 200 (.v 2) (.c 0) (.c 0) (.c 0) (.c 0) (.c 0))
 let x3_:SI:=(.ap 200 (.v 1) (.c 0) (.c 0) (.c 0) (.c 0) (.c 0))
 let x4_:SI:=(.ap 64 (.ap 65 (.ap 63 (.c 1) (.v 7) (.v 8) (.v 9) (.v 1) (.v 0)) (.v 4) (.v 5) (.v 6) (.c 0) (.c 0)) (.v 1) (.v 2) (.v 3) (.c 0) (.c 0))
 let f0_:List (SB×Bool):=[((.le (.v 6) (.c 4611686018427387904)),.true),((.le (.v 5) (.v 4)),.true),((.ap 20 (.v 3) x1_ (.c 0) (.c 0) (.c 0) (.c 0)),.true),((.lt (.c 256) x1_),.false),((.ap 30 (.v 2) x2_ (.c 0) (.c 0) (.c 0) (.c 0)),.true),((.eq x3_ (.op .mul (.v 7) (.v 9))),.true),((.lt (.c 1099511627776) (.v 0)),.false),((.lt (.v 0) (.c 0)),.false),((.le (.v 9) (.c 4)),.true),((.le (.c 1) (.v 9)),.true),((.le (.v 8) (.c 8)),.true),((.le (.c 1) (.v 8)),.true),((.le (.v 7) (.c 64)),.true),((.le (.c 1) (.v 7)),.true),((.le x3_ (.c 300)),.true),((.le x2_ (.c 300)),.true),((.le x1_ (.c 300)),.true)]
 let f1_:List (SB×Bool):=((.lt (.v 30) x3_),.true)::f0_
 let f2_:List (SB×Bool):=((.lt x0_ (.c 0)),.false)::f1_
 [(.fin (((.lt x0_ (.c 0)),.true)::f1_) 0 ⟨⟨[],[]⟩,[],[],[]⟩ [(.eb (.eq x4_ (.c 1)) (.c .false))] []),
  (.fin (((.lt (.c 1099511627776) x0_),.true)::f2_) 0 ⟨⟨[],[]⟩,[],[],[]⟩ [(.eb (.eq x4_ (.c 1)) (.c .false))] []),
  (let i_:In:=⟨⟨[(30,(.wk .i64 (.op .add (.v 30) (.c 1))))],[]⟩,[(1,1)],[],[]⟩;.cut (((.lt (.c 1099511627776) x0_),.false)::f2_) 1 i_ [(.rn (.wk .i64 (.op .add (.v 30) (.c 1))) 0 (-1))] (shT rRt_T1 i_)),
  (.cut (((.lt (.v 30) x3_),.false)::f0_) 2 ⟨⟨[(31,(.c 0))],[]⟩,[(1,1)],[],[]⟩ [] (shT rRt_T2 ⟨⟨[(31,(.c 0))],[]⟩,[(1,1)],[],[]⟩))]
def rRt_L2:List Lf:=
 let x0_:SI:=(.ap 3 (.v 2) (.v 31) (.c 0) (.c 0) (.c 0) (.c 0))
 let x1_:SI:=(.ap 200 (.v 1) (.c 0) (.c 0) (.c 0) (.c 0) (.c 0))
 let x2_:SI:=(.ap 200 (.v 3) (.c 0) (.c 0) (.c 0) (.c 0) (.c 0))
 let x3_:SI:=(.ap 200 (.v 2) (.c 0) (.c 0) (.c 0) (.c 0) (.c 0))
 let x4_:SI:=(.wk .i64 (.op .add (.ap 3 (.v 2) (.v 31) (.c 1) (.c 0) (.c 0) (.c 0)) (.c (-1))))
 let x5_:SI:=(.ap 3 (.v 1) x0_ (.c 0) (.c 0) (.c 0) (.c 0))
 let x6_:SI:=(.ap 64 (.ap 65 (.ap 63 (.c 1) (.v 7) (.v 8) (.v 9) (.v 1) (.v 0)) (.v 4) (.v 5) (.v 6) (.c 0) (.c 0)) (.v 1) (.v 2) (.v 3) (.c 0) (.c 0))
 let x7_:SI:=(.ap 21 (.v 3) x2_ x0_ (.c 0) (.c 0) (.c 0))
 let f0_:List (SB×Bool):=[((.lt (.v 30) x1_),.false),((.le (.v 6) (.c 4611686018427387904)),.true),((.le (.v 5) (.v 4)),.true),((.ap 20 (.v 3) x2_ (.c 0) (.c 0) (.c 0) (.c 0)),.true),((.lt (.c 256) x2_),.false),((.ap 30 (.v 2) x3_ (.c 0) (.c 0) (.c 0) (.c 0)),.true),((.eq x1_ (.op .mul (.v 7) (.v 9))),.true),((.lt (.c 1099511627776) (.v 0)),.false),((.lt (.v 0) (.c 0)),.false),((.le (.v 9) (.c 4)),.true),((.le (.c 1) (.v 9)),.true),((.le (.v 8) (.c 8)),.true),((.le (.c 1) (.v 8)),.true),((.le (.v 7) (.c 64)),.true),((.le (.c 1) (.v 7)),.true),((.le x1_ (.c 300)),.true),((.le x3_ (.c 300)),.true),((.le x2_ (.c 300)),.true)]
 let f1_:List (SB×Bool):=((.lt (.v 31) x3_),.true)::f0_
 let f2_:List (SB×Bool):=((.le x1_ x0_),.false)::f1_
 let f3_:List (SB×Bool):=((.le (.c 0) x0_),.true)::f2_
 let f4_:List (SB×Bool):=((.lt x7_ x2_),.true)::((.le (.c (-1)) x7_),.true)::((.eq x4_ x5_),.true)::f3_
 [(.fin (((.le x1_ x0_),.true)::f1_) 0 ⟨⟨[],[]⟩,[],[],[]⟩ [(.eb (.eq x6_ (.c 1)) (.c .false))] []),
  (.fin (((.le (.c 0) x7_),.true)::f4_) 0 ⟨⟨[],[]⟩,[],[],[]⟩ [(.eb (.eq x6_ (.c 1)) (.c .false))] []),
  (let i_:In:=⟨⟨[(31,(.wk .i64 (.op .add (.v 31) (.c 1))))],[]⟩,[(1,1)],[],[]⟩;.cut (((.le (.c 0) x7_),.false)::f4_) 2 i_ [(.rn (.wk .i64 (.op .add (.v 31) (.c 1))) 0 (-1))] (shT rRt_T2 i_)),
  (.fin (((.eq x4_ x5_),.false)::f3_) 0 ⟨⟨[],[]⟩,[],[],[]⟩ [(.eb (.eq x6_ (.c 1)) (.c .false))] []),
  (.bad (((.le (.c 0) x0_),.false)::f2_)),
  (.cut (((.lt (.v 31) x3_),.false)::f0_) 3 ⟨⟨[(32,(.c 0))],[]⟩,[(1,1)],[],[]⟩ [] (shT rRt_T3 ⟨⟨[(32,(.c 0))],[]⟩,[(1,1)],[],[]⟩))]
def rRt_L3:List Lf:=
 let x0_:SI:=(.ap 3 (.v 3) (.v 32) (.c 0) (.c 0) (.c 0) (.c 0))
 let x1_:SI:=(.ap 200 (.v 2) (.c 0) (.c 0) (.c 0) (.c 0) (.c 0))
 let x2_:SI:=(.ap 200 (.v 1) (.c 0) (.c 0) (.c 0) (.c 0) (.c 0))
 let x3_:SI:=(.ap 200 (.v 3) (.c 0) (.c 0) (.c 0) (.c 0) (.c 0))
 let x4_:SI:=(.wk .i64 (.op .add (.ap 3 (.v 3) (.v 32) (.c 1) (.c 0) (.c 0) (.c 0)) (.c (-1))))
 let x5_:SI:=(.ap 3 (.v 1) x0_ (.c 0) (.c 0) (.c 0) (.c 0))
 let x6_:SI:=(.ap 64 (.ap 65 (.ap 63 (.c 1) (.v 7) (.v 8) (.v 9) (.v 1) (.v 0)) (.v 4) (.v 5) (.v 6) (.c 0) (.c 0)) (.v 1) (.v 2) (.v 3) (.c 0) (.c 0))
 let f0_:List (SB×Bool):=[((.lt (.v 31) x1_),.false),((.lt (.v 30) x2_),.false),((.le (.v 6) (.c 4611686018427387904)),.true),((.le (.v 5) (.v 4)),.true),((.ap 20 (.v 3) x3_ (.c 0) (.c 0) (.c 0) (.c 0)),.true),((.lt (.c 256) x3_),.false),((.ap 30 (.v 2) x1_ (.c 0) (.c 0) (.c 0) (.c 0)),.true),((.eq x2_ (.op .mul (.v 7) (.v 9))),.true),((.lt (.c 1099511627776) (.v 0)),.false),((.lt (.v 0) (.c 0)),.false),((.le (.v 9) (.c 4)),.true),((.le (.c 1) (.v 9)),.true),((.le (.v 8) (.c 8)),.true),((.le (.c 1) (.v 8)),.true),((.le (.v 7) (.c 64)),.true),((.le (.c 1) (.v 7)),.true),((.le x2_ (.c 300)),.true),((.le x1_ (.c 300)),.true),((.le x3_ (.c 300)),.true)]
 let f1_:List (SB×Bool):=((.lt (.v 32) x3_),.true)::f0_
 let f2_:List (SB×Bool):=((.le x2_ x0_),.false)::f1_
 let f3_:List (SB×Bool):=((.le (.c 0) x0_),.true)::f2_
 [(.fin (((.le x2_ x0_),.true)::f1_) 0 ⟨⟨[],[]⟩,[],[],[]⟩ [(.eb (.eq x6_ (.c 1)) (.c .false))] []),
  (let i_:In:=⟨⟨[(32,(.wk .i64 (.op .add (.v 32) (.c 1))))],[]⟩,[(1,1)],[],[]⟩;.cut (((.eq x4_ x5_),.true)::f3_) 3 i_ [(.rn (.wk .i64 (.op .add (.v 32) (.c 1))) 0 (-1))] (shT rRt_T3 i_)),
  (.fin (((.eq x4_ x5_),.false)::f3_) 0 ⟨⟨[],[]⟩,[],[],[]⟩ [(.eb (.eq x6_ (.c 1)) (.c .false))] []),
  (.bad (((.le (.c 0) x0_),.false)::f2_)),
  (.fin (((.lt (.v 32) x3_),.false)::f0_) 0 ⟨⟨[],[]⟩,[],[],[]⟩ [(.eb (.eq x6_ (.c 1)) (.c .true))] [])]
def rRt_run (T:Tm):=(ex (ccOf Tryz.prog BF [29,73,75,100] rRt) ((fun cc=>[qRight.ent cc,rRight.ent cc,rFind.ent cc]) (ccOf Tryz.prog BF [29,73,75,100] rRt)) (dw (ccOf Tryz.prog BF [29,73,75,100] rRt) ((fun cc=>[qRight.ent cc,rRight.ent cc,rFind.ent cc]) (ccOf Tryz.prog BF [29,73,75,100] rRt)) 1000 4) (stopX []) 4000 T.f T.fs T.H).lfs (ccOf Tryz.prog BF [29,73,75,100] rRt) ((tm0 rRt Tryz.f22 (Tryz.f22.body.getD .skip))::[rRt_T1,rRt_T2,rRt_T3]) rRt.os
theorem rRt_h0:rRt_run (tm0 rRt Tryz.f22 (Tryz.f22.body.getD .skip))=some rRt_L0:=by kernel_rfl
theorem rRt_h1:rRt_run rRt_T1=some rRt_L1:=by kernel_rfl
theorem rRt_h2:rRt_run rRt_T2=some rRt_L2:=by kernel_rfl
theorem rRt_h3:rRt_run rRt_T3=some rRt_L3:=by kernel_rfl
def rRt_inv:(Nat→Int)→(Nat→Bool)→Nat→(Nat→Int)→(Nat→Bool)→Prop:=fun iv0 _ k iv _=>match k with | 0=>True | 1=>0≤iv 30∧iv 30≤flenC (iv0 1)∧ovrA (iv0 1) (iv 30) | 2=>0≤iv 31∧iv 31≤flenC (iv0 2)∧ovrR (iv0 1)∧wtA (iv0 1) (iv0 2) (iv0 3) (iv 31) | _=>0≤iv 32∧iv 32≤flenC (iv0 3)∧ovrR (iv0 1)∧wtA (iv0 1) (iv0 2) (iv0 3) (flenC (iv0 2))∧hdA (iv0 1) (iv0 3) (iv 32)
def rRt_mu:(Nat→Int)→(Nat→Bool)→Nat→(Nat→Int)→(Nat→Bool)→Nat:=fun iv0 _ k iv _=>match k with | 0=>2 ^ 90 | 1=>(flenC (iv0 1) - iv 30).toNat+2 ^ 70 | 2=>(flenC (iv0 2) - iv 31).toNat+2 ^ 60 | _=>(flenC (iv0 3) - iv 32).toNat
theorem rRt_b {iv0:Nat→Int} (hin:InB rRt.B iv0):((-9223372036854775808)≤iv0 7∧iv0 7≤9223372036854775807)∧((-9223372036854775808)≤iv0 8∧iv0 8≤9223372036854775807)∧((-9223372036854775808)≤iv0 9∧iv0 9≤9223372036854775807):=by
 have b7:=hin 7 (-9223372036854775808) 9223372036854775807 (by simp [rRt,o1,u64b,liF,flF,fH,lH,apN,pbN,apM,pbM,oMo,rowV,zeroV,i64b,SI.fl,flay,flayL,lW,mayV,ints,i64s,lmap])
 simp only [Int.reduceLE,reduceIte,Int.reduceNeg] at b7
 have b8:=hin 8 (-9223372036854775808) 9223372036854775807 (by simp [rRt,o1,u64b,liF,flF,fH,lH,apN,pbN,apM,pbM,oMo,rowV,zeroV,i64b,SI.fl,flay,flayL,lW,mayV,ints,i64s,lmap])
 simp only [Int.reduceLE,reduceIte,Int.reduceNeg] at b8
 have b9:=hin 9 (-9223372036854775808) 9223372036854775807 (by simp [rRt,o1,u64b,liF,flF,fH,lH,apN,pbN,apM,pbM,oMo,rowV,zeroV,i64b,SI.fl,flay,flayL,lW,mayV,ints,i64s,lmap])
 simp only [Int.reduceLE,reduceIte,Int.reduceNeg] at b9
 exact ⟨b7,b8,b9⟩
def rRt_ob (k:Nat) (l:List Lf):Prop:=∀ (kv:Kv) (iv0:Nat→Int) (bv0:Nat→Bool),InB rRt.B iv0→FT (sta FI FB kv iv0 bv0) (dlt dyn0) rRt.F→∀ (iv:Nat→Int) (bv:Nat→Bool),Agr 10 iv0 bv0 iv bv→rRt_inv iv0 bv0 k iv bv→∀ lf∈l,LfT (sta FI FB kv) rRt.os (rRt_inv iv0 bv0) (rRt_mu iv0 bv0) k iv bv lf
theorem rRt_o0:rRt_ob 0 rRt_L0:=by
 intro kv iv0 bv0 hin hF iv bv ha hi
 unfold rRt_L0
 refine List.forall_mem_cons.2 ⟨?_,List.forall_mem_cons.2 ⟨?_,List.forall_mem_cons.2 ⟨?_,List.forall_mem_cons.2 ⟨?_,List.forall_mem_cons.2 ⟨?_,List.forall_mem_cons.2 ⟨?_,List.forall_mem_cons.2 ⟨?_,List.forall_mem_cons.2 ⟨?_,List.forall_mem_cons.2 ⟨?_,List.forall_mem_cons.2 ⟨?_,List.forall_mem_cons.2 ⟨?_,List.forall_mem_cons.2 ⟨?_,List.forall_mem_cons.2 ⟨?_,List.forall_mem_cons.2 ⟨?_,List.forall_mem_cons.2 ⟨?_,List.forall_mem_nil _⟩⟩⟩⟩⟩⟩⟩⟩⟩⟩⟩⟩⟩⟩⟩
 all_goals
  intro δ hf
 all_goals
  obtain ⟨b7,b8,b9⟩:=rRt_b hin
 all_goals
  have a0:=ha.1 0 (by omega)
  have a1:=ha.1 1 (by omega)
  have a2:=ha.1 2 (by omega)
  have a3:=ha.1 3 (by omega)
  have a4:=ha.1 4 (by omega)
  have a5:=ha.1 5 (by omega)
  have a6:=ha.1 6 (by omega)
  have a7:=ha.1 7 (by omega)
  have a8:=ha.1 8 (by omega)
  have a9:=ha.1 9 (by omega)
 all_goals
  simp only [FT,TP,SB.tp,SI.tv,sta,IB.eval,and_true,true_and,ObsT,Ob.Tv,rowT,kix,In.tiv,↓tbvT,In.tbv,get_cons,get_nil,reduceIte,Nat.reduceEqDiff,Int.reduceToNat,Int.reduceAdd,Int.reduceSub,Int.reduceLE,Int.reduceLT,Int.reduceEq,ne_eq,Bool.false_eq_true,not_true_eq_false,not_false_eq_true,true_iff,false_iff,iff_true,iff_false,false_implies,implies_true,decT,decide_true,decide_false,Bool.decide_eq_true,ap2,pb2,FI_3,FI_3g,FI_4,FI_8,FI_8m,FI_9,FI_8c,FI_8z,FI_200,FB_0,FB_2,Int.toNat_natCast,Int.toNat_zero,FI_20,FI_21,FI_22,FI_63,FI_64,FI_65,FB_20,FB_22,FB_30,rRt_inv,rRt_mu,rRt,o1,othT,o1,u64b,liF,flF,fH,lH,apN,pbN,apM,pbM,oMo,rowV,zeroV,i64b,SI.fl,flay,flayL,lW,mayV,ints,i64s,lmap,a0,a1,a2,a3,a4,a5,a6,a7,a8,a9] at hf hi ⊢
 all_goals
  have n1:=flenC_nn (iv0 1)
 all_goals
  have n2:=flenC_nn (iv0 2)
 all_goals
  have n3:=flenC_nn (iv0 3)
 all_goals
  have e9:=@rgt_few (iv0 3) (flenC (iv0 3))
 all_goals
  have e8:rgtW (iv0 2) (flenC (iv0 2))→flenC (iv0 2)≤256:=fun h=>h.1
 all_goals
  have p0:(1≤iv0 7∧iv0 7≤64)∧1≤iv0 9∧iv0 9≤4→IntKind.i64.wrap (iv0 7 * iv0 9)=iv0 7 * iv0 9:=fun h=>by have:=mul_sp h.1.1 h.1.2 h.2.1 h.2.2;rw [wrap_i64];omega
 all_goals
  have z0:=ovrA_zero (iv0 1)
 all_goals
  try simp only [andS_one,andT_one,andC_one,newN_one,sitR,shpR,lisR] at hf ⊢
 all_goals
  (repeat' (with_reducible apply And.intro))<;>first
  | omega
  | assumption
  | (unfold inM;omega)
  | exact trivial
  | (clear hin hF ha;grind)
theorem rRt_o1:rRt_ob 1 rRt_L1:=by
 intro kv iv0 bv0 hin hF iv bv ha hi
 unfold rRt_L1
 refine List.forall_mem_cons.2 ⟨?_,List.forall_mem_cons.2 ⟨?_,List.forall_mem_cons.2 ⟨?_,List.forall_mem_cons.2 ⟨?_,List.forall_mem_nil _⟩⟩⟩⟩
 all_goals
  intro δ hf
 all_goals
  obtain ⟨b7,b8,b9⟩:=rRt_b hin
 all_goals
  have a0:=ha.1 0 (by omega)
  have a1:=ha.1 1 (by omega)
  have a2:=ha.1 2 (by omega)
  have a3:=ha.1 3 (by omega)
  have a4:=ha.1 4 (by omega)
  have a5:=ha.1 5 (by omega)
  have a6:=ha.1 6 (by omega)
  have a7:=ha.1 7 (by omega)
  have a8:=ha.1 8 (by omega)
  have a9:=ha.1 9 (by omega)
 all_goals
  simp only [FT,TP,SB.tp,SI.tv,sta,IB.eval,and_true,true_and,ObsT,Ob.Tv,rowT,kix,In.tiv,↓tbvT,In.tbv,get_cons,get_nil,reduceIte,Nat.reduceEqDiff,Int.reduceToNat,Int.reduceAdd,Int.reduceSub,Int.reduceLE,Int.reduceLT,Int.reduceEq,ne_eq,Bool.false_eq_true,not_true_eq_false,not_false_eq_true,true_iff,false_iff,iff_true,iff_false,false_implies,implies_true,decT,decide_true,decide_false,Bool.decide_eq_true,ap2,pb2,FI_3,FI_3g,FI_4,FI_8,FI_8m,FI_9,FI_8c,FI_8z,FI_200,FB_0,FB_2,Int.toNat_natCast,Int.toNat_zero,FI_20,FI_21,FI_22,FI_63,FI_64,FI_65,FB_20,FB_22,FB_30,rRt_inv,rRt_mu,rRt,o1,othT,o1,u64b,liF,flF,fH,lH,apN,pbN,apM,pbM,oMo,rowV,zeroV,i64b,SI.fl,flay,flayL,lW,mayV,ints,i64s,lmap,a0,a1,a2,a3,a4,a5,a6,a7,a8,a9] at hf hi ⊢
 all_goals
  have n1:=flenC_nn (iv0 1)
 all_goals
  have n2:=flenC_nn (iv0 2)
 all_goals
  have n3:=flenC_nn (iv0 3)
 all_goals
  obtain ⟨g0,g1,g2⟩:=hi
 all_goals
  have w1:IntKind.i64.wrap (iv 30+1)=iv 30+1:=by rw [wrap_i64];omega
 all_goals
  have w2:IntKind.i64.wrap (iv 30+-1)=iv 30+-1:=by rw [wrap_i64];omega
 all_goals
  try simp only [w1,w2] at hf
 all_goals
  try simp only [w1,w2]
 all_goals
  have e1:=@ovrA_suc (iv0 1) (iv 30) g2 g0
 all_goals
  have e2:=@ovrA_no (iv0 1) (iv 30) g0
 all_goals
  have e3:=@ovrA_end (iv0 1) (iv 30) g2
 all_goals
  have e4:=wtA_zero (iv0 1) (iv0 2) (iv0 3)
 all_goals
  try simp only [andS_one,andT_one,andC_one,newN_one,sitR,shpR,lisR] at hf ⊢
 all_goals
  (repeat' (with_reducible apply And.intro))<;>first
  | omega
  | assumption
  | (unfold inM;omega)
  | exact trivial
  | (clear hin hF ha;grind)
theorem rRt_o2:rRt_ob 2 rRt_L2:=by
 intro kv iv0 bv0 hin hF iv bv ha hi
 unfold rRt_L2
 refine List.forall_mem_cons.2 ⟨?_,List.forall_mem_cons.2 ⟨?_,List.forall_mem_cons.2 ⟨?_,List.forall_mem_cons.2 ⟨?_,List.forall_mem_cons.2 ⟨?_,List.forall_mem_cons.2 ⟨?_,List.forall_mem_nil _⟩⟩⟩⟩⟩⟩
 all_goals
  intro δ hf
 all_goals
  obtain ⟨b7,b8,b9⟩:=rRt_b hin
 all_goals
  have a0:=ha.1 0 (by omega)
  have a1:=ha.1 1 (by omega)
  have a2:=ha.1 2 (by omega)
  have a3:=ha.1 3 (by omega)
  have a4:=ha.1 4 (by omega)
  have a5:=ha.1 5 (by omega)
  have a6:=ha.1 6 (by omega)
  have a7:=ha.1 7 (by omega)
  have a8:=ha.1 8 (by omega)
  have a9:=ha.1 9 (by omega)
 all_goals
  simp only [FT,TP,SB.tp,SI.tv,sta,IB.eval,and_true,true_and,ObsT,Ob.Tv,rowT,kix,In.tiv,↓tbvT,In.tbv,get_cons,get_nil,reduceIte,Nat.reduceEqDiff,Int.reduceToNat,Int.reduceAdd,Int.reduceSub,Int.reduceLE,Int.reduceLT,Int.reduceEq,ne_eq,Bool.false_eq_true,not_true_eq_false,not_false_eq_true,true_iff,false_iff,iff_true,iff_false,false_implies,implies_true,decT,decide_true,decide_false,Bool.decide_eq_true,ap2,pb2,FI_3,FI_3g,FI_4,FI_8,FI_8m,FI_9,FI_8c,FI_8z,FI_200,FB_0,FB_2,Int.toNat_natCast,Int.toNat_zero,FI_20,FI_21,FI_22,FI_63,FI_64,FI_65,FB_20,FB_22,FB_30,rRt_inv,rRt_mu,rRt,o1,othT,o1,u64b,liF,flF,fH,lH,apN,pbN,apM,pbM,oMo,rowV,zeroV,i64b,SI.fl,flay,flayL,lW,mayV,ints,i64s,lmap,a0,a1,a2,a3,a4,a5,a6,a7,a8,a9] at hf hi ⊢
 all_goals
  have n1:=flenC_nn (iv0 1)
 all_goals
  have n2:=flenC_nn (iv0 2)
 all_goals
  have n3:=flenC_nn (iv0 3)
 all_goals
  obtain ⟨g0,g1,g3,g2⟩:=hi
 all_goals
  have w1:IntKind.i64.wrap (iv 31+1)=iv 31+1:=by rw [wrap_i64];omega
 all_goals
  have w2:IntKind.i64.wrap (iv 31+-1)=iv 31+-1:=by rw [wrap_i64];omega
 all_goals
  try simp only [w1,w2] at hf
 all_goals
  try simp only [w1,w2]
 all_goals
  have e1:=@rgt_w (iv0 2) (flenC (iv0 2)) (iv 31)
 all_goals
  have e2:=@i64_sub (fl (iv0 2) (iv 31).toNat 1)
 all_goals
  have e3:=@wtA_suc (iv0 1) (iv0 2) (iv0 3) (iv 31) g2 g0
 all_goals
  have e4:=@wtA_no (iv0 1) (iv0 2) (iv0 3) (iv 31) g0
 all_goals
  have e5:=@wtA_end (iv0 1) (iv0 2) (iv0 3) (iv 31) g2
 all_goals
  have e6:=hdA_zero (iv0 1) (iv0 3)
 all_goals
  unfold wtP at e3 e4
 all_goals
  try simp only [andS_one,andT_one,andC_one,newN_one,sitR,shpR,lisR] at hf ⊢
 all_goals
  (repeat' (with_reducible apply And.intro))<;>first
  | omega
  | assumption
  | (unfold inM;omega)
  | exact trivial
  | (clear hin hF ha;grind)
theorem rRt_o3:rRt_ob 3 rRt_L3:=by
 intro kv iv0 bv0 hin hF iv bv ha hi
 unfold rRt_L3
 refine List.forall_mem_cons.2 ⟨?_,List.forall_mem_cons.2 ⟨?_,List.forall_mem_cons.2 ⟨?_,List.forall_mem_cons.2 ⟨?_,List.forall_mem_cons.2 ⟨?_,List.forall_mem_nil _⟩⟩⟩⟩⟩
 all_goals
  intro δ hf
 all_goals
  obtain ⟨b7,b8,b9⟩:=rRt_b hin
 all_goals
  have a0:=ha.1 0 (by omega)
  have a1:=ha.1 1 (by omega)
  have a2:=ha.1 2 (by omega)
  have a3:=ha.1 3 (by omega)
  have a4:=ha.1 4 (by omega)
  have a5:=ha.1 5 (by omega)
  have a6:=ha.1 6 (by omega)
  have a7:=ha.1 7 (by omega)
  have a8:=ha.1 8 (by omega)
  have a9:=ha.1 9 (by omega)
 all_goals
  simp only [FT,TP,SB.tp,SI.tv,sta,IB.eval,and_true,true_and,ObsT,Ob.Tv,rowT,kix,In.tiv,↓tbvT,In.tbv,get_cons,get_nil,reduceIte,Nat.reduceEqDiff,Int.reduceToNat,Int.reduceAdd,Int.reduceSub,Int.reduceLE,Int.reduceLT,Int.reduceEq,ne_eq,Bool.false_eq_true,not_true_eq_false,not_false_eq_true,true_iff,false_iff,iff_true,iff_false,false_implies,implies_true,decT,decide_true,decide_false,Bool.decide_eq_true,ap2,pb2,FI_3,FI_3g,FI_4,FI_8,FI_8m,FI_9,FI_8c,FI_8z,FI_200,FB_0,FB_2,Int.toNat_natCast,Int.toNat_zero,FI_20,FI_21,FI_22,FI_63,FI_64,FI_65,FB_20,FB_22,FB_30,rRt_inv,rRt_mu,rRt,o1,othT,o1,u64b,liF,flF,fH,lH,apN,pbN,apM,pbM,oMo,rowV,zeroV,i64b,SI.fl,flay,flayL,lW,mayV,ints,i64s,lmap,a0,a1,a2,a3,a4,a5,a6,a7,a8,a9] at hf hi ⊢
 all_goals
  have n1:=flenC_nn (iv0 1)
 all_goals
  have n2:=flenC_nn (iv0 2)
 all_goals
  have n3:=flenC_nn (iv0 3)
 all_goals
  obtain ⟨g0,g1,g4,g3,g2⟩:=hi
 all_goals
  have w1:IntKind.i64.wrap (iv 32+1)=iv 32+1:=by rw [wrap_i64];omega
 all_goals
  have w2:IntKind.i64.wrap (iv 32+-1)=iv 32+-1:=by rw [wrap_i64];omega
 all_goals
  try simp only [w1,w2] at hf
 all_goals
  try simp only [w1,w2]
 all_goals
  have e1:=@rgt_h (iv0 3) (flenC (iv0 3)) (iv 32)
 all_goals
  have e2:=@i64_sub (fl (iv0 3) (iv 32).toNat 1)
 all_goals
  have e3:=@hdA_suc (iv0 1) (iv0 3) (iv 32) g2 g0
 all_goals
  have e4:=@hdA_no (iv0 1) (iv0 2) (iv0 3) (iv 32) g0
 all_goals
  have e5:=@hdA_end (iv0 1) (iv0 2) (iv0 3) (iv 32) g2 g3
 all_goals
  unfold hdP at e3 e4
 all_goals
  try simp only [andS_one,andT_one,andC_one,newN_one,sitR,shpR,lisR] at hf ⊢
 all_goals
  (repeat' (with_reducible apply And.intro))<;>first
  | omega
  | assumption
  | (unfold inM;omega)
  | exact trivial
  | (clear hin hF ha;grind)
theorem rRt_c:LsC ((tm0 rRt Tryz.f22 (Tryz.f22.body.getD .skip))::[rRt_T1,rRt_T2,rRt_T3]) rRt.os [rRt_L0,rRt_L1,rRt_L2,rRt_L3]:=by
 unfold rRt_L0 rRt_L1 rRt_L2 rRt_L3
 exact ⟨List.forall_mem_cons.2 ⟨⟨⟨_,rfl,rfl⟩,by kernel_rfl⟩,List.forall_mem_cons.2 ⟨⟨⟨_,rfl,rfl⟩,by kernel_rfl⟩,List.forall_mem_cons.2 ⟨⟨⟨_,rfl,rfl⟩,by kernel_rfl⟩,List.forall_mem_cons.2 ⟨⟨⟨_,rfl,rfl⟩,by kernel_rfl⟩,List.forall_mem_cons.2 ⟨⟨⟨_,rfl,rfl⟩,by kernel_rfl⟩,List.forall_mem_cons.2 ⟨⟨⟨_,rfl,rfl⟩,by kernel_rfl⟩,List.forall_mem_cons.2 ⟨⟨⟨_,rfl,rfl⟩,by kernel_rfl⟩,List.forall_mem_cons.2 ⟨⟨⟨_,rfl,rfl⟩,by kernel_rfl⟩,List.forall_mem_cons.2 ⟨⟨⟨_,rfl,rfl⟩,by kernel_rfl⟩,List.forall_mem_cons.2 ⟨⟨⟨_,rfl,rfl⟩,by kernel_rfl⟩,List.forall_mem_cons.2 ⟨⟨⟨_,rfl,rfl⟩,by kernel_rfl⟩,List.forall_mem_cons.2 ⟨⟨⟨_,rfl,rfl⟩,by kernel_rfl⟩,List.forall_mem_cons.2 ⟨⟨⟨_,rfl,rfl⟩,by kernel_rfl⟩,List.forall_mem_cons.2 ⟨⟨⟨_,rfl,rfl⟩,by kernel_rfl⟩,List.forall_mem_cons.2 ⟨⟨⟨_,rfl,rfl⟩,by kernel_rfl⟩,List.forall_mem_nil _⟩⟩⟩⟩⟩⟩⟩⟩⟩⟩⟩⟩⟩⟩⟩,List.forall_mem_cons.2 ⟨⟨⟨_,rfl,rfl⟩,by kernel_rfl⟩,List.forall_mem_cons.2 ⟨⟨⟨_,rfl,rfl⟩,by kernel_rfl⟩,List.forall_mem_cons.2 ⟨⟨⟨_,rfl,rfl⟩,by kernel_rfl⟩,List.forall_mem_cons.2 ⟨⟨⟨_,rfl,rfl⟩,by kernel_rfl⟩,List.forall_mem_nil _⟩⟩⟩⟩,List.forall_mem_cons.2 ⟨⟨⟨_,rfl,rfl⟩,by kernel_rfl⟩,List.forall_mem_cons.2 ⟨⟨⟨_,rfl,rfl⟩,by kernel_rfl⟩,List.forall_mem_cons.2 ⟨⟨⟨_,rfl,rfl⟩,by kernel_rfl⟩,List.forall_mem_cons.2 ⟨⟨⟨_,rfl,rfl⟩,by kernel_rfl⟩,List.forall_mem_cons.2 ⟨trivial,List.forall_mem_cons.2 ⟨⟨⟨_,rfl,rfl⟩,by kernel_rfl⟩,List.forall_mem_nil _⟩⟩⟩⟩⟩⟩,List.forall_mem_cons.2 ⟨⟨⟨_,rfl,rfl⟩,by kernel_rfl⟩,List.forall_mem_cons.2 ⟨⟨⟨_,rfl,rfl⟩,by kernel_rfl⟩,List.forall_mem_cons.2 ⟨⟨⟨_,rfl,rfl⟩,by kernel_rfl⟩,List.forall_mem_cons.2 ⟨trivial,List.forall_mem_cons.2 ⟨⟨⟨_,rfl,rfl⟩,by kernel_rfl⟩,List.forall_mem_nil _⟩⟩⟩⟩⟩,trivial⟩
theorem rRt_ok:rRt.Ok Tryz.prog FI FB:=
 Con.of_plain (body:=Tryz.f22.body.getD .skip) pok fiok (EntsFor.cons qRight_ok (EntsFor.cons rRight_ok (EntsFor.cons rFind_ok EntsFor.nil))) rRt Tryz.func22 (by kernel_rfl) 10 [rRt_T1,rRt_T2,rRt_T3] (by kernel_rfl) [rRt_L0,rRt_L1,rRt_L2,rRt_L3] ⟨rRt_h0,rRt_h1,rRt_h2,rRt_h3,trivial⟩ rRt_c
  rRt_inv rRt_mu (fun _ _ _=>trivial) fun kv iv0 bv0 hin hF k l iv bv hk ha hi=>match k,hk,hi with
  | 0,hk,hi=>by
    cases hk
    exact rRt_o0 kv iv0 bv0 hin hF iv bv ha hi
  | 1,hk,hi=>by
    cases hk
    exact rRt_o1 kv iv0 bv0 hin hF iv bv ha hi
  | 2,hk,hi=>by
    cases hk
    exact rRt_o2 kv iv0 bv0 hin hF iv bv ha hi
  | 3,hk,hi=>by
    cases hk
    exact rRt_o3 kv iv0 bv0 hin hF iv bv ha hi
  | k+4,hk,_=>by simp at hk
end
end Go.Sx.Tk
