/- Who is next, nothing held. -/
import Derived.Test.YtfgdpkceoadgjaaWoC
namespace Go.Sx.Mhw
set_option linter.unusedVariables false
set_option linter.unusedSimpArgs false
set_option maxRecDepth 100000
set_option maxHeartbeats 0
noncomputable section
open Go Go.Sx Go.Proofs
def qNxt0_T1:Tm:=⟨⟨118,19,[(7,(.it .i64 (.v 34))),(6,(.it .i64 (.v 1))),(5,(.sl (.n 7) (.c 0) (.v 1) (.v 25))),(0,(.yl 9))],[(.code (atC Try.f118 [0,1,1,0,0])),(.inLoop (atC Try.f118 [0,1,1,0,0])),(.inBlock 0),(.inScope (atC Try.f118 [0]))],[],.none⟩,[⟨66,33,[(7,(.pt (.n 4) (.c 0))),(6,(.pt (.n 3) (.c 0)))],[(.inRangeFunc 9),(.inBlock 0),(.code (atC Try.f66 [1,1,1]))],[8],.none⟩],
    ⟨[(0,(.cells [(.sl (.k 0) (.v 2) (.v 1) (.v 3))] 76)),(1,(.cells [(.it .i64 (.v 4))] 3)),(2,(.cells [.sn] 31)),(3,(.cells [(.it .i64 (.c 0))] 3)),(4,(.cells [(.bo (.c .false))] 4)),(7,(.arr [(.nt .i64),(.nt .i64),(.nt .i64),(.nt .i64),(.nt .i64),(.nt .i64)] (.ap 60 (.v 0) (.v 1) (.v 4) (.c 0) (.c 0) (.c 0)) (.v 1) 158 (.v 25))),(8,.dfr),(9,(.loop .ready .none 66 33 [(7,(.pt (.n 4) (.c 0))),(6,(.pt (.n 3) (.c 0))),(5,(.pt (.n 2) (.c 0))),(4,(.pt (.n 1) (.c 0))),(3,(.pt (.n 0) (.c 0)))] #[18,19] (atC Try.f66 [1,1,0,1,0,0]) (atC Try.f66 [1,1,0,1,0,1]) 8))],10,0,0,[((.le (.v 1) (.c 256)),.true),((.lt (.c 0) (.v 1)),.true),((.le (.v 4) (.c 64)),.true),((.le (.c 0) (.v 4)),.true),((.ap 30 (.v 0) (.v 1) (.c 0) (.c 0) (.c 0) (.c 0)),.true),((.le (.v 1) (.v 3)),.true),((.le (.c 0) (.v 3)),.true)],[1,0],[(1,(1,256)),(4,(0,64)),(2,(0,(-1))),(34,(0,(-1)))]⟩,[34,25]⟩
def qNxt0_T2:Tm:=⟨⟨118,19,[(7,(.it .i64 (.c 0))),(6,(.it .i64 (.c 0))),(5,.sn),(0,(.yl 8))],[(.code (atC Try.f118 [0,1,1,0,0])),(.inLoop (atC Try.f118 [0,1,1,0,0])),(.inBlock 0),(.inScope (atC Try.f118 [0]))],[],.none⟩,[⟨66,33,[(7,(.pt (.n 4) (.c 0))),(6,(.pt (.n 3) (.c 0)))],[(.inRangeFunc 8),(.inBlock 0),(.code (atC Try.f66 [1,1,1]))],[7],.none⟩],
    ⟨[(0,(.cells [(.sl (.k 0) (.v 2) (.v 1) (.v 3))] 76)),(1,(.cells [(.it .i64 (.v 4))] 3)),(2,(.cells [.sn] 31)),(3,(.cells [(.it .i64 (.c 0))] 3)),(4,(.cells [(.bo (.c .false))] 4)),(7,.dfr),(8,(.loop .ready .none 66 33 [(7,(.pt (.n 4) (.c 0))),(6,(.pt (.n 3) (.c 0))),(5,(.pt (.n 2) (.c 0))),(4,(.pt (.n 1) (.c 0))),(3,(.pt (.n 0) (.c 0)))] #[18,19] (atC Try.f66 [1,1,0,1,0,0]) (atC Try.f66 [1,1,0,1,0,1]) 7))],9,0,0,[((.le (.v 1) (.v 3)),.true),((.le (.c 0) (.v 3)),.true)],[1,0],[(1,(0,1000)),(4,((-9223372036854775808),9223372036854775807)),(2,(0,(-1)))]⟩,[]⟩
def qNxt0_T3:Tm:=⟨⟨131,19,[(8,(.it .i64 (.v 41))),(7,(.it .i64 (.ap 3 (.ap 60 (.v 0) (.v 1) (.v 4) (.c 0) (.c 0) (.c 0)) (.v 34) (.c 5) (.c 0) (.c 0) (.c 0)))),(0,(.sl (.k 0) (.v 2) (.ap 3 (.ap 60 (.v 0) (.v 1) (.v 4) (.c 0) (.c 0) (.c 0)) (.v 34) (.c 5) (.c 0) (.c 0) (.c 0)) (.v 3))),(1,(.fn 153 [] [(.pt (.n 14) (.c 0))]))],[(.code (atC Try.f131 [1,0,1,0,0])),(.inLoop (atC Try.f131 [1,0,1,0,0])),(.inBlock 0),(.code (atC Try.f131 [1,1]))],[],.none⟩,[⟨152,9,[(6,(.fn 153 [] [(.pt (.n 14) (.c 0))])),(5,(.sl (.k 0) (.v 2) (.ap 3 (.ap 60 (.v 0) (.v 1) (.v 4) (.c 0) (.c 0) (.c 0)) (.v 34) (.c 5) (.c 0) (.c 0) (.c 0)) (.v 3)))],[(.inRegion (opsC (atC Try.f152 [1,0])) [2,3,4]),(.code Code.ret)],[],.none⟩,⟨125,9,[(6,(.fn 153 [] [(.pt (.n 14) (.c 0))])),(5,(.sl (.k 0) (.v 2) (.ap 3 (.ap 60 (.v 0) (.v 1) (.v 4) (.c 0) (.c 0) (.c 0)) (.v 34) (.c 5) (.c 0) (.c 0) (.c 0)) (.v 3)))],[(.inRegion (opsC (atC Try.f125 [1,0])) [2,3,4]),(.code Code.ret)],[],.none⟩,⟨66,33,[(29,(.fn 123 [] [(.pt (.n 1) (.c 0)),(.pt (.n 12) (.c 0))])),(28,(.sl (.k 0) (.v 2) (.ap 3 (.ap 60 (.v 0) (.v 1) (.v 4) (.c 0) (.c 0) (.c 0)) (.v 34) (.c 5) (.c 0) (.c 0) (.c 0)) (.v 3))),(25,(.bo (.c .true))),(8,(.it .i64 (.ap 3 (.ap 60 (.v 0) (.v 1) (.v 4) (.c 0) (.c 0) (.c 0)) (.v 34) (.c 5) (.c 0) (.c 0) (.c 0)))),(7,(.pt (.n 4) (.c 0))),(6,(.pt (.n 3) (.c 0)))],[(.inRegion (opsC (atC Try.f66 [1,1,0,1,0,1,0,1,1,0])) [8,9]),(.code (atC Try.f66 [1,1,0,1,0,1,0,1,1,1])),(.inBlock 1)],[],(.some 9)⟩,⟨118,19,[(15,(.ag [(.it .i64 (.ap 3 (.ap 60 (.v 0) (.v 1) (.v 4) (.c 0) (.c 0) (.c 0)) (.v 34) (.c 0) (.c 0) (.c 0) (.c 0))),(.it .i64 (.ap 3 (.ap 60 (.v 0) (.v 1) (.v 4) (.c 0) (.c 0) (.c 0)) (.v 34) (.c 1) (.c 0) (.c 0) (.c 0))),(.it .i64 (.ap 3 (.ap 60 (.v 0) (.v 1) (.v 4) (.c 0) (.c 0) (.c 0)) (.v 34) (.c 2) (.c 0) (.c 0) (.c 0))),(.it .i64 (.ap 3 (.ap 60 (.v 0) (.v 1) (.v 4) (.c 0) (.c 0) (.c 0)) (.v 34) (.c 3) (.c 0) (.c 0) (.c 0))),(.it .i64 (.ap 3 (.ap 60 (.v 0) (.v 1) (.v 4) (.c 0) (.c 0) (.c 0)) (.v 34) (.c 4) (.c 0) (.c 0) (.c 0)))])),(13,(.it .i64 (.ap 3 (.ap 60 (.v 0) (.v 1) (.v 4) (.c 0) (.c 0) (.c 0)) (.v 34) (.c 5) (.c 0) (.c 0) (.c 0)))),(11,(.yl 9)),(7,(.it .i64 (.v 34))),(6,(.it .i64 (.v 1))),(5,(.sl (.n 7) (.c 0) (.v 1) (.v 25))),(0,(.yl 9))],[(.inRegion (opsC (atC Try.f118 [0,1,1,0,0,1,1,0,0,1,0])) [5,6]),(.code (atC Try.f118 [0,1,1,0,0,1,1,0,0,1,1])),(.inBlock 1),(.code (atC Try.f118 [0,1,1,0,0,1,1,1])),(.inLoop (atC Try.f118 [0,1,1,0,0])),(.inBlock 0),(.inScope (atC Try.f118 [0]))],[],.none⟩,⟨66,33,[(7,(.pt (.n 4) (.c 0))),(6,(.pt (.n 3) (.c 0)))],[(.inRangeFunc 9),(.inBlock 0),(.code (atC Try.f66 [1,1,1]))],[8],.none⟩],
    ⟨[(0,(.cells [(.sl (.k 0) (.v 2) (.v 1) (.v 3))] 76)),(1,(.cells [(.it .i64 (.v 4))] 3)),(2,(.cells [.sn] 31)),(3,(.cells [(.it .i64 (.c 0))] 3)),(4,(.cells [(.bo (.c .false))] 4)),(7,(.arr [(.nt .i64),(.nt .i64),(.nt .i64),(.nt .i64),(.nt .i64),(.nt .i64)] (.ap 60 (.v 0) (.v 1) (.v 4) (.c 0) (.c 0) (.c 0)) (.v 1) 158 (.v 25))),(8,.dfr),(9,(.loop .busy .none 66 33 [(7,(.pt (.n 4) (.c 0))),(6,(.pt (.n 3) (.c 0))),(5,(.pt (.n 2) (.c 0))),(4,(.pt (.n 1) (.c 0))),(3,(.pt (.n 0) (.c 0)))] #[18,19] (atC Try.f66 [1,1,0,1,0,0]) (atC Try.f66 [1,1,0,1,0,1]) 8)),(11,(.cells [(.it .i64 (.ap 3 (.ap 60 (.v 0) (.v 1) (.v 4) (.c 0) (.c 0) (.c 0)) (.v 34) (.c 0) (.c 0) (.c 0) (.c 0))),(.it .i64 (.ap 3 (.ap 60 (.v 0) (.v 1) (.v 4) (.c 0) (.c 0) (.c 0)) (.v 34) (.c 1) (.c 0) (.c 0) (.c 0))),(.it .i64 (.ap 3 (.ap 60 (.v 0) (.v 1) (.v 4) (.c 0) (.c 0) (.c 0)) (.v 34) (.c 2) (.c 0) (.c 0) (.c 0))),(.it .i64 (.ap 3 (.ap 60 (.v 0) (.v 1) (.v 4) (.c 0) (.c 0) (.c 0)) (.v 34) (.c 3) (.c 0) (.c 0) (.c 0))),(.it .i64 (.ap 3 (.ap 60 (.v 0) (.v 1) (.v 4) (.c 0) (.c 0) (.c 0)) (.v 34) (.c 4) (.c 0) (.c 0) (.c 0)))] 84)),(12,(.cells [(.fn 121 [] [(.pt (.n 11) (.c 0))])] 28)),(14,(.cells [(.fn 123 [] [(.pt (.n 1) (.c 0)),(.pt (.n 12) (.c 0))])] 155))],15,0,0,[((.le (.ap 3 (.ap 60 (.v 0) (.v 1) (.v 4) (.c 0) (.c 0) (.c 0)) (.v 34) (.c 5) (.c 0) (.c 0) (.c 0)) (.v 3)),.true),((.le (.c 0) (.ap 3 (.ap 60 (.v 0) (.v 1) (.v 4) (.c 0) (.c 0) (.c 0)) (.v 34) (.c 5) (.c 0) (.c 0) (.c 0))),.true),((.lt (.v 34) (.v 1)),.true),((.le (.v 1) (.c 256)),.true),((.lt (.c 0) (.v 1)),.true),((.le (.v 4) (.c 64)),.true),((.le (.c 0) (.v 4)),.true),((.ap 30 (.v 0) (.v 1) (.c 0) (.c 0) (.c 0) (.c 0)),.true),((.le (.v 1) (.v 3)),.true),((.le (.c 0) (.v 3)),.true)],[1,0],[(1,(1,256)),(34,(0,255)),(4,(0,64)),(2,(0,(-1))),(41,(0,(-1)))]⟩,[41]⟩
def qNxt0_L0:List Lf:=
 let f0_:List (SB×Bool):=[((.le (.v 1) (.v 3)),.true),((.le (.c 0) (.v 3)),.true)]
 let f1_:List (SB×Bool):=((.ap 30 (.v 0) (.v 1) (.c 0) (.c 0) (.c 0) (.c 0)),.true)::f0_
 let f2_:List (SB×Bool):=((.le (.c 0) (.v 4)),.true)::f1_
 let f3_:List (SB×Bool):=((.le (.v 4) (.c 64)),.true)::f2_
 [(let i_:In:=⟨⟨[(25,(.d 0)),(34,(.c 0))],[]⟩,[(0,0),(1,1),(2,2),(8,8),(3,3),(4,4),(9,9),(7,7)],[],[]⟩;.cut (((.le (.v 1) (.d 0)),.true)::((.le (.v 1) (.c 256)),.true)::((.lt (.c 0) (.v 1)),.true)::f3_) 1 i_ [] (shT qNxt0_T1 i_)),
  (let i_:In:=⟨⟨[],[]⟩,[(0,0),(1,1),(2,2),(7,7),(3,3),(4,4),(8,8)],[],[]⟩;.cut (((.lt (.c 0) (.v 1)),.false)::f3_) 2 i_ [] (shT qNxt0_T2 i_)),
  (let i_:In:=⟨⟨[],[]⟩,[(0,0),(1,1),(2,2),(7,7),(3,3),(4,4),(8,8)],[],[]⟩;.cut (((.le (.v 4) (.c 64)),.false)::f2_) 2 i_ [] (shT qNxt0_T2 i_)),
  (let i_:In:=⟨⟨[],[]⟩,[(0,0),(1,1),(2,2),(7,7),(3,3),(4,4),(8,8)],[],[]⟩;.cut (((.le (.c 0) (.v 4)),.false)::f1_) 2 i_ [] (shT qNxt0_T2 i_)),
  (let i_:In:=⟨⟨[],[]⟩,[(0,0),(1,1),(2,2),(7,7),(3,3),(4,4),(8,8)],[],[]⟩;.cut (((.ap 30 (.v 0) (.v 1) (.c 0) (.c 0) (.c 0) (.c 0)),.false)::f0_) 2 i_ [] (shT qNxt0_T2 i_))]
def qNxt0_L1:List Lf:=
 let x0_:SI:=(.ap 3 (.ap 60 (.v 0) (.v 1) (.v 4) (.c 0) (.c 0) (.c 0)) (.v 34) (.c 5) (.c 0) (.c 0) (.c 0))
 let f0_:List (SB×Bool):=[((.le (.v 1) (.c 256)),.true),((.lt (.c 0) (.v 1)),.true),((.le (.v 4) (.c 64)),.true),((.le (.c 0) (.v 4)),.true),((.ap 30 (.v 0) (.v 1) (.c 0) (.c 0) (.c 0) (.c 0)),.true),((.le (.v 1) (.v 3)),.true),((.le (.c 0) (.v 3)),.true)]
 let f1_:List (SB×Bool):=((.lt (.v 34) (.v 1)),.true)::f0_
 let f2_:List (SB×Bool):=((.le (.c 0) x0_),.true)::f1_
 [(let i_:In:=⟨⟨[(41,(.c 0))],[]⟩,[(11,11),(0,0),(2,2),(8,8),(7,7),(9,9),(3,3),(4,4),(12,12),(1,1),(14,14)],[],[]⟩;.cut (((.le x0_ (.v 3)),.true)::f2_) 3 i_ [] (shT qNxt0_T3 i_)),
  (.bad (((.le x0_ (.v 3)),.false)::f2_)),
  (.bad (((.le (.c 0) x0_),.false)::f1_)),
  (.fin (((.lt (.v 34) (.v 1)),.false)::f0_) 1 ⟨⟨[],[]⟩,[],[],[]⟩ [] [])]
def qNxt0_L2:List Lf:=
 [(.fin ([((.le (.v 1) (.v 3)),.true),((.le (.c 0) (.v 3)),.true)]) 1 ⟨⟨[],[]⟩,[],[],[]⟩ [] [])]
def qNxt0_L3:List Lf:=
 let x0_:SI:=(.ap 60 (.v 0) (.v 1) (.v 4) (.c 0) (.c 0) (.c 0))
 let x1_:SI:=(.ap 3 (.v 0) (.v 41) (.c 4) (.c 0) (.c 0) (.c 0))
 let x2_:SI:=(.ap 3 (.v 0) (.v 41) (.c 2) (.c 0) (.c 0) (.c 0))
 let x3_:SI:=(.ap 3 x0_ (.v 34) (.c 5) (.c 0) (.c 0) (.c 0))
 let x4_:SI:=(.ap 3 x0_ (.v 34) (.c 2) (.c 0) (.c 0) (.c 0))
 let f0_:List (SB×Bool):=[((.le x3_ (.v 3)),.true),((.le (.c 0) x3_),.true),((.lt (.v 34) (.v 1)),.true),((.le (.v 1) (.c 256)),.true),((.lt (.c 0) (.v 1)),.true),((.le (.v 4) (.c 64)),.true),((.le (.c 0) (.v 4)),.true),((.ap 30 (.v 0) (.v 1) (.c 0) (.c 0) (.c 0) (.c 0)),.true),((.le (.v 1) (.v 3)),.true),((.le (.c 0) (.v 3)),.true)]
 let f1_:List (SB×Bool):=((.lt (.v 41) x3_),.true)::f0_
 let f2_:List (SB×Bool):=((.lt (.v 41) (.v 1)),.true)::f1_
 let f3_:List (SB×Bool):=((.le (.v 4) x1_),.true)::f2_
 [(let i_:In:=⟨⟨[(41,(.op .add (.v 41) (.c 1)))],[]⟩,[(11,11),(0,0),(2,2),(8,8),(7,7),(9,9),(3,3),(4,4),(12,12),(1,1),(14,14)],[],[]⟩;.cut (((.ap 10 x4_ x2_ (.c 0) (.c 0) (.c 0) (.c 0)),.true)::f3_) 3 i_ [] (shT qNxt0_T3 i_)),
  (let i_:In:=⟨⟨[(25,(.v 25)),(34,(.op .add (.v 34) (.c 1)))],[]⟩,[(0,0),(1,1),(2,2),(8,8),(3,3),(4,4),(9,9),(7,7)],[],[]⟩;.cut (((.ap 10 x4_ x2_ (.c 0) (.c 0) (.c 0) (.c 0)),.false)::f3_) 1 i_ [] (shT qNxt0_T1 i_)),
  (let i_:In:=⟨⟨[(41,(.op .add (.v 41) (.c 1)))],[]⟩,[(11,11),(0,0),(2,2),(8,8),(7,7),(9,9),(3,3),(4,4),(12,12),(1,1),(14,14)],[],[]⟩;.cut (((.le (.v 4) x1_),.false)::f2_) 3 i_ [] (shT qNxt0_T3 i_)),
  (.bad (((.lt (.v 41) (.v 1)),.false)::f1_)),
  (.fin (((.lt (.v 41) x3_),.false)::f0_) 0 ⟨⟨[],[]⟩,[],[],[]⟩ [(.ei (.ap 62 (.v 0) (.v 1) (.v 4) (.c 0) (.c 0) (.c 0)) (.ap 3 x0_ (.v 34) (.c 5) (.c 0) (.c 0) (.c 0))),(.fa (.lt (.ap 62 (.v 0) (.v 1) (.v 4) (.c 0) (.c 0) (.c 0)) (.v 1)) .true)] [])]
def qNxt0_run (T:Tm):=(ex (ccOf Try.prog BF [58,84] qNxt0) ((fun cc=>[qOrd.ent cc,wFits.ent cc]) (ccOf Try.prog BF [58,84] qNxt0)) (dw (ccOf Try.prog BF [58,84] qNxt0) ((fun cc=>[qOrd.ent cc,wFits.ent cc]) (ccOf Try.prog BF [58,84] qNxt0)) 1000 4) (stopX [135,84,119,29]) 4000 T.f T.fs T.H).lfs (ccOf Try.prog BF [58,84] qNxt0) ((tm0 qNxt0 Try.f66 (Try.f66.body.getD .skip))::[qNxt0_T1,qNxt0_T2,qNxt0_T3]) qNxt0.os
theorem qNxt0_h0:qNxt0_run (tm0 qNxt0 Try.f66 (Try.f66.body.getD .skip))=some qNxt0_L0:=by kernel_rfl
theorem qNxt0_h1:qNxt0_run qNxt0_T1=some qNxt0_L1:=by kernel_rfl
theorem qNxt0_h2:qNxt0_run qNxt0_T2=some qNxt0_L2:=by kernel_rfl
theorem qNxt0_h3:qNxt0_run qNxt0_T3=some qNxt0_L3:=by kernel_rfl
def qNxt0_inv:(Nat→Int)→(Nat→Bool)→Nat→(Nat→Int)→(Nat→Bool)→Prop:=fun iv0 _ k iv _=>match k with
 | 0=>True
 | 1=>0≤iv 34∧iv 34≤iv0 1∧noN (iv0 0) (iv0 1) (iv0 4) 0 0 (iv 34)
 | 2=>¬ 0≤nxtW (iv0 0) (iv0 1) (iv0 4) 0 0
 | _=>0≤iv 34∧iv 34 < iv0 1∧noN (iv0 0) (iv0 1) (iv0 4) 0 0 (iv 34)∧0≤iv 41∧iv 41≤fl (srtW (iv0 0) (iv0 1) (iv0 4)) (iv 34).toNat 5∧pasA (iv0 0) (iv0 4) (fl (srtW (iv0 0) (iv0 1) (iv0 4)) (iv 34).toNat 2) (iv 41)
def qNxt0_mu:(Nat→Int)→(Nat→Bool)→Nat→(Nat→Int)→(Nat→Bool)→Nat:=fun iv0 _ k iv _=>match k with | 0=>2 ^ 90 | 1=>(iv0 1 - iv 34).toNat * 2 ^ 40+2 ^ 30 | 2=>0 | _=>(iv0 1 - iv 34).toNat * 2 ^ 40+(1000 - iv 41).toNat
theorem qNxt0_b {iv0:Nat→Int} (hin:InB qNxt0.B iv0):(0≤iv0 1∧iv0 1≤1000)∧0≤iv0 2∧((-9223372036854775808)≤iv0 4∧iv0 4≤9223372036854775807):=by
 have b1:=hin 1 0 1000 (by simp [qNxt0,bW,gW,fM,lW,ap3,pb3,pb4,ints,mayV,i64s,i64b,kW,two,b2,lmap,lapp,bFo,cap64,fnO,ap60,ap61,oNo,oOrd,kU,lH,gH,bH,fH,nxtH,nxt0,oNxt])
 simp only [Int.reduceLE,reduceIte,Int.reduceNeg] at b1
 have b2:=hin 2 0 (-1) (by simp [qNxt0,bW,gW,fM,lW,ap3,pb3,pb4,ints,mayV,i64s,i64b,kW,two,b2,lmap,lapp,bFo,cap64,fnO,ap60,ap61,oNo,oOrd,kU,lH,gH,bH,fH,nxtH,nxt0,oNxt])
 simp only [Int.reduceLE,reduceIte,Int.reduceNeg] at b2
 have b4:=hin 4 (-9223372036854775808) 9223372036854775807 (by simp [qNxt0,bW,gW,fM,lW,ap3,pb3,pb4,ints,mayV,i64s,i64b,kW,two,b2,lmap,lapp,bFo,cap64,fnO,ap60,ap61,oNo,oOrd,kU,lH,gH,bH,fH,nxtH,nxt0,oNxt])
 simp only [Int.reduceLE,reduceIte,Int.reduceNeg] at b4
 exact ⟨b1,b2.1,b4⟩
def qNxt0_ob (k:Nat) (l:List Lf):Prop:=∀ (kv:Kv) (iv0:Nat→Int) (bv0:Nat→Bool),InB qNxt0.B iv0→FT (sta FI FB kv iv0 bv0) (dlt dyn0) qNxt0.F→∀ (iv:Nat→Int) (bv:Nat→Bool),Agr 5 iv0 bv0 iv bv→qNxt0_inv iv0 bv0 k iv bv→∀ lf∈l,LfT (sta FI FB kv) qNxt0.os (qNxt0_inv iv0 bv0) (qNxt0_mu iv0 bv0) k iv bv lf
theorem qNxt0_o0:qNxt0_ob 0 qNxt0_L0:=by
 intro kv iv0 bv0 hin hF iv bv ha hi
 unfold qNxt0_L0
 refine List.forall_mem_cons.2 ⟨?_,List.forall_mem_cons.2 ⟨?_,List.forall_mem_cons.2 ⟨?_,List.forall_mem_cons.2 ⟨?_,List.forall_mem_cons.2 ⟨?_,List.forall_mem_nil _⟩⟩⟩⟩⟩
 all_goals
  intro δ hf
 all_goals
  obtain ⟨b1,b2,b4⟩:=qNxt0_b hin
 all_goals
  have a0:=ha.1 0 (by omega)
  have a1:=ha.1 1 (by omega)
  have a2:=ha.1 2 (by omega)
  have a3:=ha.1 3 (by omega)
  have a4:=ha.1 4 (by omega)
 all_goals
  simp only [FT,TP,SB.tp,SI.tv,sta,IB.eval,and_true,true_and,ObsT,Ob.Tv,rowT,kix,In.tiv,↓tbvT,In.tbv,get_cons,get_nil,reduceIte,Nat.reduceEqDiff,Int.reduceToNat,Int.reduceAdd,Int.reduceSub,Int.reduceLE,Int.reduceLT,Int.reduceEq,ne_eq,Bool.false_eq_true,not_true_eq_false,not_false_eq_true,true_iff,false_iff,iff_true,iff_false,false_implies,implies_true,decT,decide_true,decide_false,Bool.decide_eq_true,ap2,pb2,FI_3,FI_8,FI_9,FI_10,FB_10,FI_30,FB_30,FI_3g,FI_8m,Int.toNat_natCast,Int.toNat_zero,FI_60,FI_62,qNxt0_inv,qNxt0_mu,qNxt0,o1,othT,bW,gW,fM,lW,ap3,pb3,pb4,ints,mayV,i64s,i64b,kW,two,b2,lmap,lapp,bFo,cap64,fnO,ap60,ap61,oNo,oOrd,kU,lH,gH,bH,fH,nxtH,nxt0,oNxt,a0,a1,a2,a3,a4] at hf hi ⊢
 all_goals
  (repeat' (with_reducible apply And.intro))<;>first
  | omega
  | assumption
  | (unfold inM;omega)
  | (exact noN_0)
  | (refine nxt_none ?_;first | (left;exact hf.1) | (right;left;exact hf.1) | (right;right;left;exact hf.1) | (right;right;right;right;intro j hj;omega))
  | (clear hin hF ha;grind)
theorem qNxt0_o1:qNxt0_ob 1 qNxt0_L1:=by
 intro kv iv0 bv0 hin hF iv bv ha hi
 unfold qNxt0_L1
 refine List.forall_mem_cons.2 ⟨?_,List.forall_mem_cons.2 ⟨?_,List.forall_mem_cons.2 ⟨?_,List.forall_mem_cons.2 ⟨?_,List.forall_mem_nil _⟩⟩⟩⟩
 all_goals
  intro δ hf
 all_goals
  obtain ⟨b1,b2,b4⟩:=qNxt0_b hin
 all_goals
  have a0:=ha.1 0 (by omega)
  have a1:=ha.1 1 (by omega)
  have a2:=ha.1 2 (by omega)
  have a3:=ha.1 3 (by omega)
  have a4:=ha.1 4 (by omega)
 all_goals
  simp only [FT,TP,SB.tp,SI.tv,sta,IB.eval,and_true,true_and,ObsT,Ob.Tv,rowT,kix,In.tiv,↓tbvT,In.tbv,get_cons,get_nil,reduceIte,Nat.reduceEqDiff,Int.reduceToNat,Int.reduceAdd,Int.reduceSub,Int.reduceLE,Int.reduceLT,Int.reduceEq,ne_eq,Bool.false_eq_true,not_true_eq_false,not_false_eq_true,true_iff,false_iff,iff_true,iff_false,false_implies,implies_true,decT,decide_true,decide_false,Bool.decide_eq_true,ap2,pb2,FI_3,FI_8,FI_9,FI_10,FB_10,FI_30,FB_30,FI_3g,FI_8m,Int.toNat_natCast,Int.toNat_zero,FI_60,FI_62,qNxt0_inv,qNxt0_mu,qNxt0,o1,othT,bW,gW,fM,lW,ap3,pb3,pb4,ints,mayV,i64s,i64b,kW,two,b2,lmap,lapp,bFo,cap64,fnO,ap60,ap61,oNo,oOrd,kU,lH,gH,bH,fH,nxtH,nxt0,oNxt,a0,a1,a2,a3,a4] at hf hi ⊢
 all_goals
  obtain ⟨g0,g1,g3⟩:=hi
 all_goals
  have w9:=fun hh hn=>srt_at (c:=iv0 0) (n:=iv0 1) (lim:=iv0 4) hn (k:=(iv 34).toNat) hh
 all_goals
  (repeat' (with_reducible apply And.intro))<;>first
  | omega
  | assumption
  | (unfold inM;omega)
  | (exact pasA_0)
  | (intro _ h;refine absurd h (nxt_none ?_);right;right;right;right;have e9:iv 34=iv0 1:=(by omega);rw [e9] at g3;exact g3)
  | (obtain ⟨z0,z1,z2⟩:=w9 (by omega) (by omega);omega)
  | (clear hin hF ha;grind)
theorem qNxt0_o2:qNxt0_ob 2 qNxt0_L2:=by
 intro kv iv0 bv0 hin hF iv bv ha hi
 unfold qNxt0_L2
 refine List.forall_mem_cons.2 ⟨?_,List.forall_mem_nil _⟩
 all_goals
  intro δ hf
 all_goals
  obtain ⟨b1,b2,b4⟩:=qNxt0_b hin
 all_goals
  have a0:=ha.1 0 (by omega)
  have a1:=ha.1 1 (by omega)
  have a2:=ha.1 2 (by omega)
  have a3:=ha.1 3 (by omega)
  have a4:=ha.1 4 (by omega)
 all_goals
  simp only [FT,TP,SB.tp,SI.tv,sta,IB.eval,and_true,true_and,ObsT,Ob.Tv,rowT,kix,In.tiv,↓tbvT,In.tbv,get_cons,get_nil,reduceIte,Nat.reduceEqDiff,Int.reduceToNat,Int.reduceAdd,Int.reduceSub,Int.reduceLE,Int.reduceLT,Int.reduceEq,ne_eq,Bool.false_eq_true,not_true_eq_false,not_false_eq_true,true_iff,false_iff,iff_true,iff_false,false_implies,implies_true,decT,decide_true,decide_false,Bool.decide_eq_true,ap2,pb2,FI_3,FI_8,FI_9,FI_10,FB_10,FI_30,FB_30,FI_3g,FI_8m,Int.toNat_natCast,Int.toNat_zero,FI_60,FI_62,qNxt0_inv,qNxt0_mu,qNxt0,o1,othT,bW,gW,fM,lW,ap3,pb3,pb4,ints,mayV,i64s,i64b,kW,two,b2,lmap,lapp,bFo,cap64,fnO,ap60,ap61,oNo,oOrd,kU,lH,gH,bH,fH,nxtH,nxt0,oNxt,a0,a1,a2,a3,a4] at hf hi ⊢
 all_goals
  (repeat' (with_reducible apply And.intro))<;>first
  | omega
  | assumption
  | (unfold inM;omega)
  | (clear hin hF ha;grind)
theorem qNxt0_o3:qNxt0_ob 3 qNxt0_L3:=by
 intro kv iv0 bv0 hin hF iv bv ha hi
 unfold qNxt0_L3
 refine List.forall_mem_cons.2 ⟨?_,List.forall_mem_cons.2 ⟨?_,List.forall_mem_cons.2 ⟨?_,List.forall_mem_cons.2 ⟨?_,List.forall_mem_cons.2 ⟨?_,List.forall_mem_nil _⟩⟩⟩⟩⟩
 all_goals
  intro δ hf
 all_goals
  obtain ⟨b1,b2,b4⟩:=qNxt0_b hin
 all_goals
  have a0:=ha.1 0 (by omega)
  have a1:=ha.1 1 (by omega)
  have a2:=ha.1 2 (by omega)
  have a3:=ha.1 3 (by omega)
  have a4:=ha.1 4 (by omega)
 all_goals
  simp only [FT,TP,SB.tp,SI.tv,sta,IB.eval,and_true,true_and,ObsT,Ob.Tv,rowT,kix,In.tiv,↓tbvT,In.tbv,get_cons,get_nil,reduceIte,Nat.reduceEqDiff,Int.reduceToNat,Int.reduceAdd,Int.reduceSub,Int.reduceLE,Int.reduceLT,Int.reduceEq,ne_eq,Bool.false_eq_true,not_true_eq_false,not_false_eq_true,true_iff,false_iff,iff_true,iff_false,false_implies,implies_true,decT,decide_true,decide_false,Bool.decide_eq_true,ap2,pb2,FI_3,FI_8,FI_9,FI_10,FB_10,FI_30,FB_30,FI_3g,FI_8m,Int.toNat_natCast,Int.toNat_zero,FI_60,FI_62,qNxt0_inv,qNxt0_mu,qNxt0,o1,othT,bW,gW,fM,lW,ap3,pb3,pb4,ints,mayV,i64s,i64b,kW,two,b2,lmap,lapp,bFo,cap64,fnO,ap60,ap61,oNo,oOrd,kU,lH,gH,bH,fH,nxtH,nxt0,oNxt,a0,a1,a2,a3,a4] at hf hi ⊢
 all_goals
  obtain ⟨g0,g1,g3,g4,g5,g7⟩:=hi
 all_goals
  have hR:rgtW (iv0 0) (iv0 1):=by first | assumption | exact hf.1 | exact hf.2.1 | exact hf.2.2.1 | exact hf.2.2.2.1 | exact hf.2.2.2.2.1 | exact hf.2.2.2.2.2.1 | exact hf.2.2.2.2.2.2.1 | exact hf.2.2.2.2.2.2.2.1 | exact hf.2.2.2.2.2.2.2.2.1 | exact hf.2.2.2.2.2.2.2.2.2.1 | exact hf.2.2.2.2.2.2.2.2.2.2.1 | exact hf.2.2.2.2.2.2.2.2.2.2.2.1 | exact hf.2.2.2.2.2.2.2.2.2.2.2.2.1 | exact hf.2.2.2.2.2.2.2.2.2.2.2.2.2.1
 all_goals
  have hRn:=hR.1
 all_goals
  obtain ⟨w0,w1,w2⟩:=srt_at (c:=iv0 0) (n:=iv0 1) (lim:=iv0 4) (by omega) (k:=(iv 34).toNat) (by omega)
 all_goals
  have w22:=w2 2 (by omega)
 all_goals
  have w3:=rgt_mode hR w0 w1
 all_goals
  rw [← w22] at w3
 all_goals
  have g8:=fun hj=>rgt_mode hR (j:=iv 41) g4 hj
 all_goals
  have gN:iv 41=fl (srtW (iv0 0) (iv0 1) (iv0 4)) (iv 34).toNat 5→nxtW (iv0 0) (iv0 1) (iv0 4) 0 0=fl (srtW (iv0 0) (iv0 1) (iv0 4)) (iv 34).toNat 5:=fun e=>nxt_some hR (by omega) (by omega) allM_0 g0 g1 g3 (may_of w22 fitA_0 (by rw [← e];exact g7))
 all_goals
  (repeat' (with_reducible apply And.intro))<;>first
  | omega
  | assumption
  | (unfold inM;omega)
  | (exact gN (by omega))
  | (rw [gN (by omega)];exact w1)
  | (rw [gN (by omega)];intro _ h;exact h w0)
  | (exact pasA_succ g7 g4 (by clear hin hF ha;grind))
  | (exact noN_succ g3 g0 (may_nopas w22 g4 (by omega) (by omega) (by clear hin hF ha;grind)))
  | (clear hin hF ha;grind)
theorem qNxt0_c:LsC ((tm0 qNxt0 Try.f66 (Try.f66.body.getD .skip))::[qNxt0_T1,qNxt0_T2,qNxt0_T3]) qNxt0.os [qNxt0_L0,qNxt0_L1,qNxt0_L2,qNxt0_L3]:=by
 unfold qNxt0_L0 qNxt0_L1 qNxt0_L2 qNxt0_L3
 exact ⟨List.forall_mem_cons.2 ⟨⟨⟨_,rfl,rfl⟩,by kernel_rfl⟩,List.forall_mem_cons.2 ⟨⟨⟨_,rfl,rfl⟩,by kernel_rfl⟩,List.forall_mem_cons.2 ⟨⟨⟨_,rfl,rfl⟩,by kernel_rfl⟩,List.forall_mem_cons.2 ⟨⟨⟨_,rfl,rfl⟩,by kernel_rfl⟩,List.forall_mem_cons.2 ⟨⟨⟨_,rfl,rfl⟩,by kernel_rfl⟩,List.forall_mem_nil _⟩⟩⟩⟩⟩,List.forall_mem_cons.2 ⟨⟨⟨_,rfl,rfl⟩,by kernel_rfl⟩,List.forall_mem_cons.2 ⟨trivial,List.forall_mem_cons.2 ⟨trivial,List.forall_mem_cons.2 ⟨⟨⟨_,rfl,rfl⟩,by kernel_rfl⟩,List.forall_mem_nil _⟩⟩⟩⟩,List.forall_mem_cons.2 ⟨⟨⟨_,rfl,rfl⟩,by kernel_rfl⟩,List.forall_mem_nil _⟩,List.forall_mem_cons.2 ⟨⟨⟨_,rfl,rfl⟩,by kernel_rfl⟩,List.forall_mem_cons.2 ⟨⟨⟨_,rfl,rfl⟩,by kernel_rfl⟩,List.forall_mem_cons.2 ⟨⟨⟨_,rfl,rfl⟩,by kernel_rfl⟩,List.forall_mem_cons.2 ⟨trivial,List.forall_mem_cons.2 ⟨⟨⟨_,rfl,rfl⟩,by kernel_rfl⟩,List.forall_mem_nil _⟩⟩⟩⟩⟩,trivial⟩
theorem qNxt0_ok:qNxt0.Ok Try.prog FI FB:=
 Con.of_plain (body:=Try.f66.body.getD .skip) pok fiok (EntsFor.cons qOrd_ok (EntsFor.cons wFits_ok EntsFor.nil)) qNxt0 Try.func66 (by kernel_rfl) 5 [qNxt0_T1,qNxt0_T2,qNxt0_T3] (by kernel_rfl) [qNxt0_L0,qNxt0_L1,qNxt0_L2,qNxt0_L3] ⟨qNxt0_h0,qNxt0_h1,qNxt0_h2,qNxt0_h3,trivial⟩ qNxt0_c
  qNxt0_inv qNxt0_mu (fun _ _ _=>trivial) fun kv iv0 bv0 hin hF k l iv bv hk ha hi=>match k,hk,hi with
  | 0,hk,hi=>by
    cases hk
    exact qNxt0_o0 kv iv0 bv0 hin hF iv bv ha hi
  | 1,hk,hi=>by
    cases hk
    exact qNxt0_o1 kv iv0 bv0 hin hF iv bv ha hi
  | 2,hk,hi=>by
    cases hk
    exact qNxt0_o2 kv iv0 bv0 hin hF iv bv ha hi
  | 3,hk,hi=>by
    cases hk
    exact qNxt0_o3 kv iv0 bv0 hin hF iv bv ha hi
  | k+4,hk,_=>by simp at hk
end
end Go.Sx.Mhw
