/- The pool: To, by contract. -/
import Derived.Test.YtbcbpicfnfkdeaaPkT
import Derived.Test.YtbcbpicfnfkdeaaPkXa
namespace Go.Sx.Pk
set_option linter.unusedVariables false
set_option linter.unusedSimpArgs false
set_option maxRecDepth 100000
set_option maxHeartbeats 0
noncomputable section
open Go Go.Sx Go.Proofs
def toF (n:SI):SB×Bool:=((.ap 25 (.d 0) (.v 0) n (.v 4) (.c 0) (.c 0)),true)
def cTo:Com:=⟨22,[0,1,2,3,4],[ppV,.it .i64 (.v 4)],plO,2,i64b 4::bT,fO,[⟨[(.eq (.ap 24 (.v 0) (.v 1) (.v 4) (.c 0) (.c 0) (.c 0)) (.c 0),true)],.sn,plO,2,0,[]⟩,⟨[(.eq (.ap 24 (.v 0) (.v 1) (.v 4) (.c 0) (.c 0) (.c 0)) (.c 0),false)],.fs 1 (.d 0),plO,2,1,[toF (.v 1),(.le (.c 0) (.d 0),true)]⟩],.c 0,[29,3]⟩
def cTo_T1:Tm:=⟨⟨40,19,[(7,(.it .i64 (.c 0))),(6,(.it .i64 (.c 0))),(5,.sn),(0,(.yl 6))],[(.code (atC Try.f40 [0,1,1,0,0])),(.inLoop (atC Try.f40 [0,1,1,0,0])),(.inBlock 0),(.inScope (atC Try.f40 [0]))],[],.none⟩,[⟨22,20,[(7,(.pt (.n 0) (.c 0))),(4,(.pt (.n 3) (.c 0))),(0,(.pt (.n 0) (.c 0)))],[(.inRangeFunc 6),(.inBlock 0),(.code (atC Try.f22 [1,1]))],[5],.none⟩],
    ⟨[(0,(.cells [(.sl (.n 1) (.c 0) (.v 1) (.v 2)),(.it .i64 (.v 3))] 59)),(1,(.arr [(.nt .i64),(.nt .i64),(.fs 0)] (.v 0) (.v 1) 29 (.v 2))),(2,(.cells [(.it .i64 (.v 4))] 3)),(3,(.cells [.sn] 37)),(5,.dfr),(6,(.loop .ready .none 22 20 [(7,(.pt (.n 0) (.c 0))),(4,(.pt (.n 3) (.c 0))),(3,(.pt (.n 2) (.c 0))),(0,(.pt (.n 0) (.c 0)))] #[9,10] (atC Try.f22 [1,0,1,0,0]) (atC Try.f22 [1,0,1,0,1]) 5))],7,0,0,[((.eq (.v 1) (.c 0)),.true),((.ap 26 (.v 0) (.v 1) (.c 0) (.c 0) (.c 0) (.c 0)),.true),((.le (.v 1) (.v 2)),.true),((.le (.v 1) (.c 4096)),.true)],[0],[(1,(0,0)),(1,(0,4096)),(2,(0,(-1))),(1,(0,4096)),(4,((-9223372036854775808),9223372036854775807)),(1,(0,(-1))),(2,(0,(-1))),(3,(1,64))]⟩,[]⟩
def cTo_T2:Tm:=⟨⟨40,19,[(7,(.it .i64 (.v 30))),(6,(.it .i64 (.v 1))),(5,(.sl (.n 5) (.c 0) (.v 1) (.v 25))),(0,(.yl 7))],[(.code (atC Try.f40 [0,1,1,0,0])),(.inLoop (atC Try.f40 [0,1,1,0,0])),(.inBlock 0),(.inScope (atC Try.f40 [0]))],[],.none⟩,[⟨22,20,[(7,(.pt (.n 0) (.c 0))),(4,(.pt (.n 3) (.c 0))),(0,(.pt (.n 0) (.c 0)))],[(.inRangeFunc 7),(.inBlock 0),(.code (atC Try.f22 [1,1]))],[6],.none⟩],
    ⟨[(0,(.cells [(.sl (.n 1) (.c 0) (.v 1) (.v 2)),(.it .i64 (.v 3))] 59)),(1,(.arr [(.nt .i64),(.nt .i64),(.fs 0)] (.v 0) (.v 1) 29 (.v 2))),(2,(.cells [(.it .i64 (.v 4))] 3)),(3,(.cells [.sn] 37)),(5,(.arr [(.nt .i64),(.nt .i64),(.fs 0)] (.ap 23 (.v 0) (.v 1) (.c 0) (.c 0) (.c 0) (.c 0)) (.v 1) 29 (.v 25))),(6,.dfr),(7,(.loop .ready .none 22 20 [(7,(.pt (.n 0) (.c 0))),(4,(.pt (.n 3) (.c 0))),(3,(.pt (.n 2) (.c 0))),(0,(.pt (.n 0) (.c 0)))] #[9,10] (atC Try.f22 [1,0,1,0,0]) (atC Try.f22 [1,0,1,0,1]) 6))],8,0,0,[((.eq (.v 1) (.c 0)),.false),((.ap 26 (.v 0) (.v 1) (.c 0) (.c 0) (.c 0) (.c 0)),.true),((.le (.v 1) (.c 4096)),.true),((.le (.v 1) (.v 2)),.true),((.le (.v 1) (.v 25)),.true)],[0],[(25,(0,(-1))),(1,(1,4096)),(2,(0,(-1))),(4,((-9223372036854775808),9223372036854775807)),(3,(1,64)),(30,(0,(-1)))]⟩,[30,25]⟩
def cTo_T3:Tm:=⟨⟨40,19,[(7,(.it .i64 (.v 43))),(6,(.it .i64 (.v 1))),(5,(.sl (.n 5) (.c 0) (.v 1) (.v 25))),(0,(.yl 7))],[(.code (atC Try.f40 [0,1,1,0,0])),(.inLoop (atC Try.f40 [0,1,1,0,0])),(.inBlock 0),(.inScope (atC Try.f40 [0]))],[],.none⟩,[⟨22,20,[(7,(.pt (.n 0) (.c 0))),(4,(.pt (.n 3) (.c 0))),(0,(.pt (.n 0) (.c 0)))],[(.inRangeFunc 7),(.inBlock 0),(.code (atC Try.f22 [1,1]))],[6],.none⟩],
    ⟨[(0,(.cells [(.sl (.n 1) (.c 0) (.v 1) (.v 2)),(.it .i64 (.v 3))] 59)),(1,(.arr [(.nt .i64),(.nt .i64),(.fs 0)] (.v 0) (.v 1) 29 (.v 2))),(2,(.cells [(.it .i64 (.v 4))] 3)),(3,(.cells [(.sl (.n 11) (.c 0) (.v 34) (.v 35))] 37)),(5,(.arr [(.nt .i64),(.nt .i64),(.fs 0)] (.ap 23 (.v 0) (.v 1) (.c 0) (.c 0) (.c 0) (.c 0)) (.v 1) 29 (.v 25))),(6,.dfr),(7,(.loop .ready .none 22 20 [(7,(.pt (.n 0) (.c 0))),(4,(.pt (.n 3) (.c 0))),(3,(.pt (.n 2) (.c 0))),(0,(.pt (.n 0) (.c 0)))] #[9,10] (atC Try.f22 [1,0,1,0,0]) (atC Try.f22 [1,0,1,0,1]) 6)),(11,(.arr [(.nt .i64)] (.v 33) (.v 34) 3 (.v 35)))],12,0,0,[((.eq (.ap 3 (.ap 23 (.v 0) (.v 1) (.c 0) (.c 0) (.c 0) (.c 0)) (.v 30) (.c 1) (.c 0) (.c 0) (.c 0)) (.v 4)),.true),((.le (.ap 200 (.ap 8 (.ap 23 (.v 0) (.v 1) (.c 0) (.c 0) (.c 0) (.c 0)) (.v 30) (.c 2) (.c 0) (.c 10) (.c 0)) (.c 0) (.c 0) (.c 0) (.c 0) (.c 0)) (.c 65536)),.true),((.lt (.v 30) (.v 1)),.true),((.eq (.v 1) (.c 0)),.false),((.ap 26 (.v 0) (.v 1) (.c 0) (.c 0) (.c 0) (.c 0)),.true),((.le (.v 1) (.c 4096)),.true),((.le (.v 1) (.v 2)),.true),((.le (.v 1) (.v 25)),.true),((.le (.v 34) (.v 35)),.true)],[0],[(43,((-9223372036854775808),9223372036854775807)),(34,(0,(-1))),(35,(0,(-1))),(1,(1,4096)),(25,(0,(-1))),(2,(0,(-1))),(4,((-9223372036854775808),9223372036854775807)),(3,(1,64))]⟩,[43,35,33,34]⟩
def cTo_L0:List Lf:=
 let f0_:List (SB×Bool):=[((.ap 26 (.v 0) (.v 1) (.c 0) (.c 0) (.c 0) (.c 0)),.true),((.le (.v 1) (.v 2)),.true),((.le (.v 1) (.c 4096)),.true)]
 [(let i_:In:=⟨⟨[],[]⟩,[(2,2),(1,1),(5,5),(3,3),(0,0),(6,6)],[],[]⟩;.cut (((.eq (.v 1) (.c 0)),.true)::f0_) 1 i_ [] (shT cTo_T1 i_)),
  (let i_:In:=⟨⟨[(25,(.d 0)),(30,(.c 0))],[]⟩,[(2,2),(1,1),(6,6),(3,3),(0,0),(7,7),(5,5)],[],[]⟩;.cut (((.le (.v 1) (.d 0)),.true)::((.eq (.v 1) (.c 0)),.false)::f0_) 2 i_ [] (shT cTo_T2 i_))]
def cTo_L1:List Lf:=
 [(.fin ([((.eq (.v 1) (.c 0)),.true),((.ap 26 (.v 0) (.v 1) (.c 0) (.c 0) (.c 0) (.c 0)),.true),((.le (.v 1) (.v 2)),.true),((.le (.v 1) (.c 4096)),.true)]) 0 ⟨⟨[],[]⟩,[(1,1),(0,0)],[],[]⟩ [] [.none,.none])]
def cTo_L2:List Lf:=
 let x0_:SI:=(.ap 23 (.v 0) (.v 1) (.c 0) (.c 0) (.c 0) (.c 0))
 let x1_:SI:=(.ap 3 x0_ (.v 30) (.c 1) (.c 0) (.c 0) (.c 0))
 let x2_:SI:=(.ap 200 (.ap 8 x0_ (.v 30) (.c 2) (.c 0) (.c 10) (.c 0)) (.c 0) (.c 0) (.c 0) (.c 0) (.c 0))
 let f0_:List (SB×Bool):=[((.eq (.v 1) (.c 0)),.false),((.ap 26 (.v 0) (.v 1) (.c 0) (.c 0) (.c 0) (.c 0)),.true),((.le (.v 1) (.c 4096)),.true),((.le (.v 1) (.v 2)),.true),((.le (.v 1) (.v 25)),.true)]
 let f1_:List (SB×Bool):=((.lt (.v 30) (.v 1)),.true)::f0_
 let f2_:List (SB×Bool):=((.le x2_ (.c 65536)),.true)::f1_
 [(let i_:In:=⟨⟨[(33,(.ap 8 (.c 0) (.c 0) (.c 0) (.v 30) (.c 0) (.c 0))),(35,(.d 0)),(34,(.c 1)),(43,(.op .add (.v 30) (.c 1)))],[]⟩,[(2,2),(11,11),(1,1),(6,6),(3,3),(0,0),(7,7),(5,5)],[],[]⟩;.cut (((.le (.c 1) (.d 0)),.true)::((.eq x1_ (.v 4)),.true)::f2_) 3 i_ [(.ei (.ap 3 (.ap 8 (.c 0) (.c 0) (.c 0) (.v 30) (.c 0) (.c 0)) (.c 0) (.c 0) (.c 0) (.c 0) (.c 0)) (.v 30)),(.fa (.le (.c 1) (.c 1)) .true),(.fa (.le (.c 1) (.d 0)) .true)] (shT cTo_T3 i_)),
  (let i_:In:=⟨⟨[(25,(.v 25)),(30,(.op .add (.v 30) (.c 1)))],[]⟩,[(2,2),(1,1),(6,6),(3,3),(0,0),(7,7),(5,5)],[],[]⟩;.cut (((.eq x1_ (.v 4)),.false)::f2_) 2 i_ [] (shT cTo_T2 i_)),
  (.bad (((.le x2_ (.c 65536)),.false)::f1_)),
  (.fin (((.lt (.v 30) (.v 1)),.false)::f0_) 0 ⟨⟨[],[]⟩,[(1,1),(0,0)],[],[]⟩ [] [.none,.none])]
def cTo_L3:List Lf:=
 let x0_:SI:=(.ap 23 (.v 0) (.v 1) (.c 0) (.c 0) (.c 0) (.c 0))
 let x1_:SI:=(.ap 8 (.v 33) (.v 34) (.c 0) (.c 0) (.c 11) (.c 0))
 let x2_:SI:=(.ap 3 x0_ (.v 43) (.c 1) (.c 0) (.c 0) (.c 0))
 let x3_:SI:=(.ap 200 (.ap 8 x0_ (.v 43) (.c 2) (.c 0) (.c 10) (.c 0)) (.c 0) (.c 0) (.c 0) (.c 0) (.c 0))
 let f0_:List (SB×Bool):=[((.eq (.ap 3 x0_ (.v 30) (.c 1) (.c 0) (.c 0) (.c 0)) (.v 4)),.true),((.le (.ap 200 (.ap 8 x0_ (.v 30) (.c 2) (.c 0) (.c 10) (.c 0)) (.c 0) (.c 0) (.c 0) (.c 0) (.c 0)) (.c 65536)),.true),((.lt (.v 30) (.v 1)),.true),((.eq (.v 1) (.c 0)),.false),((.ap 26 (.v 0) (.v 1) (.c 0) (.c 0) (.c 0) (.c 0)),.true),((.le (.v 1) (.c 4096)),.true),((.le (.v 1) (.v 2)),.true),((.le (.v 1) (.v 25)),.true),((.le (.v 34) (.v 35)),.true)]
 let f1_:List (SB×Bool):=((.lt (.v 43) (.v 1)),.true)::f0_
 let f2_:List (SB×Bool):=((.le (.c 0) (.v 43)),.true)::f1_
 let f3_:List (SB×Bool):=((.le x3_ (.c 65536)),.true)::f2_
 let f4_:List (SB×Bool):=((.eq x2_ (.v 4)),.true)::f3_
 [(let i_:In:=⟨⟨[(33,(.ap 8 (.v 33) (.v 34) (.c 0) (.v 43) (.c 0) (.c 0))),(35,(.d 0)),(34,(.op .add (.v 34) (.c 1))),(43,(.op .add (.v 43) (.c 1)))],[]⟩,[(2,2),(11,15),(1,1),(6,6),(3,3),(0,0),(7,7),(5,5)],[],[]⟩;.cut (((.le (.op .add (.v 34) (.c 1)) (.d 0)),.true)::((.le (.op .add (.v 34) (.c 1)) (.c 16777216)),.true)::f4_) 3 i_ [] (shT cTo_T3 i_)),
  (.bad (((.le (.op .add (.v 34) (.c 1)) (.c 16777216)),.false)::f4_)),
  (let i_:In:=⟨⟨[(33,(.v 33)),(35,(.v 35)),(34,(.v 34)),(43,(.op .add (.v 43) (.c 1)))],[]⟩,[(2,2),(11,11),(1,1),(6,6),(3,3),(0,0),(7,7),(5,5)],[],[]⟩;.cut (((.eq x2_ (.v 4)),.false)::f3_) 3 i_ [] (shT cTo_T3 i_)),
  (.bad (((.le x3_ (.c 65536)),.false)::f2_)),
  (.bad (((.le (.c 0) (.v 43)),.false)::f1_)),
  (.fin (((.lt (.v 43) (.v 1)),.false)::f0_) 1 ⟨⟨[],[]⟩,[(1,1),(0,0)],[(0,(.ap 8 (.v 33) (.v 34) (.c 0) (.c 0) (.c 11) (.c 0)))],[]⟩ [(.fa (.ap 25 x1_ (.v 0) (.v 1) (.v 4) (.c 0) (.c 0)) .true),(.fa (.le (.c 0) x1_) .true)] [.none,.none])]
def cTo_run (T:Tm):=(ex (ccM Try.prog BF [] cTo.ow) ((fun cc=>[cOwn.entH cc,cEach.ent cc]) (ccM Try.prog BF [] cTo.ow)) (dw (ccM Try.prog BF [] cTo.ow) ((fun cc=>[cOwn.entH cc,cEach.ent cc]) (ccM Try.prog BF [] cTo.ow)) 1000 4) (stopX []) 20000 T.f T.fs T.H).lfsM 2 (ccM Try.prog BF [] cTo.ow) ((tmM cTo Try.f22 (Try.f22.body.getD .skip))::[cTo_T1,cTo_T2,cTo_T3]) cTo.os
theorem cTo_h0:cTo_run (tmM cTo Try.f22 (Try.f22.body.getD .skip))=some cTo_L0:=by kernel_rfl
theorem cTo_h1:cTo_run cTo_T1=some cTo_L1:=by kernel_rfl
theorem cTo_h2:cTo_run cTo_T2=some cTo_L2:=by kernel_rfl
theorem cTo_h3:cTo_run cTo_T3=some cTo_L3:=by kernel_rfl
def cTo_inv:(Nat→Int)→(Nat→Bool)→Nat→(Nat→Int)→(Nat→Bool)→Prop:=fun iv0 _ k iv _=>match k with | 0=>True | 1=>True | 2=>0≤iv 30∧iv 30≤iv0 1∧cntT (iv0 0) (iv 30) (iv0 4)=0 | _=>0≤iv 43∧iv 43≤iv0 1∧iv 34=cntT (iv0 0) (iv 43) (iv0 4)∧iv 34≤iv 35∧1≤iv 34∧toP (iv 33) (iv0 0) (iv 43) (iv0 4)
def cTo_mu:(Nat→Int)→(Nat→Bool)→Nat→(Nat→Int)→(Nat→Bool)→Nat:=fun iv0 _ k iv _=>match k with | 0=>2 ^ 90 | 1=>2 ^ 80 | 2=>(6000 - iv 30).toNat | _=>(6000 - iv 43).toNat
theorem cTo_b {iv0:Nat→Int} (hin:InB cTo.B iv0):0≤iv0 1∧0≤iv0 2∧(1≤iv0 3∧iv0 3≤64)∧((-9223372036854775808)≤iv0 4∧iv0 4≤9223372036854775807):=by
 have b1:=hin 1 0 (-1) (by simp [cTo,o1,i64b,kP,pkV,flF,i64s,lmap,SI.fl,flay,flayL,wP,pk0,pkAt,mayO,i64b,lO,hO,lenB,fO,bO,plO,plN,ppV,bP,plA,arP,fT,bT,rgT,n1T,toF])
 simp only [Int.reduceLE,reduceIte,Int.reduceNeg] at b1
 have b2:=hin 2 0 (-1) (by simp [cTo,o1,i64b,kP,pkV,flF,i64s,lmap,SI.fl,flay,flayL,wP,pk0,pkAt,mayO,i64b,lO,hO,lenB,fO,bO,plO,plN,ppV,bP,plA,arP,fT,bT,rgT,n1T,toF])
 simp only [Int.reduceLE,reduceIte,Int.reduceNeg] at b2
 have b3:=hin 3 1 64 (by simp [cTo,o1,i64b,kP,pkV,flF,i64s,lmap,SI.fl,flay,flayL,wP,pk0,pkAt,mayO,i64b,lO,hO,lenB,fO,bO,plO,plN,ppV,bP,plA,arP,fT,bT,rgT,n1T,toF])
 simp only [Int.reduceLE,reduceIte,Int.reduceNeg] at b3
 have b4:=hin 4 (-9223372036854775808) 9223372036854775807 (by simp [cTo,o1,i64b,kP,pkV,flF,i64s,lmap,SI.fl,flay,flayL,wP,pk0,pkAt,mayO,i64b,lO,hO,lenB,fO,bO,plO,plN,ppV,bP,plA,arP,fT,bT,rgT,n1T,toF])
 simp only [Int.reduceLE,reduceIte,Int.reduceNeg] at b4
 exact ⟨b1.1,b2.1,b3,b4⟩
def cTo_ob (k:Nat) (l:List Lf):Prop:=∀ (kv:Kv) (iv0:Nat→Int) (bv0:Nat→Bool),InB cTo.B iv0→FT (sta FI FB kv iv0 bv0) (dlt dyn0) cTo.F→∀ (iv:Nat→Int) (bv:Nat→Bool),Agr 5 iv0 bv0 iv bv→cTo_inv iv0 bv0 k iv bv→∀ lf∈l,LfT (sta FI FB kv) cTo.os (cTo_inv iv0 bv0) (cTo_mu iv0 bv0) k iv bv lf
theorem cTo_o0:cTo_ob 0 cTo_L0:=by
 intro kv iv0 bv0 hin hF iv bv ha hi
 unfold cTo_L0
 refine List.forall_mem_cons.2 ⟨?_,List.forall_mem_cons.2 ⟨?_,List.forall_mem_nil _⟩⟩
 all_goals
  intro δ hf
 all_goals
  obtain ⟨b1,b2,b3,b4⟩:=cTo_b hin
 all_goals
  have a0:=ha.1 0 (by omega)
  have a1:=ha.1 1 (by omega)
  have a2:=ha.1 2 (by omega)
  have a3:=ha.1 3 (by omega)
  have a4:=ha.1 4 (by omega)
 all_goals
  simp only [FT,TP,SB.tp,SI.tv,sta,IB.eval,and_true,true_and,ObsT,Ob.Tv,rowT,kix,In.tiv,↓tbvT,In.tbv,get_cons,get_nil,reduceIte,Nat.reduceEqDiff,Int.reduceToNat,Int.reduceAdd,Int.reduceSub,Int.reduceLE,Int.reduceLT,Int.reduceEq,ne_eq,Bool.false_eq_true,not_true_eq_false,not_false_eq_true,true_iff,false_iff,iff_true,iff_false,false_implies,implies_true,decT,decide_true,decide_false,Bool.decide_eq_true,ap2,pb2,FI_3,FI_4,FI_8,FI_9,FI_8c,FI_8z,FI_200,FB_2,Int.toNat_natCast,Int.toNat_zero,FI_22,FI_23,FI_24,FI_25,FI_26,FB_24,FB_25,FB_26,cTo_inv,cTo_mu,cTo,o1,othT,o1,i64b,kP,pkV,flF,i64s,lmap,SI.fl,flay,flayL,wP,pk0,pkAt,mayO,i64b,lO,hO,lenB,fO,bO,plO,plN,ppV,bP,plA,arP,fT,bT,rgT,n1T,toF,a0,a1,a2,a3,a4] at hf hi ⊢
 all_goals
  have z1:=cntT_zero (iv0 0) (iv0 4)
 all_goals
  (repeat' (with_reducible apply And.intro))<;>first
  | omega
  | assumption
  | (unfold inM;omega)
  | exact trivial
  | (clear hin hF ha;grind)
theorem cTo_o1:cTo_ob 1 cTo_L1:=by
 intro kv iv0 bv0 hin hF iv bv ha hi
 unfold cTo_L1
 refine List.forall_mem_cons.2 ⟨?_,List.forall_mem_nil _⟩
 all_goals
  intro δ hf
 all_goals
  obtain ⟨b1,b2,b3,b4⟩:=cTo_b hin
 all_goals
  have a0:=ha.1 0 (by omega)
  have a1:=ha.1 1 (by omega)
  have a2:=ha.1 2 (by omega)
  have a3:=ha.1 3 (by omega)
  have a4:=ha.1 4 (by omega)
 all_goals
  simp only [FT,TP,SB.tp,SI.tv,sta,IB.eval,and_true,true_and,ObsT,Ob.Tv,rowT,kix,In.tiv,↓tbvT,In.tbv,get_cons,get_nil,reduceIte,Nat.reduceEqDiff,Int.reduceToNat,Int.reduceAdd,Int.reduceSub,Int.reduceLE,Int.reduceLT,Int.reduceEq,ne_eq,Bool.false_eq_true,not_true_eq_false,not_false_eq_true,true_iff,false_iff,iff_true,iff_false,false_implies,implies_true,decT,decide_true,decide_false,Bool.decide_eq_true,ap2,pb2,FI_3,FI_4,FI_8,FI_9,FI_8c,FI_8z,FI_200,FB_2,Int.toNat_natCast,Int.toNat_zero,FI_22,FI_23,FI_24,FI_25,FI_26,FB_24,FB_25,FB_26,cTo_inv,cTo_mu,cTo,o1,othT,o1,i64b,kP,pkV,flF,i64s,lmap,SI.fl,flay,flayL,wP,pk0,pkAt,mayO,i64b,lO,hO,lenB,fO,bO,plO,plN,ppV,bP,plA,arP,fT,bT,rgT,n1T,toF,a0,a1,a2,a3,a4] at hf hi ⊢
 all_goals
  have z1:=cntT_zero (iv0 0) (iv0 4)
 all_goals
  have z2:iv0 1=0→cntT (iv0 0) (iv0 1) (iv0 4)=0:=fun h=>by rw [h];rfl
 all_goals
  have tz:=@toR_nil (iv0 0) (iv0 1) (iv0 4)
 all_goals
  (repeat' (with_reducible apply And.intro))<;>first
  | omega
  | assumption
  | (unfold inM;omega)
  | exact trivial
  | (clear hin hF ha;grind)
theorem cTo_o2:cTo_ob 2 cTo_L2:=by
 intro kv iv0 bv0 hin hF iv bv ha hi
 unfold cTo_L2
 refine List.forall_mem_cons.2 ⟨?_,List.forall_mem_cons.2 ⟨?_,List.forall_mem_cons.2 ⟨?_,List.forall_mem_cons.2 ⟨?_,List.forall_mem_nil _⟩⟩⟩⟩
 all_goals
  intro δ hf
 all_goals
  obtain ⟨b1,b2,b3,b4⟩:=cTo_b hin
 all_goals
  have a0:=ha.1 0 (by omega)
  have a1:=ha.1 1 (by omega)
  have a2:=ha.1 2 (by omega)
  have a3:=ha.1 3 (by omega)
  have a4:=ha.1 4 (by omega)
 all_goals
  simp only [FT,TP,SB.tp,SI.tv,sta,IB.eval,and_true,true_and,ObsT,Ob.Tv,rowT,kix,In.tiv,↓tbvT,In.tbv,get_cons,get_nil,reduceIte,Nat.reduceEqDiff,Int.reduceToNat,Int.reduceAdd,Int.reduceSub,Int.reduceLE,Int.reduceLT,Int.reduceEq,ne_eq,Bool.false_eq_true,not_true_eq_false,not_false_eq_true,true_iff,false_iff,iff_true,iff_false,false_implies,implies_true,decT,decide_true,decide_false,Bool.decide_eq_true,ap2,pb2,FI_3,FI_4,FI_8,FI_9,FI_8c,FI_8z,FI_200,FB_2,Int.toNat_natCast,Int.toNat_zero,FI_22,FI_23,FI_24,FI_25,FI_26,FB_24,FB_25,FB_26,cTo_inv,cTo_mu,cTo,o1,othT,o1,i64b,kP,pkV,flF,i64s,lmap,SI.fl,flay,flayL,wP,pk0,pkAt,mayO,i64b,lO,hO,lenB,fO,bO,plO,plN,ppV,bP,plA,arP,fT,bT,rgT,n1T,toF,a0,a1,a2,a3,a4] at hf hi ⊢
 all_goals
  obtain ⟨g0,g1,g2⟩:=hi
 all_goals
  have z0:=@toP_zero 0 _ _ _ g2
 all_goals
  have f0:=@fl_set00 (iv 30) g0
 all_goals
  have ln:lenOk (iv0 0) (iv0 1)→∀ j:Int,0≤j→j < iv0 1→flenC (gt (iv0 0) j.toNat 2)≤65536:=fun h j h0 h1=>h j.toNat (by omega)
 all_goals
  have l0:=fun h=>ln h (iv 30) g0
 all_goals
  have c0:(iv 30) < (iv0 1)→fl (cpR (iv0 0) (iv0 1)) (iv 30).toNat 1=fl (iv0 0) (iv 30).toNat 1∧gt (cpR (iv0 0) (iv0 1)) (iv 30).toNat 2=gt (iv0 0) (iv 30).toNat 2:=fun h=>fl_cpR (by omega)
 all_goals
  have tn:=fun h=>@toP_no 0 (iv0 0) (iv 30) (iv0 4) h g0
 all_goals
  have ty:=fun h=>@toP_yes 0 (iv0 0) (iv 30) (iv0 4) 0 h g0
 all_goals
  have tr:=@toR_of 0 (iv0 0) (iv0 1) (iv0 4) 0
 all_goals
  have fp:=frzC_nn 0 0
 all_goals
  have tz:=@toR_nil (iv0 0) (iv0 1) (iv0 4)
 all_goals
  (repeat' (with_reducible apply And.intro))<;>first
  | omega
  | assumption
  | (unfold inM;omega)
  | exact trivial
  | (clear hin hF ha;grind)
theorem cTo_o3:cTo_ob 3 cTo_L3:=by
 intro kv iv0 bv0 hin hF iv bv ha hi
 unfold cTo_L3
 refine List.forall_mem_cons.2 ⟨?_,List.forall_mem_cons.2 ⟨?_,List.forall_mem_cons.2 ⟨?_,List.forall_mem_cons.2 ⟨?_,List.forall_mem_cons.2 ⟨?_,List.forall_mem_cons.2 ⟨?_,List.forall_mem_nil _⟩⟩⟩⟩⟩⟩
 all_goals
  intro δ hf
 all_goals
  obtain ⟨b1,b2,b3,b4⟩:=cTo_b hin
 all_goals
  have a0:=ha.1 0 (by omega)
  have a1:=ha.1 1 (by omega)
  have a2:=ha.1 2 (by omega)
  have a3:=ha.1 3 (by omega)
  have a4:=ha.1 4 (by omega)
 all_goals
  simp only [FT,TP,SB.tp,SI.tv,sta,IB.eval,and_true,true_and,ObsT,Ob.Tv,rowT,kix,In.tiv,↓tbvT,In.tbv,get_cons,get_nil,reduceIte,Nat.reduceEqDiff,Int.reduceToNat,Int.reduceAdd,Int.reduceSub,Int.reduceLE,Int.reduceLT,Int.reduceEq,ne_eq,Bool.false_eq_true,not_true_eq_false,not_false_eq_true,true_iff,false_iff,iff_true,iff_false,false_implies,implies_true,decT,decide_true,decide_false,Bool.decide_eq_true,ap2,pb2,FI_3,FI_4,FI_8,FI_9,FI_8c,FI_8z,FI_200,FB_2,Int.toNat_natCast,Int.toNat_zero,FI_22,FI_23,FI_24,FI_25,FI_26,FB_24,FB_25,FB_26,cTo_inv,cTo_mu,cTo,o1,othT,o1,i64b,kP,pkV,flF,i64s,lmap,SI.fl,flay,flayL,wP,pk0,pkAt,mayO,i64b,lO,hO,lenB,fO,bO,plO,plN,ppV,bP,plA,arP,fT,bT,rgT,n1T,toF,a0,a1,a2,a3,a4] at hf hi ⊢
 all_goals
  obtain ⟨g0,g1,g2,g3,g5,g4⟩:=hi
 all_goals
  have cl:=cntT_le (iv0 0) (iv 43) (iv0 4) g0
 all_goals
  have ln:lenOk (iv0 0) (iv0 1)→∀ j:Int,0≤j→j < iv0 1→flenC (gt (iv0 0) j.toNat 2)≤65536:=fun h j h0 h1=>h j.toNat (by omega)
 all_goals
  have l0:=fun h=>ln h (iv 43) g0
 all_goals
  have c0:(iv 43) < (iv0 1)→fl (cpR (iv0 0) (iv0 1)) (iv 43).toNat 1=fl (iv0 0) (iv 43).toNat 1∧gt (cpR (iv0 0) (iv0 1)) (iv 43).toNat 2=gt (iv0 0) (iv 43).toNat 2:=fun h=>fl_cpR (by omega)
 all_goals
  have tn:=fun h=>@toP_no (iv 33) (iv0 0) (iv 43) (iv0 4) h g0
 all_goals
  have ty:=fun h=>@toP_yes (iv 33) (iv0 0) (iv 43) (iv0 4) (iv 34) h g0
 all_goals
  have tr:=@toR_of (iv 33) (iv0 0) (iv0 1) (iv0 4) (iv 34)
 all_goals
  have fp:=frzC_nn (iv 34) (iv 33)
 all_goals
  have tz:=@toR_nil (iv0 0) (iv0 1) (iv0 4)
 all_goals
  (repeat' (with_reducible apply And.intro))<;>first
  | omega
  | assumption
  | (unfold inM;omega)
  | exact trivial
  | (clear hin hF ha;grind)
theorem cTo_c:LsCM 2 ((tmM cTo Try.f22 (Try.f22.body.getD .skip))::[cTo_T1,cTo_T2,cTo_T3]) cTo.os [cTo_L0,cTo_L1,cTo_L2,cTo_L3]:=by
 unfold cTo_L0 cTo_L1 cTo_L2 cTo_L3
 exact ⟨List.forall_mem_cons.2 ⟨⟨⟨⟨_,rfl,rfl⟩,by kernel_rfl⟩,by kernel_rfl⟩,List.forall_mem_cons.2 ⟨⟨⟨⟨_,rfl,rfl⟩,by kernel_rfl⟩,by kernel_rfl⟩,List.forall_mem_nil _⟩⟩,List.forall_mem_cons.2 ⟨⟨⟨⟨_,rfl,rfl⟩,by kernel_rfl⟩,by kernel_rfl⟩,List.forall_mem_nil _⟩,List.forall_mem_cons.2 ⟨⟨⟨⟨_,rfl,rfl⟩,by kernel_rfl⟩,by kernel_rfl⟩,List.forall_mem_cons.2 ⟨⟨⟨⟨_,rfl,rfl⟩,by kernel_rfl⟩,by kernel_rfl⟩,List.forall_mem_cons.2 ⟨⟨trivial,rfl⟩,List.forall_mem_cons.2 ⟨⟨⟨⟨_,rfl,rfl⟩,by kernel_rfl⟩,by kernel_rfl⟩,List.forall_mem_nil _⟩⟩⟩⟩,List.forall_mem_cons.2 ⟨⟨⟨⟨_,rfl,rfl⟩,by kernel_rfl⟩,by kernel_rfl⟩,List.forall_mem_cons.2 ⟨⟨trivial,rfl⟩,List.forall_mem_cons.2 ⟨⟨⟨⟨_,rfl,rfl⟩,by kernel_rfl⟩,by kernel_rfl⟩,List.forall_mem_cons.2 ⟨⟨trivial,rfl⟩,List.forall_mem_cons.2 ⟨⟨trivial,rfl⟩,List.forall_mem_cons.2 ⟨⟨⟨⟨_,rfl,rfl⟩,by kernel_rfl⟩,by kernel_rfl⟩,List.forall_mem_nil _⟩⟩⟩⟩⟩⟩,trivial⟩
theorem cTo_ok:cTo.Ok Try.prog FI FB:=
 Com.of_plain (body:=Try.f22.body.getD .skip) pok fiok (EntsFor.consH cOwn_ok (EntsFor.consM cEach_ok EntsFor.nil)) cTo Try.func22 (by kernel_rfl) 5 [cTo_T1,cTo_T2,cTo_T3] (by kernel_rfl) [cTo_L0,cTo_L1,cTo_L2,cTo_L3] ⟨cTo_h0,cTo_h1,cTo_h2,cTo_h3,trivial⟩ cTo_c
  cTo_inv cTo_mu (fun _ _ _=>trivial) fun kv iv0 bv0 hin hF k l iv bv hk ha hi=>match k,hk,hi with
  | 0,hk,hi=>by
    cases hk
    exact cTo_o0 kv iv0 bv0 hin hF iv bv ha hi
  | 1,hk,hi=>by
    cases hk
    exact cTo_o1 kv iv0 bv0 hin hF iv bv ha hi
  | 2,hk,hi=>by
    cases hk
    exact cTo_o2 kv iv0 bv0 hin hF iv bv ha hi
  | 3,hk,hi=>by
    cases hk
    exact cTo_o3 kv iv0 bv0 hin hF iv bv ha hi
  | k+4,hk,_=>by simp at hk
end
end Go.Sx.Pk
