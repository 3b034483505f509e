/- The pool: is it the document's? -/
import Derived.Test.YtbcbpicfnfkdeaaPkP
namespace Go.Sx.Pk
set_option linter.unusedVariables false
set_option linter.unusedSimpArgs false
set_option maxRecDepth 100000
set_option maxHeartbeats 0
noncomputable section
open Go Go.Sx Go.Proofs
def plO:List (Nat×Bk):=[(0,.cells [.sl (.n 1) (.c 0) (.v 1) (.v 2),.it .i64 (.v 3)] 59),hO 1]
def plN:List (Nat×Bk):=[(0,.cells [.sn,.it .i64 (.v 3)] 59)]
def ppV:SV:=.pt (.n 0) (.c 0)
def bP:List (Nat×Int×Int):=[(1,0,-1),(2,0,-1),(3,1,64),i64b 4,i64b 6]
def cIs:Com:=⟨14,[0,1,2,3,4,5,6],[ppV,wP 4,.it .i64 (.v 6)],plO,2,bP,fO,[⟨[],.bo (.ap 24 (.v 0) (.v 5) (.v 1) (.v 6) (.c 0) (.c 0)),plO,2,0,[]⟩],.c 0,[29]⟩
def cIs0:Com:=⟨14,[0,3,4,5,6],[ppV,wP 4,.it .i64 (.v 6)],plN,1,[(3,1,64),i64b 4,i64b 6],[],[⟨[],.bo (.ap 24 (.c 0) (.v 5) (.c 0) (.v 6) (.c 0) (.c 0)),plN,1,0,[]⟩],.c 0,[29]⟩
def cIs_T1:Tm:=⟨⟨40,19,[(7,(.it .i64 (.c 0))),(6,(.it .i64 (.c 0))),(5,.sn),(0,(.yl 9))],[(.code (atC Try.f40 [0,1,1,0,0])),(.inLoop (atC Try.f40 [0,1,1,0,0])),(.inBlock 0),(.inScope (atC Try.f40 [0]))],[],.none⟩,[⟨14,59,[(8,(.pt (.n 7) (.c 0))),(6,(.pt (.n 4) (.c 0))),(5,(.pt (.n 3) (.c 0))),(4,(.pt (.n 2) (.c 0)))],[(.inRangeFunc 9),(.inBlock 0),(.code (atC Try.f14 [1,1,1,1,1]))],[8],.none⟩],
    ⟨[(0,(.cells [(.sl (.n 1) (.c 0) (.v 1) (.v 2)),(.it .i64 (.v 3))] 59)),(1,(.arr [(.nt .i64),(.nt .i64),(.fs 0)] (.v 0) (.v 1) 29 (.v 2))),(2,(.cells [(.it .i64 (.v 4)),(.fs 2 (.v 5))] 41)),(3,(.cells [(.it .i64 (.v 6))] 3)),(4,(.cells [(.bo (.c .false))] 4)),(5,(.cells [.sn] 36)),(7,(.cells [(.it .i64 (.c 0))] 3)),(8,.dfr),(9,(.loop .ready .none 14 59 [(23,(.fn 40 [] [(.pt (.n 5) (.c 0))])),(8,(.pt (.n 7) (.c 0))),(22,(.bo (.not (.eq (.v 1) (.ap 200 (.v 5) (.c 0) (.c 0) (.c 0) (.c 0) (.c 0)))))),(21,(.bo (.not (.eq (.v 1) (.ap 200 (.v 5) (.c 0) (.c 0) (.c 0) (.c 0) (.c 0)))))),(20,(.it .i64 (.ap 200 (.v 5) (.c 0) (.c 0) (.c 0) (.c 0) (.c 0)))),(19,(.fs 2 (.v 5))),(18,(.pt (.n 2) (.c 1))),(17,(.it .i64 (.v 1))),(16,(.pt (.n 0) (.c 0))),(15,(.bo (.c .false))),(14,(.bo (.c .false))),(13,(.fn 40 [] [(.pt (.n 5) (.c 0))])),(7,(.fn 40 [] [(.pt (.n 5) (.c 0))])),(12,(.fn 40 [] [(.pt (.n 5) (.c 0))])),(11,(.pt (.n 0) (.c 0))),(6,(.pt (.n 4) (.c 0))),(5,(.pt (.n 3) (.c 0))),(4,(.pt (.n 2) (.c 0))),(0,(.pt (.n 0) (.c 0))),(1,(.ag [(.it .i64 (.v 4)),(.fs 2 (.v 5))])),(2,(.it .i64 (.v 6)))] #[24,25] (atC Try.f14 [1,1,1,1,0,1,0,0]) (atC Try.f14 [1,1,1,1,0,1,0,1]) 8))],10,0,0,[((.eq (.v 1) (.ap 200 (.v 5) (.c 0) (.c 0) (.c 0) (.c 0) (.c 0))),.true),((.eq (.v 1) (.c 0)),.true),((.ap 26 (.v 0) (.v 1) (.c 0) (.c 0) (.c 0) (.c 0)),.true),((.le (.v 1) (.v 2)),.true),((.le (.v 1) (.c 4096)),.true)],[0],[(1,(0,0)),(1,(0,4096)),(2,(0,(-1))),(1,(0,4096)),(1,(0,(-1))),(2,(0,(-1))),(3,(1,64)),(4,((-9223372036854775808),9223372036854775807)),(6,((-9223372036854775808),9223372036854775807))]⟩,[]⟩
def cIs_T2:Tm:=⟨⟨40,19,[(7,(.it .i64 (.v 29))),(6,(.it .i64 (.v 1))),(5,(.sl (.n 6) (.c 0) (.v 1) (.v 27))),(0,(.yl 10))],[(.code (atC Try.f40 [0,1,1,0,0])),(.inLoop (atC Try.f40 [0,1,1,0,0])),(.inBlock 0),(.inScope (atC Try.f40 [0]))],[],.none⟩,[⟨14,59,[(8,(.pt (.n 8) (.c 0))),(6,(.pt (.n 4) (.c 0))),(5,(.pt (.n 3) (.c 0))),(4,(.pt (.n 2) (.c 0)))],[(.inRangeFunc 10),(.inBlock 0),(.code (atC Try.f14 [1,1,1,1,1]))],[9],.none⟩],
    ⟨[(0,(.cells [(.sl (.n 1) (.c 0) (.v 1) (.v 2)),(.it .i64 (.v 3))] 59)),(1,(.arr [(.nt .i64),(.nt .i64),(.fs 0)] (.v 0) (.v 1) 29 (.v 2))),(2,(.cells [(.it .i64 (.v 4)),(.fs 2 (.v 5))] 41)),(3,(.cells [(.it .i64 (.v 6))] 3)),(4,(.cells [(.bo (.c .false))] 4)),(5,(.cells [(.sl (.n 6) (.c 0) (.v 1) (.v 27))] 36)),(6,(.arr [(.nt .i64),(.nt .i64),(.fs 0)] (.ap 23 (.v 0) (.v 1) (.c 0) (.c 0) (.c 0) (.c 0)) (.v 1) 29 (.v 27))),(8,(.cells [(.it .i64 (.v 29))] 3)),(9,.dfr),(10,(.loop .ready .none 14 59 [(23,(.fn 40 [] [(.pt (.n 5) (.c 0))])),(8,(.pt (.n 8) (.c 0))),(22,(.bo (.not (.eq (.v 1) (.ap 200 (.v 5) (.c 0) (.c 0) (.c 0) (.c 0) (.c 0)))))),(21,(.bo (.not (.eq (.v 1) (.ap 200 (.v 5) (.c 0) (.c 0) (.c 0) (.c 0) (.c 0)))))),(20,(.it .i64 (.ap 200 (.v 5) (.c 0) (.c 0) (.c 0) (.c 0) (.c 0)))),(19,(.fs 2 (.v 5))),(18,(.pt (.n 2) (.c 1))),(17,(.it .i64 (.v 1))),(16,(.pt (.n 0) (.c 0))),(15,(.bo (.c .false))),(14,(.bo (.c .false))),(13,(.fn 40 [] [(.pt (.n 5) (.c 0))])),(7,(.fn 40 [] [(.pt (.n 5) (.c 0))])),(12,(.fn 40 [] [(.pt (.n 5) (.c 0))])),(11,(.pt (.n 0) (.c 0))),(6,(.pt (.n 4) (.c 0))),(5,(.pt (.n 3) (.c 0))),(4,(.pt (.n 2) (.c 0))),(0,(.pt (.n 0) (.c 0))),(1,(.ag [(.it .i64 (.v 4)),(.fs 2 (.v 5))])),(2,(.it .i64 (.v 6)))] #[24,25] (atC Try.f14 [1,1,1,1,0,1,0,0]) (atC Try.f14 [1,1,1,1,0,1,0,1]) 9))],11,0,0,[((.eq (.v 1) (.ap 200 (.v 5) (.c 0) (.c 0) (.c 0) (.c 0) (.c 0))),.true),((.eq (.v 1) (.c 0)),.false),((.ap 26 (.v 0) (.v 1) (.c 0) (.c 0) (.c 0) (.c 0)),.true),((.le (.v 1) (.c 4096)),.true),((.le (.v 1) (.v 2)),.true),((.le (.v 1) (.v 27)),.true)],[0],[(1,(1,4096)),(2,(0,(-1))),(3,(1,64)),(4,((-9223372036854775808),9223372036854775807)),(6,((-9223372036854775808),9223372036854775807)),(29,(0,(-1)))]⟩,[29,27]⟩
def cIs_L0:List Lf:=
 let x0_:SI:=(.ap 200 (.v 5) (.c 0) (.c 0) (.c 0) (.c 0) (.c 0))
 let f0_:List (SB×Bool):=[((.ap 26 (.v 0) (.v 1) (.c 0) (.c 0) (.c 0) (.c 0)),.true),((.le (.v 1) (.v 2)),.true),((.le (.v 1) (.c 4096)),.true)]
 let f1_:List (SB×Bool):=((.eq (.v 1) (.c 0)),.true)::f0_
 let f2_:List (SB×Bool):=((.le (.v 1) (.d 0)),.true)::((.eq (.v 1) (.c 0)),.false)::f0_
 [(let i_:In:=⟨⟨[],[]⟩,[(1,1),(0,0),(5,5),(8,8),(2,2),(3,3),(4,4),(7,7),(9,9)],[],[]⟩;.cut (((.eq (.v 1) x0_),.true)::f1_) 1 i_ [] (shT cIs_T1 i_)),
  (.fin (((.eq (.v 1) x0_),.false)::f1_) 0 ⟨⟨[],[]⟩,[(1,1),(0,0)],[],[]⟩ [(.eb (.ap 24 (.v 0) (.v 5) (.v 1) (.v 6) (.c 0) (.c 0)) (.c .false))] [.none,.none]),
  (let i_:In:=⟨⟨[(27,(.d 0)),(29,(.c 0))],[]⟩,[(1,1),(0,0),(5,5),(9,9),(2,2),(3,3),(4,4),(8,8),(10,10),(6,6)],[],[]⟩;.cut (((.eq (.v 1) x0_),.true)::f2_) 2 i_ [] (shT cIs_T2 i_)),
  (.fin (((.eq (.v 1) x0_),.false)::f2_) 0 ⟨⟨[],[]⟩,[(1,1),(0,0)],[],[]⟩ [(.eb (.ap 24 (.v 0) (.v 5) (.v 1) (.v 6) (.c 0) (.c 0)) (.c .false))] [.none,.none])]
def cIs_L1:List Lf:=
 let x0_:SI:=(.ap 200 (.v 5) (.c 0) (.c 0) (.c 0) (.c 0) (.c 0))
 [(.fin ([((.eq (.v 1) x0_),.true),((.eq (.v 1) (.c 0)),.true),((.ap 26 (.v 0) (.v 1) (.c 0) (.c 0) (.c 0) (.c 0)),.true),((.le (.v 1) (.v 2)),.true),((.le (.v 1) (.c 4096)),.true)]) 0 ⟨⟨[],[]⟩,[(1,1),(0,0)],[],[]⟩ [(.eb (.ap 24 (.v 0) (.v 5) (.v 1) (.v 6) (.c 0) (.c 0)) (.eq (.c 0) (.op .imin x0_ (.op .imax (.c 1) (.v 6)))))] [.none,.none])]
def cIs_L2:List Lf:=
 let x0_:SI:=(.ap 23 (.v 0) (.v 1) (.c 0) (.c 0) (.c 0) (.c 0))
 let x1_:SI:=(.ap 3 (.v 5) (.v 29) (.c 0) (.c 0) (.c 0) (.c 0))
 let x2_:SI:=(.ap 3 (.v 5) (.v 29) (.c 1) (.c 0) (.c 0) (.c 0))
 let x3_:SI:=(.ap 200 (.v 5) (.c 0) (.c 0) (.c 0) (.c 0) (.c 0))
 let x4_:SI:=(.ap 8 (.v 5) (.v 29) (.c 2) (.c 0) (.c 10) (.c 0))
 let x5_:SI:=(.op .imin x3_ (.op .imax (.c 1) (.v 6)))
 let x6_:SI:=(.ap 3 x0_ (.v 29) (.c 0) (.c 0) (.c 0) (.c 0))
 let x7_:SI:=(.ap 3 x0_ (.v 29) (.c 1) (.c 0) (.c 0) (.c 0))
 let x8_:SI:=(.ap 8 x0_ (.v 29) (.c 2) (.c 0) (.c 10) (.c 0))
 let x9_:SI:=(.ap 200 x8_ (.c 0) (.c 0) (.c 0) (.c 0) (.c 0))
 let f0_:List (SB×Bool):=[((.eq (.v 1) x3_),.true),((.eq (.v 1) (.c 0)),.false),((.ap 26 (.v 0) (.v 1) (.c 0) (.c 0) (.c 0) (.c 0)),.true),((.le (.v 1) (.c 4096)),.true),((.le (.v 1) (.v 2)),.true),((.le (.v 1) (.v 27)),.true)]
 let f1_:List (SB×Bool):=((.lt (.v 29) (.v 1)),.true)::f0_
 let f2_:List (SB×Bool):=((.le x9_ (.c 65536)),.true)::f1_
 let f3_:List (SB×Bool):=((.eq x6_ x1_),.true)::f2_
 let f4_:List (SB×Bool):=((.eq x7_ x2_),.true)::f3_
 let f5_:List (SB×Bool):=((.ap 2 x8_ x4_ (.c 0) (.c 0) (.c 0) (.c 0)),.true)::f4_
 [(.fin (((.le (.v 6) (.op .add (.v 29) (.c 1))),.true)::f5_) 0 ⟨⟨[],[]⟩,[(1,1),(0,0)],[],[]⟩ [(.eb (.ap 24 (.v 0) (.v 5) (.v 1) (.v 6) (.c 0) (.c 0)) (.eq (.op .add (.v 29) (.c 1)) x5_))] [.none,.none]),
  (let i_:In:=⟨⟨[(27,(.v 27)),(29,(.op .add (.v 29) (.c 1)))],[]⟩,[(1,1),(0,0),(5,5),(9,9),(2,2),(3,3),(4,4),(8,8),(10,10),(6,6)],[],[]⟩;.cut (((.le (.v 6) (.op .add (.v 29) (.c 1))),.false)::f5_) 2 i_ [] (shT cIs_T2 i_)),
  (.fin (((.ap 2 x8_ x4_ (.c 0) (.c 0) (.c 0) (.c 0)),.false)::f4_) 0 ⟨⟨[],[]⟩,[(1,1),(0,0)],[],[]⟩ [(.eb (.ap 24 (.v 0) (.v 5) (.v 1) (.v 6) (.c 0) (.c 0)) (.c .false))] [.none,.none]),
  (.fin (((.eq x7_ x2_),.false)::f3_) 0 ⟨⟨[],[]⟩,[(1,1),(0,0)],[],[]⟩ [(.eb (.ap 24 (.v 0) (.v 5) (.v 1) (.v 6) (.c 0) (.c 0)) (.c .false))] [.none,.none]),
  (.fin (((.eq x6_ x1_),.false)::f2_) 0 ⟨⟨[],[]⟩,[(1,1),(0,0)],[],[]⟩ [(.eb (.ap 24 (.v 0) (.v 5) (.v 1) (.v 6) (.c 0) (.c 0)) (.c .false))] [.none,.none]),
  (.bad (((.le x9_ (.c 65536)),.false)::f1_)),
  (.fin (((.lt (.v 29) (.v 1)),.false)::f0_) 0 ⟨⟨[],[]⟩,[(1,1),(0,0)],[],[]⟩ [(.eb (.ap 24 (.v 0) (.v 5) (.v 1) (.v 6) (.c 0) (.c 0)) (.eq (.v 29) x5_))] [.none,.none])]
def cIs_run (T:Tm):=(ex (ccM Try.prog BF [] cIs.ow) ((fun cc=>[cOwn.entH cc,cSmP.ent cc,cEach.ent cc]) (ccM Try.prog BF [] cIs.ow)) (dw (ccM Try.prog BF [] cIs.ow) ((fun cc=>[cOwn.entH cc,cSmP.ent cc,cEach.ent cc]) (ccM Try.prog BF [] cIs.ow)) 1000 4) (stopX []) 4000 T.f T.fs T.H).lfsM 2 (ccM Try.prog BF [] cIs.ow) ((tmM cIs Try.f14 (Try.f14.body.getD .skip))::[cIs_T1,cIs_T2]) cIs.os
theorem cIs_h0:cIs_run (tmM cIs Try.f14 (Try.f14.body.getD .skip))=some cIs_L0:=by kernel_rfl
theorem cIs_h1:cIs_run cIs_T1=some cIs_L1:=by kernel_rfl
theorem cIs_h2:cIs_run cIs_T2=some cIs_L2:=by kernel_rfl
def cIs_inv:(Nat→Int)→(Nat→Bool)→Nat→(Nat→Int)→(Nat→Bool)→Prop:=fun iv0 _ k iv _=>match k with | 0=>True | 1=>True | _=>0≤iv 29∧isT (iv0 0) (iv0 5) (iv 29)∧iv 29≤iv0 1∧iv 29 < max 1 (iv0 6)
def cIs_mu:(Nat→Int)→(Nat→Bool)→Nat→(Nat→Int)→(Nat→Bool)→Nat:=fun iv0 _ k iv _=>match k with | 0=>2 ^ 90 | 1=>2 ^ 80 | _=>(5000 - iv 29).toNat
theorem cIs_b {iv0:Nat→Int} (hin:InB cIs.B iv0):0≤iv0 1∧0≤iv0 2∧(1≤iv0 3∧iv0 3≤64)∧((-9223372036854775808)≤iv0 4∧iv0 4≤9223372036854775807)∧((-9223372036854775808)≤iv0 6∧iv0 6≤9223372036854775807):=by
 have b1:=hin 1 0 (-1) (by simp [cIs,o1,i64b,kP,pkV,flF,i64s,lmap,SI.fl,flay,flayL,wP,pk0,pkAt,mayO,i64b,lO,hO,lenB,fO,bO,plO,plN,ppV,bP])
 simp only [Int.reduceLE,reduceIte,Int.reduceNeg] at b1
 have b2:=hin 2 0 (-1) (by simp [cIs,o1,i64b,kP,pkV,flF,i64s,lmap,SI.fl,flay,flayL,wP,pk0,pkAt,mayO,i64b,lO,hO,lenB,fO,bO,plO,plN,ppV,bP])
 simp only [Int.reduceLE,reduceIte,Int.reduceNeg] at b2
 have b3:=hin 3 1 64 (by simp [cIs,o1,i64b,kP,pkV,flF,i64s,lmap,SI.fl,flay,flayL,wP,pk0,pkAt,mayO,i64b,lO,hO,lenB,fO,bO,plO,plN,ppV,bP])
 simp only [Int.reduceLE,reduceIte,Int.reduceNeg] at b3
 have b4:=hin 4 (-9223372036854775808) 9223372036854775807 (by simp [cIs,o1,i64b,kP,pkV,flF,i64s,lmap,SI.fl,flay,flayL,wP,pk0,pkAt,mayO,i64b,lO,hO,lenB,fO,bO,plO,plN,ppV,bP])
 simp only [Int.reduceLE,reduceIte,Int.reduceNeg] at b4
 have b6:=hin 6 (-9223372036854775808) 9223372036854775807 (by simp [cIs,o1,i64b,kP,pkV,flF,i64s,lmap,SI.fl,flay,flayL,wP,pk0,pkAt,mayO,i64b,lO,hO,lenB,fO,bO,plO,plN,ppV,bP])
 simp only [Int.reduceLE,reduceIte,Int.reduceNeg] at b6
 exact ⟨b1.1,b2.1,b3,b4,b6⟩
def cIs_ob (k:Nat) (l:List Lf):Prop:=∀ (kv:Kv) (iv0:Nat→Int) (bv0:Nat→Bool),InB cIs.B iv0→FT (sta FI FB kv iv0 bv0) (dlt dyn0) cIs.F→∀ (iv:Nat→Int) (bv:Nat→Bool),Agr 7 iv0 bv0 iv bv→cIs_inv iv0 bv0 k iv bv→∀ lf∈l,LfT (sta FI FB kv) cIs.os (cIs_inv iv0 bv0) (cIs_mu iv0 bv0) k iv bv lf
theorem cIs_o0:cIs_ob 0 cIs_L0:=by
 intro kv iv0 bv0 hin hF iv bv ha hi
 unfold cIs_L0
 refine List.forall_mem_cons.2 ⟨?_,List.forall_mem_cons.2 ⟨?_,List.forall_mem_cons.2 ⟨?_,List.forall_mem_cons.2 ⟨?_,List.forall_mem_nil _⟩⟩⟩⟩
 all_goals
  intro δ hf
 all_goals
  obtain ⟨b1,b2,b3,b4,b6⟩:=cIs_b hin
 all_goals
  have a0:=ha.1 0 (by omega)
  have a1:=ha.1 1 (by omega)
  have a2:=ha.1 2 (by omega)
  have a3:=ha.1 3 (by omega)
  have a4:=ha.1 4 (by omega)
  have a5:=ha.1 5 (by omega)
  have a6:=ha.1 6 (by omega)
 all_goals
  simp only [FT,TP,SB.tp,SI.tv,sta,IB.eval,and_true,true_and,ObsT,Ob.Tv,rowT,kix,In.tiv,↓tbvT,In.tbv,get_cons,get_nil,reduceIte,Nat.reduceEqDiff,Int.reduceToNat,Int.reduceAdd,Int.reduceSub,Int.reduceLE,Int.reduceLT,Int.reduceEq,ne_eq,Bool.false_eq_true,not_true_eq_false,not_false_eq_true,true_iff,false_iff,iff_true,iff_false,false_implies,implies_true,decT,decide_true,decide_false,Bool.decide_eq_true,ap2,pb2,FI_3,FI_4,FI_8,FI_9,FI_8c,FI_8z,FI_200,FB_2,Int.toNat_natCast,Int.toNat_zero,FI_23,FI_24,FI_26,FB_24,FB_26,cIs_inv,cIs_mu,cIs,o1,othT,o1,i64b,kP,pkV,flF,i64s,lmap,SI.fl,flay,flayL,wP,pk0,pkAt,mayO,i64b,lO,hO,lenB,fO,bO,plO,plN,ppV,bP,a0,a1,a2,a3,a4,a5,a6] at hf hi ⊢
 all_goals
  have y1:=@isB_yes (iv0 0) (iv0 5) (iv0 1) (iv0 6)
 all_goals
  have y2:=@isB_len (iv0 0) (iv0 5) (iv0 1) (iv0 6)
 all_goals
  have y3:=isT_zero (iv0 0) (iv0 5)
 all_goals
  (repeat' (with_reducible apply And.intro))<;>first
  | omega
  | assumption
  | (unfold inM;omega)
  | exact trivial
  | (clear hin hF ha;grind)
theorem cIs_o1:cIs_ob 1 cIs_L1:=by
 intro kv iv0 bv0 hin hF iv bv ha hi
 unfold cIs_L1
 refine List.forall_mem_cons.2 ⟨?_,List.forall_mem_nil _⟩
 all_goals
  intro δ hf
 all_goals
  obtain ⟨b1,b2,b3,b4,b6⟩:=cIs_b hin
 all_goals
  have a0:=ha.1 0 (by omega)
  have a1:=ha.1 1 (by omega)
  have a2:=ha.1 2 (by omega)
  have a3:=ha.1 3 (by omega)
  have a4:=ha.1 4 (by omega)
  have a5:=ha.1 5 (by omega)
  have a6:=ha.1 6 (by omega)
 all_goals
  simp only [FT,TP,SB.tp,SI.tv,sta,IB.eval,and_true,true_and,ObsT,Ob.Tv,rowT,kix,In.tiv,↓tbvT,In.tbv,get_cons,get_nil,reduceIte,Nat.reduceEqDiff,Int.reduceToNat,Int.reduceAdd,Int.reduceSub,Int.reduceLE,Int.reduceLT,Int.reduceEq,ne_eq,Bool.false_eq_true,not_true_eq_false,not_false_eq_true,true_iff,false_iff,iff_true,iff_false,false_implies,implies_true,decT,decide_true,decide_false,Bool.decide_eq_true,ap2,pb2,FI_3,FI_4,FI_8,FI_9,FI_8c,FI_8z,FI_200,FB_2,Int.toNat_natCast,Int.toNat_zero,FI_23,FI_24,FI_26,FB_24,FB_26,cIs_inv,cIs_mu,cIs,o1,othT,o1,i64b,kP,pkV,flF,i64s,lmap,SI.fl,flay,flayL,wP,pk0,pkAt,mayO,i64b,lO,hO,lenB,fO,bO,plO,plN,ppV,bP,a0,a1,a2,a3,a4,a5,a6] at hf hi ⊢
 all_goals
  have y1:=@isB_yes (iv0 0) (iv0 5) (iv0 1) (iv0 6)
 all_goals
  have y2:=@isB_len (iv0 0) (iv0 5) (iv0 1) (iv0 6)
 all_goals
  have y3:=isT_zero (iv0 0) (iv0 5)
 all_goals
  (repeat' (with_reducible apply And.intro))<;>first
  | omega
  | assumption
  | (unfold inM;omega)
  | exact trivial
  | (clear hin hF ha;grind)
theorem cIs_o2:cIs_ob 2 cIs_L2:=by
 intro kv iv0 bv0 hin hF iv bv ha hi
 unfold cIs_L2
 refine List.forall_mem_cons.2 ⟨?_,List.forall_mem_cons.2 ⟨?_,List.forall_mem_cons.2 ⟨?_,List.forall_mem_cons.2 ⟨?_,List.forall_mem_cons.2 ⟨?_,List.forall_mem_cons.2 ⟨?_,List.forall_mem_cons.2 ⟨?_,List.forall_mem_nil _⟩⟩⟩⟩⟩⟩⟩
 all_goals
  intro δ hf
 all_goals
  obtain ⟨b1,b2,b3,b4,b6⟩:=cIs_b hin
 all_goals
  have a0:=ha.1 0 (by omega)
  have a1:=ha.1 1 (by omega)
  have a2:=ha.1 2 (by omega)
  have a3:=ha.1 3 (by omega)
  have a4:=ha.1 4 (by omega)
  have a5:=ha.1 5 (by omega)
  have a6:=ha.1 6 (by omega)
 all_goals
  simp only [FT,TP,SB.tp,SI.tv,sta,IB.eval,and_true,true_and,ObsT,Ob.Tv,rowT,kix,In.tiv,↓tbvT,In.tbv,get_cons,get_nil,reduceIte,Nat.reduceEqDiff,Int.reduceToNat,Int.reduceAdd,Int.reduceSub,Int.reduceLE,Int.reduceLT,Int.reduceEq,ne_eq,Bool.false_eq_true,not_true_eq_false,not_false_eq_true,true_iff,false_iff,iff_true,iff_false,false_implies,implies_true,decT,decide_true,decide_false,Bool.decide_eq_true,ap2,pb2,FI_3,FI_4,FI_8,FI_9,FI_8c,FI_8z,FI_200,FB_2,Int.toNat_natCast,Int.toNat_zero,FI_23,FI_24,FI_26,FB_24,FB_26,cIs_inv,cIs_mu,cIs,o1,othT,o1,i64b,kP,pkV,flF,i64s,lmap,SI.fl,flay,flayL,wP,pk0,pkAt,mayO,i64b,lO,hO,lenB,fO,bO,plO,plN,ppV,bP,a0,a1,a2,a3,a4,a5,a6] at hf hi ⊢
 all_goals
  obtain ⟨g0,g1,g2,g3⟩:=hi
 all_goals
  have ln:lenOk (iv0 0) (iv0 1)→∀ j:Int,0≤j→j < iv0 1→flenC (gt (iv0 0) j.toNat 2)≤65536:=fun h j h0 h1=>h j.toNat (by omega)
 all_goals
  have y1:=@isB_yes (iv0 0) (iv0 5) (iv0 1) (iv0 6)
 all_goals
  have y2:=@isB_len (iv0 0) (iv0 5) (iv0 1) (iv0 6)
 all_goals
  have y3:=isT_zero (iv0 0) (iv0 5)
 all_goals
  have s0:iv 29 < iv0 1→(sameP (cpR (iv0 0) (iv0 1)) (iv0 5) (iv 29).toNat↔sameP (iv0 0) (iv0 5) (iv 29).toNat):=fun h=>sameP_cpR (by omega)
 all_goals
  have s1:=@isT_suc (iv0 0) (iv0 5) (iv 29) g1 g0
 all_goals
  have s2:=@isB_no (iv0 0) (iv0 5) (iv0 1) (iv0 6) (iv 29) g0
 all_goals
  have s3:iv 29 < iv0 1→gt (cpR (iv0 0) (iv0 1)) (iv 29).toNat 2=gt (iv0 0) (iv 29).toNat 2:=fun h=>(Rw_cpR (c:=(iv0 0)) (n:=(iv0 1)) (j:=(iv 29).toNat) (by omega)).2.2
 all_goals
  have l0:=fun h=>ln h (iv 29) g0
 all_goals
  unfold sameP at *
 all_goals
  (repeat' (with_reducible apply And.intro))<;>first
  | omega
  | assumption
  | (unfold inM;omega)
  | exact trivial
  | (clear hin hF ha;grind)
theorem cIs_c:LsCM 2 ((tmM cIs Try.f14 (Try.f14.body.getD .skip))::[cIs_T1,cIs_T2]) cIs.os [cIs_L0,cIs_L1,cIs_L2]:=by
 unfold cIs_L0 cIs_L1 cIs_L2
 exact ⟨List.forall_mem_cons.2 ⟨⟨⟨⟨_,rfl,rfl⟩,by kernel_rfl⟩,by kernel_rfl⟩,List.forall_mem_cons.2 ⟨⟨⟨⟨_,rfl,rfl⟩,by kernel_rfl⟩,by kernel_rfl⟩,List.forall_mem_cons.2 ⟨⟨⟨⟨_,rfl,rfl⟩,by kernel_rfl⟩,by kernel_rfl⟩,List.forall_mem_cons.2 ⟨⟨⟨⟨_,rfl,rfl⟩,by kernel_rfl⟩,by kernel_rfl⟩,List.forall_mem_nil _⟩⟩⟩⟩,List.forall_mem_cons.2 ⟨⟨⟨⟨_,rfl,rfl⟩,by kernel_rfl⟩,by kernel_rfl⟩,List.forall_mem_nil _⟩,List.forall_mem_cons.2 ⟨⟨⟨⟨_,rfl,rfl⟩,by kernel_rfl⟩,by kernel_rfl⟩,List.forall_mem_cons.2 ⟨⟨⟨⟨_,rfl,rfl⟩,by kernel_rfl⟩,by kernel_rfl⟩,List.forall_mem_cons.2 ⟨⟨⟨⟨_,rfl,rfl⟩,by kernel_rfl⟩,by kernel_rfl⟩,List.forall_mem_cons.2 ⟨⟨⟨⟨_,rfl,rfl⟩,by kernel_rfl⟩,by kernel_rfl⟩,List.forall_mem_cons.2 ⟨⟨⟨⟨_,rfl,rfl⟩,by kernel_rfl⟩,by kernel_rfl⟩,List.forall_mem_cons.2 ⟨⟨trivial,rfl⟩,List.forall_mem_cons.2 ⟨⟨⟨⟨_,rfl,rfl⟩,by kernel_rfl⟩,by kernel_rfl⟩,List.forall_mem_nil _⟩⟩⟩⟩⟩⟩⟩,trivial⟩
theorem cIs_ok:cIs.Ok Try.prog FI FB:=
 Com.of_plain (body:=Try.f14.body.getD .skip) pok fiok (EntsFor.consH cOwn_ok (EntsFor.cons cSmP_ok (EntsFor.consM cEach_ok EntsFor.nil))) cIs Try.func14 (by kernel_rfl) 7 [cIs_T1,cIs_T2] (by kernel_rfl) [cIs_L0,cIs_L1,cIs_L2] ⟨cIs_h0,cIs_h1,cIs_h2,trivial⟩ cIs_c
  cIs_inv cIs_mu (fun _ _ _=>trivial) fun kv iv0 bv0 hin hF k l iv bv hk ha hi=>match k,hk,hi with
  | 0,hk,hi=>by
    cases hk
    exact cIs_o0 kv iv0 bv0 hin hF iv bv ha hi
  | 1,hk,hi=>by
    cases hk
    exact cIs_o1 kv iv0 bv0 hin hF iv bv ha hi
  | 2,hk,hi=>by
    cases hk
    exact cIs_o2 kv iv0 bv0 hin hF iv bv ha hi
  | k+3,hk,_=>by simp at hk
def cIs0_T1:Tm:=⟨⟨32,22,[(10,(.it .i64 (.c 0))),(9,(.it .i64 (.c 0))),(8,.sn),(5,.sn),(1,(.fn 33 [] []))],[(.code (atC Try.f32 [1,1,0,1,0,0])),(.inLoop (atC Try.f32 [1,1,0,1,0,0])),(.inBlock 0),(.code (atC Try.f32 [1,1,1]))],[],.none⟩,[⟨28,14,[(11,.sn),(3,(.pt (.n 4) (.c 0)))],[(.inRegion (opsC (atC Try.f28 [1,1,0,1,0])) [5,6]),(.code (atC Try.f28 [1,1,1]))],[],.none⟩,⟨14,59,[(11,(.pt (.n 0) (.c 0))),(6,(.pt (.n 3) (.c 0))),(5,(.pt (.n 2) (.c 0))),(4,(.pt (.n 1) (.c 0))),(0,(.pt (.n 0) (.c 0)))],[(.inRegion (opsC (atC Try.f14 [1,0])) [1,2]),(.code (atC Try.f14 [1,1]))],[],.none⟩],
    ⟨[(0,(.cells [.sn,(.it .i64 (.v 3))] 59)),(1,(.cells [(.it .i64 (.v 4)),(.fs 2 (.v 5))] 41)),(2,(.cells [(.it .i64 (.v 6))] 3)),(3,(.cells [(.bo (.c .false))] 4)),(4,(.cells [.sn] 36))],5,0,0,[],[0],[(3,(1,64)),(4,((-9223372036854775808),9223372036854775807)),(6,((-9223372036854775808),9223372036854775807))]⟩,[]⟩
def cIs0_T2:Tm:=⟨⟨40,19,[(7,(.it .i64 (.c 0))),(6,(.it .i64 (.c 0))),(5,.sn),(0,(.yl 8))],[(.code (atC Try.f40 [0,1,1,0,0])),(.inLoop (atC Try.f40 [0,1,1,0,0])),(.inBlock 0),(.inScope (atC Try.f40 [0]))],[],.none⟩,[⟨14,59,[(8,(.pt (.n 6) (.c 0))),(6,(.pt (.n 3) (.c 0))),(5,(.pt (.n 2) (.c 0))),(4,(.pt (.n 1) (.c 0)))],[(.inRangeFunc 8),(.inBlock 0),(.code (atC Try.f14 [1,1,1,1,1]))],[7],.none⟩],
    ⟨[(0,(.cells [.sn,(.it .i64 (.v 3))] 59)),(1,(.cells [(.it .i64 (.v 4)),(.fs 2 (.v 5))] 41)),(2,(.cells [(.it .i64 (.v 6))] 3)),(3,(.cells [(.bo (.c .false))] 4)),(4,(.cells [.sn] 36)),(6,(.cells [(.it .i64 (.c 0))] 3)),(7,.dfr),(8,(.loop .ready .none 14 59 [(23,(.fn 40 [] [(.pt (.n 4) (.c 0))])),(8,(.pt (.n 6) (.c 0))),(22,(.bo (.not (.eq (.c 0) (.ap 200 (.v 5) (.c 0) (.c 0) (.c 0) (.c 0) (.c 0)))))),(21,(.bo (.not (.eq (.c 0) (.ap 200 (.v 5) (.c 0) (.c 0) (.c 0) (.c 0) (.c 0)))))),(20,(.it .i64 (.ap 200 (.v 5) (.c 0) (.c 0) (.c 0) (.c 0) (.c 0)))),(19,(.fs 2 (.v 5))),(18,(.pt (.n 1) (.c 1))),(17,(.it .i64 (.c 0))),(16,(.pt (.n 0) (.c 0))),(15,(.bo (.c .false))),(14,(.bo (.c .false))),(13,(.fn 40 [] [(.pt (.n 4) (.c 0))])),(7,(.fn 40 [] [(.pt (.n 4) (.c 0))])),(12,(.fn 40 [] [(.pt (.n 4) (.c 0))])),(11,(.pt (.n 0) (.c 0))),(6,(.pt (.n 3) (.c 0))),(5,(.pt (.n 2) (.c 0))),(4,(.pt (.n 1) (.c 0))),(0,(.pt (.n 0) (.c 0)))] #[24,25] (atC Try.f14 [1,1,1,1,0,1,0,0]) (atC Try.f14 [1,1,1,1,0,1,0,1]) 7))],9,0,0,[((.eq (.c 0) (.ap 200 (.v 5) (.c 0) (.c 0) (.c 0) (.c 0) (.c 0))),.true)],[0],[(3,(1,64)),(4,((-9223372036854775808),9223372036854775807)),(6,((-9223372036854775808),9223372036854775807))]⟩,[]⟩
def cIs0_L0:List Lf:=
 [(let i_:In:=⟨⟨[],[]⟩,[(1,1),(2,2),(3,3),(0,0),(4,4)],[],[]⟩;.cut ([]) 1 i_ [] (shT cIs0_T1 i_))]
def cIs0_L1:List Lf:=
 let x0_:SI:=(.ap 200 (.v 5) (.c 0) (.c 0) (.c 0) (.c 0) (.c 0))
 [(let i_:In:=⟨⟨[],[]⟩,[(0,0),(4,4),(7,7),(1,1),(2,2),(3,3),(6,6),(8,8)],[],[]⟩;.cut ([((.eq (.c 0) x0_),.true)]) 2 i_ [] (shT cIs0_T2 i_)),
  (.fin ([((.eq (.c 0) x0_),.false)]) 0 ⟨⟨[],[]⟩,[(0,0)],[],[]⟩ [(.eb (.ap 24 (.c 0) (.v 5) (.c 0) (.v 6) (.c 0) (.c 0)) (.c .false))] [.none])]
def cIs0_L2:List Lf:=
 let x0_:SI:=(.ap 200 (.v 5) (.c 0) (.c 0) (.c 0) (.c 0) (.c 0))
 [(.fin ([((.eq (.c 0) x0_),.true)]) 0 ⟨⟨[],[]⟩,[(0,0)],[],[]⟩ [(.eb (.ap 24 (.c 0) (.v 5) (.c 0) (.v 6) (.c 0) (.c 0)) (.eq (.c 0) (.op .imin x0_ (.op .imax (.c 1) (.v 6)))))] [.none])]
def cIs0_run (T:Tm):=(ex (ccM Try.prog BF [] cIs0.ow) ((fun cc=>[cOwn.entH cc,cSmP.ent cc]) (ccM Try.prog BF [] cIs0.ow)) (dw (ccM Try.prog BF [] cIs0.ow) ((fun cc=>[cOwn.entH cc,cSmP.ent cc]) (ccM Try.prog BF [] cIs0.ow)) 1000 4) (stopX []) 4000 T.f T.fs T.H).lfsM 1 (ccM Try.prog BF [] cIs0.ow) ((tmM cIs0 Try.f14 (Try.f14.body.getD .skip))::[cIs0_T1,cIs0_T2]) cIs0.os
theorem cIs0_h0:cIs0_run (tmM cIs0 Try.f14 (Try.f14.body.getD .skip))=some cIs0_L0:=by kernel_rfl
theorem cIs0_h1:cIs0_run cIs0_T1=some cIs0_L1:=by kernel_rfl
theorem cIs0_h2:cIs0_run cIs0_T2=some cIs0_L2:=by kernel_rfl
def cIs0_inv:(Nat→Int)→(Nat→Bool)→Nat→(Nat→Int)→(Nat→Bool)→Prop:=fun _ _ _ _ _=>True
def cIs0_mu:(Nat→Int)→(Nat→Bool)→Nat→(Nat→Int)→(Nat→Bool)→Nat:=fun iv0 _ k iv _=>match k with | 0=>2 ^ 90 | 1=>2 ^ 80 | _=>1
theorem cIs0_b {iv0:Nat→Int} (hin:InB cIs0.B iv0):(1≤iv0 3∧iv0 3≤64)∧((-9223372036854775808)≤iv0 4∧iv0 4≤9223372036854775807)∧((-9223372036854775808)≤iv0 6∧iv0 6≤9223372036854775807):=by
 have b3:=hin 3 1 64 (by simp [cIs0,o1,i64b,kP,pkV,flF,i64s,lmap,SI.fl,flay,flayL,wP,pk0,pkAt,mayO,i64b,lO,hO,lenB,fO,bO,plO,plN,ppV,bP])
 simp only [Int.reduceLE,reduceIte,Int.reduceNeg] at b3
 have b4:=hin 4 (-9223372036854775808) 9223372036854775807 (by simp [cIs0,o1,i64b,kP,pkV,flF,i64s,lmap,SI.fl,flay,flayL,wP,pk0,pkAt,mayO,i64b,lO,hO,lenB,fO,bO,plO,plN,ppV,bP])
 simp only [Int.reduceLE,reduceIte,Int.reduceNeg] at b4
 have b6:=hin 6 (-9223372036854775808) 9223372036854775807 (by simp [cIs0,o1,i64b,kP,pkV,flF,i64s,lmap,SI.fl,flay,flayL,wP,pk0,pkAt,mayO,i64b,lO,hO,lenB,fO,bO,plO,plN,ppV,bP])
 simp only [Int.reduceLE,reduceIte,Int.reduceNeg] at b6
 exact ⟨b3,b4,b6⟩
def cIs0_ob (k:Nat) (l:List Lf):Prop:=∀ (kv:Kv) (iv0:Nat→Int) (bv0:Nat→Bool),InB cIs0.B iv0→FT (sta FI FB kv iv0 bv0) (dlt dyn0) cIs0.F→∀ (iv:Nat→Int) (bv:Nat→Bool),Agr 7 iv0 bv0 iv bv→cIs0_inv iv0 bv0 k iv bv→∀ lf∈l,LfT (sta FI FB kv) cIs0.os (cIs0_inv iv0 bv0) (cIs0_mu iv0 bv0) k iv bv lf
theorem cIs0_o0:cIs0_ob 0 cIs0_L0:=by
 intro kv iv0 bv0 hin hF iv bv ha hi
 unfold cIs0_L0
 refine List.forall_mem_cons.2 ⟨?_,List.forall_mem_nil _⟩
 all_goals
  intro δ hf
 all_goals
  obtain ⟨b3,b4,b6⟩:=cIs0_b hin
 all_goals
  have a0:=ha.1 0 (by omega)
  have a3:=ha.1 3 (by omega)
  have a4:=ha.1 4 (by omega)
  have a5:=ha.1 5 (by omega)
  have a6:=ha.1 6 (by omega)
 all_goals
  simp only [FT,TP,SB.tp,SI.tv,sta,IB.eval,and_true,true_and,ObsT,Ob.Tv,rowT,kix,In.tiv,↓tbvT,In.tbv,get_cons,get_nil,reduceIte,Nat.reduceEqDiff,Int.reduceToNat,Int.reduceAdd,Int.reduceSub,Int.reduceLE,Int.reduceLT,Int.reduceEq,ne_eq,Bool.false_eq_true,not_true_eq_false,not_false_eq_true,true_iff,false_iff,iff_true,iff_false,false_implies,implies_true,decT,decide_true,decide_false,Bool.decide_eq_true,ap2,pb2,FI_3,FI_4,FI_8,FI_9,FI_8c,FI_8z,FI_200,FB_2,Int.toNat_natCast,Int.toNat_zero,FI_24,FB_24,cIs0_inv,cIs0_mu,cIs0,o1,othT,o1,i64b,kP,pkV,flF,i64s,lmap,SI.fl,flay,flayL,wP,pk0,pkAt,mayO,i64b,lO,hO,lenB,fO,bO,plO,plN,ppV,bP,a0,a3,a4,a5,a6] at hf hi ⊢
 all_goals
  have y1:=@isB_yes 0 (iv0 5) 0 (iv0 6)
 all_goals
  have y2:=@isB_len 0 (iv0 5) 0 (iv0 6)
 all_goals
  have y3:=isT_zero 0 (iv0 5)
 all_goals
  (repeat' (with_reducible apply And.intro))<;>first
  | omega
  | assumption
  | (unfold inM;omega)
  | exact trivial
  | (clear hin hF ha;grind)
theorem cIs0_o1:cIs0_ob 1 cIs0_L1:=by
 intro kv iv0 bv0 hin hF iv bv ha hi
 unfold cIs0_L1
 refine List.forall_mem_cons.2 ⟨?_,List.forall_mem_cons.2 ⟨?_,List.forall_mem_nil _⟩⟩
 all_goals
  intro δ hf
 all_goals
  obtain ⟨b3,b4,b6⟩:=cIs0_b hin
 all_goals
  have a0:=ha.1 0 (by omega)
  have a3:=ha.1 3 (by omega)
  have a4:=ha.1 4 (by omega)
  have a5:=ha.1 5 (by omega)
  have a6:=ha.1 6 (by omega)
 all_goals
  simp only [FT,TP,SB.tp,SI.tv,sta,IB.eval,and_true,true_and,ObsT,Ob.Tv,rowT,kix,In.tiv,↓tbvT,In.tbv,get_cons,get_nil,reduceIte,Nat.reduceEqDiff,Int.reduceToNat,Int.reduceAdd,Int.reduceSub,Int.reduceLE,Int.reduceLT,Int.reduceEq,ne_eq,Bool.false_eq_true,not_true_eq_false,not_false_eq_true,true_iff,false_iff,iff_true,iff_false,false_implies,implies_true,decT,decide_true,decide_false,Bool.decide_eq_true,ap2,pb2,FI_3,FI_4,FI_8,FI_9,FI_8c,FI_8z,FI_200,FB_2,Int.toNat_natCast,Int.toNat_zero,FI_24,FB_24,cIs0_inv,cIs0_mu,cIs0,o1,othT,o1,i64b,kP,pkV,flF,i64s,lmap,SI.fl,flay,flayL,wP,pk0,pkAt,mayO,i64b,lO,hO,lenB,fO,bO,plO,plN,ppV,bP,a0,a3,a4,a5,a6] at hf hi ⊢
 all_goals
  have y1:=@isB_yes 0 (iv0 5) 0 (iv0 6)
 all_goals
  have y2:=@isB_len 0 (iv0 5) 0 (iv0 6)
 all_goals
  have y3:=isT_zero 0 (iv0 5)
 all_goals
  (repeat' (with_reducible apply And.intro))<;>first
  | omega
  | assumption
  | (unfold inM;omega)
  | exact trivial
  | (clear hin hF ha;grind)
theorem cIs0_o2:cIs0_ob 2 cIs0_L2:=by
 intro kv iv0 bv0 hin hF iv bv ha hi
 unfold cIs0_L2
 refine List.forall_mem_cons.2 ⟨?_,List.forall_mem_nil _⟩
 all_goals
  intro δ hf
 all_goals
  obtain ⟨b3,b4,b6⟩:=cIs0_b hin
 all_goals
  have a0:=ha.1 0 (by omega)
  have a3:=ha.1 3 (by omega)
  have a4:=ha.1 4 (by omega)
  have a5:=ha.1 5 (by omega)
  have a6:=ha.1 6 (by omega)
 all_goals
  simp only [FT,TP,SB.tp,SI.tv,sta,IB.eval,and_true,true_and,ObsT,Ob.Tv,rowT,kix,In.tiv,↓tbvT,In.tbv,get_cons,get_nil,reduceIte,Nat.reduceEqDiff,Int.reduceToNat,Int.reduceAdd,Int.reduceSub,Int.reduceLE,Int.reduceLT,Int.reduceEq,ne_eq,Bool.false_eq_true,not_true_eq_false,not_false_eq_true,true_iff,false_iff,iff_true,iff_false,false_implies,implies_true,decT,decide_true,decide_false,Bool.decide_eq_true,ap2,pb2,FI_3,FI_4,FI_8,FI_9,FI_8c,FI_8z,FI_200,FB_2,Int.toNat_natCast,Int.toNat_zero,FI_24,FB_24,cIs0_inv,cIs0_mu,cIs0,o1,othT,o1,i64b,kP,pkV,flF,i64s,lmap,SI.fl,flay,flayL,wP,pk0,pkAt,mayO,i64b,lO,hO,lenB,fO,bO,plO,plN,ppV,bP,a0,a3,a4,a5,a6] at hf hi ⊢
 all_goals
  have y1:=@isB_yes 0 (iv0 5) 0 (iv0 6)
 all_goals
  have y2:=@isB_len 0 (iv0 5) 0 (iv0 6)
 all_goals
  have y3:=isT_zero 0 (iv0 5)
 all_goals
  (repeat' (with_reducible apply And.intro))<;>first
  | omega
  | assumption
  | (unfold inM;omega)
  | exact trivial
  | (clear hin hF ha;grind)
theorem cIs0_c:LsCM 1 ((tmM cIs0 Try.f14 (Try.f14.body.getD .skip))::[cIs0_T1,cIs0_T2]) cIs0.os [cIs0_L0,cIs0_L1,cIs0_L2]:=by
 unfold cIs0_L0 cIs0_L1 cIs0_L2
 exact ⟨List.forall_mem_cons.2 ⟨⟨⟨⟨_,rfl,rfl⟩,by kernel_rfl⟩,by kernel_rfl⟩,List.forall_mem_nil _⟩,List.forall_mem_cons.2 ⟨⟨⟨⟨_,rfl,rfl⟩,by kernel_rfl⟩,by kernel_rfl⟩,List.forall_mem_cons.2 ⟨⟨⟨⟨_,rfl,rfl⟩,by kernel_rfl⟩,by kernel_rfl⟩,List.forall_mem_nil _⟩⟩,List.forall_mem_cons.2 ⟨⟨⟨⟨_,rfl,rfl⟩,by kernel_rfl⟩,by kernel_rfl⟩,List.forall_mem_nil _⟩,trivial⟩
theorem cIs0_ok:cIs0.Ok Try.prog FI FB:=
 Com.of_plain (body:=Try.f14.body.getD .skip) pok fiok (EntsFor.consH cOwn_ok (EntsFor.cons cSmP_ok EntsFor.nil)) cIs0 Try.func14 (by kernel_rfl) 7 [cIs0_T1,cIs0_T2] (by kernel_rfl) [cIs0_L0,cIs0_L1,cIs0_L2] ⟨cIs0_h0,cIs0_h1,cIs0_h2,trivial⟩ cIs0_c
  cIs0_inv cIs0_mu (fun _ _ _=>trivial) fun kv iv0 bv0 hin hF k l iv bv hk ha hi=>match k,hk,hi with
  | 0,hk,hi=>by
    cases hk
    exact cIs0_o0 kv iv0 bv0 hin hF iv bv ha hi
  | 1,hk,hi=>by
    cases hk
    exact cIs0_o1 kv iv0 bv0 hin hF iv bv ha hi
  | 2,hk,hi=>by
    cases hk
    exact cIs0_o2 kv iv0 bv0 hin hF iv bv ha hi
  | k+3,hk,_=>by simp at hk
end
end Go.Sx.Pk
