/- The pool: few, by contract. -/
import Derived.Test.YtbcbpicfnfkdeaaPkSa
namespace Go.Sx.Pk
set_option linter.unusedVariables false
set_option linter.unusedSimpArgs false
set_option maxRecDepth 100000
set_option maxHeartbeats 0
noncomputable section
open Go Go.Sx Go.Proofs
def kA:List Kd:=[.nt .i64,.nt .i64,.fs 2]
def arA:List (Nat×Bk):=[(0,.arr kA (.v 0) (.v 1) 48 (.v 2))]
def cFew:Com:=⟨15,[0,1,2,3],[.sl (.n 0) (.c 0) (.v 1) (.v 2),.it .i64 (.v 3)],arA,1,[(1,0,-1),(2,0,-1),(3,0,100)],[(.le (.v 1) (.v 2),true),(.le (.v 1) (.c 4611686018427387904),true)],[⟨[],.bo (.ap 30 (.v 0) (.v 1) (.v 3) (.c 0) (.c 0) (.c 0)),arA,1,0,[]⟩],.c 0,[48]⟩
def cFew_T1:Tm:=⟨⟨15,76,[(7,(.it .i64 (.v 26))),(6,(.it .i64 (.v 27))),(5,(.it .i64 (.v 28))),(0,(.sl (.n 0) (.c 0) (.v 1) (.v 2))),(1,(.it .i64 (.v 3)))],[(.code (atC Try.f15 [1,1,0,1,0,0])),(.inLoop (atC Try.f15 [1,1,0,1,0,0])),(.inBlock 0),(.code (atC Try.f15 [1,1,1]))],[],.none⟩,[],
    ⟨[(0,(.arr [(.nt .i64),(.nt .i64),(.fs 2)] (.v 0) (.v 1) 48 (.v 2)))],1,0,0,[((.le (.v 1) (.c 4611686018427387904)),.true),((.le (.v 1) (.v 2)),.true)],[0],[(27,((-9223372036854775808),9223372036854775807)),(28,((-9223372036854775808),9223372036854775807)),(1,(0,4611686018427387904)),(2,(0,(-1))),(3,(0,100)),(26,(0,(-1)))]⟩,[26,27,28]⟩
def cFew_T2:Tm:=⟨⟨15,76,[(8,(.it .i64 (.v 29))),(6,(.it .i64 (.op .add (.v 27) (.op .imin (.ap 200 (.ap 8 (.v 0) (.v 26) (.c 2) (.c 0) (.c 10) (.c 0)) (.c 0) (.c 0) (.c 0) (.c 0) (.c 0)) (.c 101))))),(28,(.pt (.n 0) (.op .add (.op .mul (.v 26) (.c 3)) (.c 2)))),(27,(.pt (.n 0) (.op .mul (.v 26) (.c 3)))),(25,(.sl (.n 0) (.c 0) (.v 1) (.v 2))),(10,(.sl (.n 0) (.c 0) (.v 1) (.v 2))),(7,(.it .i64 (.v 26))),(5,(.it .i64 (.v 30))),(0,(.sl (.n 0) (.c 0) (.v 1) (.v 2))),(1,(.it .i64 (.v 3)))],[(.code (atC Try.f15 [1,1,0,1,0,0,1,0,0,1,1,0,0])),(.inLoop (atC Try.f15 [1,1,0,1,0,0,1,0,0,1,1,0,0])),(.inBlock 2),(.inBlock 1),(.code (atC Try.f15 [1,1,0,1,0,0,1,1])),(.inLoop (atC Try.f15 [1,1,0,1,0,0])),(.inBlock 0),(.code (atC Try.f15 [1,1,1]))],[],.none⟩,[],
    ⟨[(0,(.arr [(.nt .i64),(.nt .i64),(.fs 2)] (.v 0) (.v 1) 48 (.v 2)))],1,0,0,[((.le (.v 27) (.c 100)),.true),((.le (.v 26) (.v 3)),.true),((.lt (.v 26) (.v 1)),.true),((.le (.v 1) (.c 4611686018427387904)),.true),((.le (.v 1) (.v 2)),.true)],[0],[(30,((-9223372036854775808),9223372036854775807)),(27,((-9223372036854775808),100)),(26,(0,100)),(3,(0,100)),(1,(1,4611686018427387904)),(2,(0,(-1))),(29,(0,(-1)))]⟩,[29,30]⟩
def cFew_L0:List Lf:=
 [(let i_:In:=⟨⟨[(28,(.c 0)),(27,(.c 0)),(26,(.c 0))],[]⟩,[(0,0)],[],[]⟩;.cut ([((.le (.v 1) (.v 2)),.true),((.le (.v 1) (.c 4611686018427387904)),.true)]) 1 i_ [] (shT cFew_T1 i_))]
def cFew_L1:List Lf:=
 let f0_:List (SB×Bool):=[((.le (.v 1) (.c 4611686018427387904)),.true),((.le (.v 1) (.v 2)),.true)]
 let f1_:List (SB×Bool):=((.lt (.v 26) (.v 1)),.true)::f0_
 let f2_:List (SB×Bool):=((.lt (.v 26) (.v 1)),.false)::f0_
 let f3_:List (SB×Bool):=((.le (.v 26) (.v 3)),.true)::f1_
 let f4_:List (SB×Bool):=((.le (.v 1) (.v 3)),.true)::f2_
 let f5_:List (SB×Bool):=((.le (.v 27) (.c 100)),.false)::f3_
 [(.cut (((.le (.v 27) (.c 100)),.true)::f3_) 2 ⟨⟨[(30,(.v 28)),(29,(.c 0))],[]⟩,[(0,0)],[],[]⟩ [] (shT cFew_T2 ⟨⟨[(30,(.v 28)),(29,(.c 0))],[]⟩,[(0,0)],[],[]⟩)),
  (.fin (((.le (.v 1) (.v 3)),.true)::f5_) 0 ⟨⟨[],[]⟩,[(0,0)],[],[]⟩ [(.eb (.ap 30 (.v 0) (.v 1) (.v 3) (.c 0) (.c 0) (.c 0)) (.c .false))] [.none]),
  (.fin (((.le (.v 1) (.v 3)),.false)::f5_) 0 ⟨⟨[],[]⟩,[(0,0)],[],[]⟩ [(.eb (.ap 30 (.v 0) (.v 1) (.v 3) (.c 0) (.c 0) (.c 0)) (.c .false))] [.none]),
  (.fin (((.le (.v 26) (.v 3)),.false)::f1_) 0 ⟨⟨[],[]⟩,[(0,0)],[],[]⟩ [(.eb (.ap 30 (.v 0) (.v 1) (.v 3) (.c 0) (.c 0) (.c 0)) (.c .false))] [.none]),
  (.fin (((.le (.v 27) (.c 100)),.true)::f4_) 0 ⟨⟨[],[]⟩,[(0,0)],[],[]⟩ [(.eb (.ap 30 (.v 0) (.v 1) (.v 3) (.c 0) (.c 0) (.c 0)) (.le (.v 28) (.c 2000)))] [.none]),
  (.fin (((.le (.v 27) (.c 100)),.false)::f4_) 0 ⟨⟨[],[]⟩,[(0,0)],[],[]⟩ [(.eb (.ap 30 (.v 0) (.v 1) (.v 3) (.c 0) (.c 0) (.c 0)) (.c .false))] [.none]),
  (.fin (((.le (.v 1) (.v 3)),.false)::f2_) 0 ⟨⟨[],[]⟩,[(0,0)],[],[]⟩ [(.eb (.ap 30 (.v 0) (.v 1) (.v 3) (.c 0) (.c 0) (.c 0)) (.c .false))] [.none])]
def cFew_L2:List Lf:=
 let x0_:SI:=(.ap 8 (.v 0) (.v 26) (.c 2) (.c 0) (.c 10) (.c 0))
 let x1_:SI:=(.ap 200 x0_ (.c 0) (.c 0) (.c 0) (.c 0) (.c 0))
 let x2_:SI:=(.op .imin x1_ (.c 101))
 let f0_:List (SB×Bool):=[((.le (.v 27) (.c 100)),.true),((.le (.v 26) (.v 3)),.true),((.lt (.v 26) (.v 1)),.true),((.le (.v 1) (.c 4611686018427387904)),.true),((.le (.v 1) (.v 2)),.true)]
 let f1_:List (SB×Bool):=((.lt (.v 29) x1_),.true)::f0_
 let f2_:List (SB×Bool):=((.le (.v 29) (.c 100)),.true)::f1_
 [(let i_:In:=⟨⟨[(30,(.op .add (.v 30) (.op .imin (.ap 200 (.ap 8 x0_ (.v 29) (.c 2) (.c 0) (.c 10) (.c 0)) (.c 0) (.c 0) (.c 0) (.c 0) (.c 0)) (.c 2001)))),(29,(.op .add (.v 29) (.c 1)))],[]⟩,[(0,0)],[],[]⟩;.cut (((.le (.v 30) (.c 2000)),.true)::f2_) 2 i_ [] (shT cFew_T2 i_)),
  (let i_:In:=⟨⟨[(28,(.v 30)),(27,(.op .add (.v 27) x2_)),(26,(.op .add (.v 26) (.c 1)))],[]⟩,[(0,0)],[],[]⟩;.cut (((.le (.v 30) (.c 2000)),.false)::f2_) 1 i_ [] (shT cFew_T1 i_)),
  (let i_:In:=⟨⟨[(28,(.v 30)),(27,(.op .add (.v 27) x2_)),(26,(.op .add (.v 26) (.c 1)))],[]⟩,[(0,0)],[],[]⟩;.cut (((.le (.v 29) (.c 100)),.false)::f1_) 1 i_ [] (shT cFew_T1 i_)),
  (let i_:In:=⟨⟨[(28,(.v 30)),(27,(.op .add (.v 27) x2_)),(26,(.op .add (.v 26) (.c 1)))],[]⟩,[(0,0)],[],[]⟩;.cut (((.lt (.v 29) x1_),.false)::f0_) 1 i_ [] (shT cFew_T1 i_))]
def cFew_run (T:Tm):=(ex (ccM Try.prog BF [] cFew.ow) ((fun _=>[]) (ccM Try.prog BF [] cFew.ow)) (dw (ccM Try.prog BF [] cFew.ow) ((fun _=>[]) (ccM Try.prog BF [] cFew.ow)) 100 4) (stopX []) 20000 T.f T.fs T.H).lfsM 1 (ccM Try.prog BF [] cFew.ow) ((tmM cFew Try.f15 (Try.f15.body.getD .skip))::[cFew_T1,cFew_T2]) cFew.os
theorem cFew_h0:cFew_run (tmM cFew Try.f15 (Try.f15.body.getD .skip))=some cFew_L0:=by kernel_rfl
theorem cFew_h1:cFew_run cFew_T1=some cFew_L1:=by kernel_rfl
theorem cFew_h2:cFew_run cFew_T2=some cFew_L2:=by kernel_rfl
def cFew_inv:(Nat→Int)→(Nat→Bool)→Nat→(Nat→Int)→(Nat→Bool)→Prop:=fun iv0 _ k iv _=>match k with | 0=>True | 1=>0≤iv 26∧iv 26≤101∧0≤iv 27∧iv 27≤201∧0≤iv 28∧iv 28≤4001∧(fewT (iv0 0) (iv0 1) (iv0 3) (102 - iv 26).toNat (iv 26) (iv 27) (iv 28)=fewB (iv0 0) (iv0 1) (iv0 3)) | _=>0≤iv 26∧iv 26≤100∧iv 26 < (iv0 1)∧iv 26≤(iv0 3)∧0≤iv 27∧iv 27≤100∧0≤iv 29∧iv 29≤101∧0≤iv 30∧iv 30≤4001∧(fewT (iv0 0) (iv0 1) (iv0 3) (102 - (iv 26+1)).toNat (iv 26+1) (iv 27+(if 101 < flenC (gt (iv0 0) (iv 26).toNat 2) then 101 else flenC (gt (iv0 0) (iv 26).toNat 2))) (fewI (gt (iv0 0) (iv 26).toNat 2) (200 - iv 29).toNat (iv 29) (iv 30))=fewB (iv0 0) (iv0 1) (iv0 3))
def cFew_mu:(Nat→Int)→(Nat→Bool)→Nat→(Nat→Int)→(Nat→Bool)→Nat:=fun iv0 _ k iv _=>match k with | 0=>2 ^ 90 | 1=>((200 - iv 26) * 2000+1000).toNat | _=>((200 - iv 26) * 2000+500 - iv 29).toNat
theorem cFew_b {iv0:Nat→Int} (hin:InB cFew.B iv0):0≤iv0 1∧0≤iv0 2∧(0≤iv0 3∧iv0 3≤100):=by
 have b1:=hin 1 0 (-1) (by simp [cFew,o1,i64b,kP,pkV,flF,i64s,lmap,SI.fl,flay,flayL,wP,pk0,pkAt,mayO,i64b,lO,hO,lenB,fO,bO,plO,plN,ppV,bP,pl2,fS2,ar2,kA,arA])
 simp only [Int.reduceLE,reduceIte,Int.reduceNeg] at b1
 have b2:=hin 2 0 (-1) (by simp [cFew,o1,i64b,kP,pkV,flF,i64s,lmap,SI.fl,flay,flayL,wP,pk0,pkAt,mayO,i64b,lO,hO,lenB,fO,bO,plO,plN,ppV,bP,pl2,fS2,ar2,kA,arA])
 simp only [Int.reduceLE,reduceIte,Int.reduceNeg] at b2
 have b3:=hin 3 0 100 (by simp [cFew,o1,i64b,kP,pkV,flF,i64s,lmap,SI.fl,flay,flayL,wP,pk0,pkAt,mayO,i64b,lO,hO,lenB,fO,bO,plO,plN,ppV,bP,pl2,fS2,ar2,kA,arA])
 simp only [Int.reduceLE,reduceIte,Int.reduceNeg] at b3
 exact ⟨b1.1,b2.1,b3⟩
def cFew_ob (k:Nat) (l:List Lf):Prop:=∀ (kv:Kv) (iv0:Nat→Int) (bv0:Nat→Bool),InB cFew.B iv0→FT (sta FI FB kv iv0 bv0) (dlt dyn0) cFew.F→∀ (iv:Nat→Int) (bv:Nat→Bool),Agr 4 iv0 bv0 iv bv→cFew_inv iv0 bv0 k iv bv→∀ lf∈l,LfT (sta FI FB kv) cFew.os (cFew_inv iv0 bv0) (cFew_mu iv0 bv0) k iv bv lf
theorem cFew_o0:cFew_ob 0 cFew_L0:=by
 intro kv iv0 bv0 hin hF iv bv ha hi
 unfold cFew_L0
 refine List.forall_mem_cons.2 ⟨?_,List.forall_mem_nil _⟩
 all_goals
  intro δ hf
 all_goals
  obtain ⟨b1,b2,b3⟩:=cFew_b hin
 all_goals
  have a0:=ha.1 0 (by omega)
  have a1:=ha.1 1 (by omega)
  have a2:=ha.1 2 (by omega)
  have a3:=ha.1 3 (by omega)
 all_goals
  simp only [FT,TP,SB.tp,SI.tv,sta,IB.eval,and_true,true_and,ObsT,Ob.Tv,rowT,kix,In.tiv,↓tbvT,In.tbv,get_cons,get_nil,reduceIte,Nat.reduceEqDiff,Int.reduceToNat,Int.reduceAdd,Int.reduceSub,Int.reduceLE,Int.reduceLT,Int.reduceEq,ne_eq,Bool.false_eq_true,not_true_eq_false,not_false_eq_true,true_iff,false_iff,iff_true,iff_false,false_implies,implies_true,decT,decide_true,decide_false,Bool.decide_eq_true,ap2,pb2,FI_3,FI_4,FI_8,FI_9,FI_8c,FI_8z,FI_200,FB_2,Int.toNat_natCast,Int.toNat_zero,FB_30,cFew_inv,cFew_mu,cFew,o1,othT,o1,i64b,kP,pkV,flF,i64s,lmap,SI.fl,flay,flayL,wP,pk0,pkAt,mayO,i64b,lO,hO,lenB,fO,bO,plO,plN,ppV,bP,pl2,fS2,ar2,kA,arA,a0,a1,a2,a3] at hf hi ⊢
 all_goals
  have z0:fewT (iv0 0) (iv0 1) (iv0 3) (102 - 0:Int).toNat 0 0 0=fewB (iv0 0) (iv0 1) (iv0 3):=rfl
 all_goals
  simp only [Int.reduceSub,Int.reduceToNat] at z0
 all_goals
  (repeat' (with_reducible apply And.intro))<;>first
  | omega
  | assumption
  | (unfold inM;omega)
  | exact trivial
  | (clear hin hF ha;grind)
theorem cFew_o1:cFew_ob 1 cFew_L1:=by
 intro kv iv0 bv0 hin hF iv bv ha hi
 unfold cFew_L1
 refine List.forall_mem_cons.2 ⟨?_,List.forall_mem_cons.2 ⟨?_,List.forall_mem_cons.2 ⟨?_,List.forall_mem_cons.2 ⟨?_,List.forall_mem_cons.2 ⟨?_,List.forall_mem_cons.2 ⟨?_,List.forall_mem_cons.2 ⟨?_,List.forall_mem_nil _⟩⟩⟩⟩⟩⟩⟩
 all_goals
  intro δ hf
 all_goals
  obtain ⟨b1,b2,b3⟩:=cFew_b hin
 all_goals
  have a0:=ha.1 0 (by omega)
  have a1:=ha.1 1 (by omega)
  have a2:=ha.1 2 (by omega)
  have a3:=ha.1 3 (by omega)
 all_goals
  simp only [FT,TP,SB.tp,SI.tv,sta,IB.eval,and_true,true_and,ObsT,Ob.Tv,rowT,kix,In.tiv,↓tbvT,In.tbv,get_cons,get_nil,reduceIte,Nat.reduceEqDiff,Int.reduceToNat,Int.reduceAdd,Int.reduceSub,Int.reduceLE,Int.reduceLT,Int.reduceEq,ne_eq,Bool.false_eq_true,not_true_eq_false,not_false_eq_true,true_iff,false_iff,iff_true,iff_false,false_implies,implies_true,decT,decide_true,decide_false,Bool.decide_eq_true,ap2,pb2,FI_3,FI_4,FI_8,FI_9,FI_8c,FI_8z,FI_200,FB_2,Int.toNat_natCast,Int.toNat_zero,FB_30,cFew_inv,cFew_mu,cFew,o1,othT,o1,i64b,kP,pkV,flF,i64s,lmap,SI.fl,flay,flayL,wP,pk0,pkAt,mayO,i64b,lO,hO,lenB,fO,bO,plO,plN,ppV,bP,pl2,fS2,ar2,kA,arA,a0,a1,a2,a3] at hf hi ⊢
 all_goals
  obtain ⟨g0,g1,g2,g3,g4,g5,g6⟩:=hi
 all_goals
  have go:=fun h=>@fewT_go (iv0 0) (iv0 1) (iv0 3) (iv 26) (iv 27) (iv 28) g0 (by omega) h
 all_goals
  have en:=fun h=>@fewT_end (iv0 0) (iv0 1) (iv0 3) (iv 26) (iv 27) (iv 28) (102 - iv 26).toNat h
 all_goals
  have f0:=flenC_nn (gt (iv0 0) (iv 26).toNat 2)
 all_goals
  simp only [Int.reduceSub,Int.reduceToNat] at go
 all_goals
  (repeat' (with_reducible apply And.intro))<;>first
  | omega
  | assumption
  | (unfold inM;omega)
  | exact trivial
  | (clear hin hF ha;grind)
theorem cFew_o2:cFew_ob 2 cFew_L2:=by
 intro kv iv0 bv0 hin hF iv bv ha hi
 unfold cFew_L2
 refine List.forall_mem_cons.2 ⟨?_,List.forall_mem_cons.2 ⟨?_,List.forall_mem_cons.2 ⟨?_,List.forall_mem_cons.2 ⟨?_,List.forall_mem_nil _⟩⟩⟩⟩
 all_goals
  intro δ hf
 all_goals
  obtain ⟨b1,b2,b3⟩:=cFew_b hin
 all_goals
  have a0:=ha.1 0 (by omega)
  have a1:=ha.1 1 (by omega)
  have a2:=ha.1 2 (by omega)
  have a3:=ha.1 3 (by omega)
 all_goals
  simp only [FT,TP,SB.tp,SI.tv,sta,IB.eval,and_true,true_and,ObsT,Ob.Tv,rowT,kix,In.tiv,↓tbvT,In.tbv,get_cons,get_nil,reduceIte,Nat.reduceEqDiff,Int.reduceToNat,Int.reduceAdd,Int.reduceSub,Int.reduceLE,Int.reduceLT,Int.reduceEq,ne_eq,Bool.false_eq_true,not_true_eq_false,not_false_eq_true,true_iff,false_iff,iff_true,iff_false,false_implies,implies_true,decT,decide_true,decide_false,Bool.decide_eq_true,ap2,pb2,FI_3,FI_4,FI_8,FI_9,FI_8c,FI_8z,FI_200,FB_2,Int.toNat_natCast,Int.toNat_zero,FB_30,cFew_inv,cFew_mu,cFew,o1,othT,o1,i64b,kP,pkV,flF,i64s,lmap,SI.fl,flay,flayL,wP,pk0,pkAt,mayO,i64b,lO,hO,lenB,fO,bO,plO,plN,ppV,bP,pl2,fS2,ar2,kA,arA,a0,a1,a2,a3] at hf hi ⊢
 all_goals
  obtain ⟨g0,g1,g2,g3,g4,g5,g6,g7,g8,g9,g10⟩:=hi
 all_goals
  have go:=fun h=>@fewI_go (gt (iv0 0) (iv 26).toNat 2) (iv 29) (iv 30) g6 h
 all_goals
  have en:=fun h=>@fewI_end (gt (iv0 0) (iv 26).toNat 2) (iv 29) (iv 30) (200 - iv 29).toNat h
 all_goals
  have f0:=flenC_nn (gt (iv0 0) (iv 26).toNat 2)
 all_goals
  have f1:=flenC_nn (gt (gt (iv0 0) (iv 26).toNat 2) (iv 29).toNat 2)
 all_goals
  (repeat' (with_reducible apply And.intro))<;>first
  | omega
  | assumption
  | (unfold inM;omega)
  | exact trivial
  | (clear hin hF ha;grind)
theorem cFew_c:LsCM 1 ((tmM cFew Try.f15 (Try.f15.body.getD .skip))::[cFew_T1,cFew_T2]) cFew.os [cFew_L0,cFew_L1,cFew_L2]:=by
 unfold cFew_L0 cFew_L1 cFew_L2
 exact ⟨List.forall_mem_cons.2 ⟨⟨⟨⟨_,rfl,rfl⟩,by kernel_rfl⟩,by kernel_rfl⟩,List.forall_mem_nil _⟩,List.forall_mem_cons.2 ⟨⟨⟨⟨_,rfl,rfl⟩,by kernel_rfl⟩,by kernel_rfl⟩,List.forall_mem_cons.2 ⟨⟨⟨⟨_,rfl,rfl⟩,by kernel_rfl⟩,by kernel_rfl⟩,List.forall_mem_cons.2 ⟨⟨⟨⟨_,rfl,rfl⟩,by kernel_rfl⟩,by kernel_rfl⟩,List.forall_mem_cons.2 ⟨⟨⟨⟨_,rfl,rfl⟩,by kernel_rfl⟩,by kernel_rfl⟩,List.forall_mem_cons.2 ⟨⟨⟨⟨_,rfl,rfl⟩,by kernel_rfl⟩,by kernel_rfl⟩,List.forall_mem_cons.2 ⟨⟨⟨⟨_,rfl,rfl⟩,by kernel_rfl⟩,by kernel_rfl⟩,List.forall_mem_cons.2 ⟨⟨⟨⟨_,rfl,rfl⟩,by kernel_rfl⟩,by kernel_rfl⟩,List.forall_mem_nil _⟩⟩⟩⟩⟩⟩⟩,List.forall_mem_cons.2 ⟨⟨⟨⟨_,rfl,rfl⟩,by kernel_rfl⟩,by kernel_rfl⟩,List.forall_mem_cons.2 ⟨⟨⟨⟨_,rfl,rfl⟩,by kernel_rfl⟩,by kernel_rfl⟩,List.forall_mem_cons.2 ⟨⟨⟨⟨_,rfl,rfl⟩,by kernel_rfl⟩,by kernel_rfl⟩,List.forall_mem_cons.2 ⟨⟨⟨⟨_,rfl,rfl⟩,by kernel_rfl⟩,by kernel_rfl⟩,List.forall_mem_nil _⟩⟩⟩⟩,trivial⟩
theorem cFew_ok:cFew.Ok Try.prog FI FB:=
 Com.of_plain (body:=Try.f15.body.getD .skip) pok fiok EntsFor.nil cFew Try.func15 (by kernel_rfl) 4 [cFew_T1,cFew_T2] (by kernel_rfl) [cFew_L0,cFew_L1,cFew_L2] ⟨cFew_h0,cFew_h1,cFew_h2,trivial⟩ cFew_c
  cFew_inv cFew_mu (fun _ _ _=>trivial) fun kv iv0 bv0 hin hF k l iv bv hk ha hi=>match k,hk,hi with
  | 0,hk,hi=>by
    cases hk
    exact cFew_o0 kv iv0 bv0 hin hF iv bv ha hi
  | 1,hk,hi=>by
    cases hk
    exact cFew_o1 kv iv0 bv0 hin hF iv bv ha hi
  | 2,hk,hi=>by
    cases hk
    exact cFew_o2 kv iv0 bv0 hin hF iv bv ha hi
  | k+3,hk,_=>by simp at hk
end
end Go.Sx.Pk
