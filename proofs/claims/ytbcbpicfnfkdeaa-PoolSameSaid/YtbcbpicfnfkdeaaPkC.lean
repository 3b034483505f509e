/- The pool: a call by both, no list yet. -/
import Derived.Test.YtbcbpicfnfkdeaaPkA
namespace Go.Sx.Pk
set_option linter.unusedVariables false
set_option linter.unusedSimpArgs false
set_option maxRecDepth 100000
set_option maxHeartbeats 0
noncomputable section
open Go Go.Sx Go.Proofs
def pwC:SV:=.tp [.ag [.it .i64 (.v 4),.fs 2 (.ap 25 (.v 4) (.v 5) (.v 8) (.c 0) (.c 0) (.c 0))],.bo (.c true)]
def cDbl0:Com:=⟨12,[3,4],[ppV,.it .i64 (.v 4)],plN,1,[(3,1,64),i64b 4],[],[⟨[],.it .i64 (.c 4),plN,1,0,[]⟩],.c 0,[29]⟩
def cAct0:Com:=⟨17,[3,4,5,6,7,8],aC,plN,1,[(3,1,64),i64b 4,i64b 6,i64b 7],[(.eq (SI.fl (.v 5)) (.c 0),true),(.eq (.v 4) (.v 3),true)],[
 ⟨[isW 0 true,((.eq (.ap 22 (.v 3) (.c 0) (.v 8) (.c 0) (.c 0) (.c 0)) (.c 0)),true)],pwC,plN,1,0,[]⟩,
 ⟨[isW 0 true,((.eq (.ap 22 (.v 3) (.c 0) (.v 8) (.c 0) (.c 0) (.c 0)) (.c 0)),false)],pwC,[plR 1 (.ap 22 (.v 3) (.c 0) (.v 8) (.c 0) (.c 0) (.c 0)),arR 1 (.ap 9 (.c 0) (.c 0) (.v 8) (.c 0) (.ap 22 (.v 3) (.c 0) (.v 8) (.c 0) (.c 0) (.c 0)) (.c 0)) (.ap 22 (.v 3) (.c 0) (.v 8) (.c 0) (.c 0) (.c 0))],2,1,leR (.ap 22 (.v 3) (.c 0) (.v 8) (.c 0) (.c 0) (.c 0))⟩,
 ⟨[isW 0 false],.tp [wP 4,.bo (.c true)],plN,1,0,[]⟩],.c 0,[29]⟩
def cDbl0_L0:List Lf:=
 [(.fin ([((.le (.c 0) (.v 4)),.true)]) 0 ⟨⟨[],[]⟩,[(0,0)],[],[]⟩ [] [.none]),
  (.fin ([((.le (.c 0) (.v 4)),.false)]) 0 ⟨⟨[],[]⟩,[(0,0)],[],[]⟩ [] [.none])]
def cDbl0_run (T:Tm):=(ex (ccM Try.prog BF [] cDbl0.ow) ((fun cc=>[cOwn.entH cc]) (ccM Try.prog BF [] cDbl0.ow)) (dw (ccM Try.prog BF [] cDbl0.ow) ((fun cc=>[cOwn.entH cc]) (ccM Try.prog BF [] cDbl0.ow)) 100 4) (stopX [0,1,2,3,4,5,6,7,8,9,10,11,12,13,14,15,16,18,19,20,21,22,23,24,25,26,27,28,29,30,31,32,33,34,35,36,37,38,39,40,41,42,43,44,45,46,47,48,49,50,51,52,53,54,55,56,57,58,59,60,61,62,63,64,65,66,67,68,69,70,71,72,73,74,75,76,77,78,79,80,81,82,83,84,85,86,87,88,89,90,91,92,93,94,95,96,97,98,99,100,101,102,103,104,105,106,107,108,109,110,111,112,113,114,115,116,117,118,119,120,121,122,123,124,125,126,127,128,129,130,131,132,133,134,135,136,137,138,139,140,141,142,143,144,145,146,147,148,149,150,151,152,153,154,155,156,157,158,159,160,161,162,163,164,165,166,167,168,169,170,171,172,173,174,175,176,177,178,179,180,181,182,183,184,185,186,187,188,189,190,191,192,193,194,195,196,197,198,199,200,201,202,203,204,205,206,207,208,209,210,211,212,213,214,215,216,217,218,219,220,221,222,223,224,225,226,227,228,229,230,231,232,233,234,235,236,237,238,239,240,241,242,243,244,245,246,247,248,249]) 200000 T.f T.fs T.H).lfsM 1 (ccM Try.prog BF [] cDbl0.ow) ((tmM cDbl0 Try.f12 (Try.f12.body.getD .skip))::[]) cDbl0.os
theorem cDbl0_h0:cDbl0_run (tmM cDbl0 Try.f12 (Try.f12.body.getD .skip))=some cDbl0_L0:=by kernel_rfl
def cDbl0_inv:(Nat→Int)→(Nat→Bool)→Nat→(Nat→Int)→(Nat→Bool)→Prop:=fun _ _ _ _ _=>True
def cDbl0_mu:(Nat→Int)→(Nat→Bool)→Nat→(Nat→Int)→(Nat→Bool)→Nat:=fun _ _ _ _ _=>0
theorem cDbl0_b {iv0:Nat→Int} (hin:InB cDbl0.B iv0):(1≤iv0 3∧iv0 3≤64)∧((-9223372036854775808)≤iv0 4∧iv0 4≤9223372036854775807):=by
 have b3:=hin 3 1 64 (by simp [cDbl0,o1,i64b,kP,pkV,flF,i64s,lmap,SI.fl,flay,flayL,wP,pk0,pkAt,mayO,i64b,lO,hO,lenB,fO,bO,plO,plN,ppV,bP,plA,arP,fT,bT,rgT,n1T,toF,plR,arR,bkR,leR,outR,fcR,outC,isW,rgC,fC,aC,bC,pwC])
 simp only [Int.reduceLE,reduceIte,Int.reduceNeg] at b3
 have b4:=hin 4 (-9223372036854775808) 9223372036854775807 (by simp [cDbl0,o1,i64b,kP,pkV,flF,i64s,lmap,SI.fl,flay,flayL,wP,pk0,pkAt,mayO,i64b,lO,hO,lenB,fO,bO,plO,plN,ppV,bP,plA,arP,fT,bT,rgT,n1T,toF,plR,arR,bkR,leR,outR,fcR,outC,isW,rgC,fC,aC,bC,pwC])
 simp only [Int.reduceLE,reduceIte,Int.reduceNeg] at b4
 exact ⟨b3,b4⟩
def cDbl0_ob (k:Nat) (l:List Lf):Prop:=∀ (kv:Kv) (iv0:Nat→Int) (bv0:Nat→Bool),InB cDbl0.B iv0→FT (sta FI FB kv iv0 bv0) (dlt dyn0) cDbl0.F→∀ (iv:Nat→Int) (bv:Nat→Bool),Agr 5 iv0 bv0 iv bv→cDbl0_inv iv0 bv0 k iv bv→∀ lf∈l,LfT (sta FI FB kv) cDbl0.os (cDbl0_inv iv0 bv0) (cDbl0_mu iv0 bv0) k iv bv lf
theorem cDbl0_o0:cDbl0_ob 0 cDbl0_L0:=by
 intro kv iv0 bv0 hin hF iv bv ha hi
 unfold cDbl0_L0
 refine List.forall_mem_cons.2 ⟨?_,List.forall_mem_cons.2 ⟨?_,List.forall_mem_nil _⟩⟩
 all_goals
  intro δ hf
 all_goals
  obtain ⟨b3,b4⟩:=cDbl0_b hin
 all_goals
  have a3:=ha.1 3 (by omega)
  have a4:=ha.1 4 (by omega)
 all_goals
  simp only [FT,TP,SB.tp,SI.tv,sta,IB.eval,and_true,true_and,ObsT,Ob.Tv,rowT,kix,In.tiv,↓tbvT,In.tbv,get_cons,get_nil,reduceIte,Nat.reduceEqDiff,Int.reduceToNat,Int.reduceAdd,Int.reduceSub,Int.reduceLE,Int.reduceLT,Int.reduceEq,ne_eq,Bool.false_eq_true,not_true_eq_false,not_false_eq_true,true_iff,false_iff,iff_true,iff_false,false_implies,implies_true,decT,decide_true,decide_false,Bool.decide_eq_true,ap2,pb2,FI_3,FI_4,FI_8,FI_9,FI_8c,FI_8z,FB_2,Int.toNat_natCast,Int.toNat_zero,cDbl0_inv,cDbl0_mu,cDbl0,o1,othT,o1,i64b,kP,pkV,flF,i64s,lmap,SI.fl,flay,flayL,wP,pk0,pkAt,mayO,i64b,lO,hO,lenB,fO,bO,plO,plN,ppV,bP,plA,arP,fT,bT,rgT,n1T,toF,plR,arR,bkR,leR,outR,fcR,outC,isW,rgC,fC,aC,bC,pwC,a3,a4] at hf hi ⊢
 all_goals
  have z0:=flenC_zero
 all_goals
  (repeat' (with_reducible apply And.intro))<;>first
  | omega
  | assumption
  | (unfold inM;omega)
  | exact trivial
  | (clear hin hF ha;grind)
theorem cDbl0_c:LsCM 1 ((tmM cDbl0 Try.f12 (Try.f12.body.getD .skip))::[]) cDbl0.os [cDbl0_L0]:=by
 unfold cDbl0_L0
 exact ⟨List.forall_mem_cons.2 ⟨⟨⟨⟨_,rfl,rfl⟩,by kernel_rfl⟩,by kernel_rfl⟩,List.forall_mem_cons.2 ⟨⟨⟨⟨_,rfl,rfl⟩,by kernel_rfl⟩,by kernel_rfl⟩,List.forall_mem_nil _⟩⟩,trivial⟩
theorem cDbl0_ok:cDbl0.Ok Try.prog FI FB:=
 Com.of_plain (body:=Try.f12.body.getD .skip) pok fiok (EntsFor.consH cOwn_ok EntsFor.nil) cDbl0 Try.func12 (by kernel_rfl) 5 [] (by kernel_rfl) [cDbl0_L0] ⟨cDbl0_h0,trivial⟩ cDbl0_c
  cDbl0_inv cDbl0_mu (fun _ _ _=>trivial) fun kv iv0 bv0 hin hF k l iv bv hk ha hi=>match k,hk,hi with
  | 0,hk,hi=>by
    cases hk
    exact cDbl0_o0 kv iv0 bv0 hin hF iv bv ha hi
  | k+1,hk,_=>by simp at hk
def cAct0_T1:Tm:=⟨⟨17,158,[(24,(.it .i64 (.c 0))),(23,(.it .i64 (.c 0))),(22,.sn),(117,(.pt (.n 0) (.c 0))),(6,(.pt (.n 3) (.c 0))),(5,(.pt (.n 2) (.c 0))),(4,(.pt (.n 1) (.c 0))),(0,(.pt (.n 0) (.c 0)))],[(.code (atC Try.f17 [1,0,1,0,1,1,1,1,1,1,1,1,1,0,1,1,0,1,0,0])),(.inLoop (atC Try.f17 [1,0,1,0,1,1,1,1,1,1,1,1,1,0,1,1,0,1,0,0])),(.inBlock 1),(.code (atC Try.f17 [1,0,1,0,1,1,1,1,1,1,1,1,1,0,1,1,1])),(.inBlock 0),(.code (atC Try.f17 [1,1]))],[],.none⟩,[],
    ⟨[(0,(.cells [.sn,(.it .i64 (.v 3))] 59)),(1,(.cells [(.it .i64 (.v 4)),(.fs 2 (.v 5))] 41)),(2,(.cells [(.it .i64 (.v 6)),(.it .i64 (.v 7)),(.fs 2 (.v 8))] 48)),(3,(.cells [(.it .i64 (.c 0)),.sn] 41))],4,0,0,[((.eq (.v 6) (.c 4)),.true),((.eq (.v 6) (.c 3)),.false),((.eq (.v 6) (.c 2)),.false),((.eq (.v 6) (.c 1)),.false),((.eq (.v 6) (.c 0)),.false),((.eq (.ap 200 (.v 5) (.c 0) (.c 0) (.c 0) (.c 0) (.c 0)) (.c 0)),.true),((.eq (.v 4) (.v 3)),.true)],[0],[(6,(4,4)),(3,(1,64)),(4,((-9223372036854775808),9223372036854775807)),(6,((-9223372036854775808),9223372036854775807)),(7,((-9223372036854775808),9223372036854775807))]⟩,[]⟩
def cAct0_L0:List Lf:=
 let p0_:SB×Bool:=((.le (.c 0) (.v 7)),.true)
 let p1_:SB×Bool:=((.le (.c 0) (.v 7)),.false)
 let x2_:SI:=(.ap 22 (.v 3) (.c 0) (.v 8) (.c 0) (.c 0) (.c 0))
 let x3_:SI:=(.ap 21 (.v 3) (.c 0) (.v 8) (.c 0) (.c 0) (.c 0))
 let x4_:SI:=(.ap 200 (.v 5) (.c 0) (.c 0) (.c 0) (.c 0) (.c 0))
 let x5_:SI:=(.ap 21 (.v 4) x4_ (.v 8) (.c 0) (.c 0) (.c 0))
 let f0_:List (SB×Bool):=[((.eq x4_ (.c 0)),.true),((.eq (.v 4) (.v 3)),.true)]
 let f1_:List (SB×Bool):=((.eq (.v 6) (.c 0)),.true)::f0_
 let f2_:List (SB×Bool):=((.eq (.v 6) (.c 0)),.false)::f0_
 let f3_:List (SB×Bool):=((.eq (.v 6) (.c 1)),.true)::f2_
 let f4_:List (SB×Bool):=((.eq (.v 6) (.c 1)),.false)::f2_
 let f5_:List (SB×Bool):=((.eq (.v 6) (.c 2)),.true)::f4_
 let f6_:List (SB×Bool):=((.eq (.v 6) (.c 2)),.false)::f4_
 let f7_:List (SB×Bool):=((.eq (.v 6) (.c 3)),.true)::f6_
 let f8_:List (SB×Bool):=((.eq (.v 6) (.c 3)),.false)::f6_
 [(.fin (((.eq x2_ (.c 0)),.true)::f1_) 0 ⟨⟨[],[]⟩,[(0,0)],[],[]⟩ [(.eb (.c .true) (.eq x3_ x5_))] [.none]),
  (.fin (((.le x2_ (.d 0)),.true)::((.eq x2_ (.c 0)),.false)::f1_) 1 ⟨⟨[],[]⟩,[(1,5),(0,0)],[(0,(.d 0))],[]⟩ [(.eb (.c .true) (.eq x3_ x5_))] [.none,.none]),
  (.fin (p0_::f3_) 2 ⟨⟨[],[]⟩,[(0,0)],[],[]⟩ [(.eb (.c .true) (.and (.eq (.c 0) (.c 0)) (.and (.eq (.c 0) (.c 0)) (.ap 2 (.c 0) (.c 0) (.c 0) (.c 0) (.c 0) (.c 0)))))] [.none]),
  (.fin (p1_::f3_) 2 ⟨⟨[],[]⟩,[(0,0)],[],[]⟩ [(.eb (.c .true) (.and (.eq (.c 0) (.c 0)) (.and (.eq (.c 0) (.c 0)) (.ap 2 (.c 0) (.c 0) (.c 0) (.c 0) (.c 0) (.c 0)))))] [.none]),
  (.fin (p0_::f5_) 2 ⟨⟨[],[]⟩,[(0,0)],[],[]⟩ [] [.none]),
  (.fin (p1_::f5_) 2 ⟨⟨[],[]⟩,[(0,0)],[],[]⟩ [] [.none]),
  (.fin (p0_::f7_) 2 ⟨⟨[],[]⟩,[(0,0)],[],[]⟩ [(.eb (.c .true) (.and (.eq (.c 0) (.c 0)) (.and (.eq (.c 0) (.c 0)) (.ap 2 (.c 0) (.c 0) (.c 0) (.c 0) (.c 0) (.c 0)))))] [.none]),
  (.fin (p1_::f7_) 2 ⟨⟨[],[]⟩,[(0,0)],[],[]⟩ [(.eb (.c .true) (.and (.eq (.c 0) (.c 0)) (.and (.eq (.c 0) (.c 0)) (.ap 2 (.c 0) (.c 0) (.c 0) (.c 0) (.c 0) (.c 0)))))] [.none]),
  (.cut (((.eq (.v 6) (.c 4)),.true)::f8_) 1 ⟨⟨[],[]⟩,[(1,1),(2,2),(3,3),(0,0)],[],[]⟩ [] (shT cAct0_T1 ⟨⟨[],[]⟩,[(1,1),(2,2),(3,3),(0,0)],[],[]⟩)),
  (.fin (((.eq (.v 6) (.c 4)),.false)::f8_) 2 ⟨⟨[],[]⟩,[(0,0)],[],[]⟩ [] [.none])]
def cAct0_L1:List Lf:=
 [(.fin ([((.eq (.v 6) (.c 4)),.true),((.eq (.v 6) (.c 3)),.false),((.eq (.v 6) (.c 2)),.false),((.eq (.v 6) (.c 1)),.false),((.eq (.v 6) (.c 0)),.false),((.eq (.ap 200 (.v 5) (.c 0) (.c 0) (.c 0) (.c 0) (.c 0)) (.c 0)),.true),((.eq (.v 4) (.v 3)),.true)]) 2 ⟨⟨[],[]⟩,[(0,0)],[],[]⟩ [] [.none])]
def cAct0_run (T:Tm):=(ex (ccM Try.prog BF [] cAct0.ow) ((fun cc=>[cOwn.entH cc,cSmP.ent cc,cPut0.ent cc,cDbl0.ent cc,cRPut.entH cc,cRTake.entH cc,cRDbl.entH cc]) (ccM Try.prog BF [] cAct0.ow)) (dw (ccM Try.prog BF [] cAct0.ow) ((fun cc=>[cOwn.entH cc,cSmP.ent cc,cPut0.ent cc,cDbl0.ent cc,cRPut.entH cc,cRTake.entH cc,cRDbl.entH cc]) (ccM Try.prog BF [] cAct0.ow)) 100 4) (stopX [0,1,2,3,4,5,6,7,8,9,10,11,12,13,14,15,16,18,19,20,21,22,23,24,25,26,27,28,29,30,31,32,33,34,35,36,37,38,39,40,41,42,43,44,45,46,47,48,49,50,51,52,53,54,55,56,57,58,59,60,61,62,63,64,65,66,67,68,69,70,71,72,73,74,75,76,77,78,79,80,81,82,83,84,85,86,87,88,89,90,91,92,93,94,95,96,97,98,99,100,101,102,103,104,105,106,107,108,109,110,111,112,113,114,115,116,117,118,119,120,121,122,123,124,125,126,127,128,129,130,131,132,133,134,135,136,137,138,139,140,141,142,143,144,145,146,147,148,149,150,151,152,153,154,155,156,157,158,159,160,161,162,163,164,165,166,167,168,169,170,171,172,173,174,175,176,177,178,179,180,181,182,183,184,185,186,187,188,189,190,191,192,193,194,195,196,197,198,199,200,201,202,203,204,205,206,207,208,209,210,211,212,213,214,215,216,217,218,219,220,221,222,223,224,225,226,227,228,229,230,231,232,233,234,235,236,237,238,239,240,241,242,243,244,245,246,247,248,249]) 200000 T.f T.fs T.H).lfsM 1 (ccM Try.prog BF [] cAct0.ow) ((tmM cAct0 Try.f17 (Try.f17.body.getD .skip))::[cAct0_T1]) cAct0.os
theorem cAct0_h0:cAct0_run (tmM cAct0 Try.f17 (Try.f17.body.getD .skip))=some cAct0_L0:=by kernel_rfl
theorem cAct0_h1:cAct0_run cAct0_T1=some cAct0_L1:=by kernel_rfl
def cAct0_inv:(Nat→Int)→(Nat→Bool)→Nat→(Nat→Int)→(Nat→Bool)→Prop:=fun _ _ _ _ _=>True
def cAct0_mu:(Nat→Int)→(Nat→Bool)→Nat→(Nat→Int)→(Nat→Bool)→Nat:=fun iv0 _ k iv _=>match k with | 0=>2 ^ 90 | _=>1
theorem cAct0_b {iv0:Nat→Int} (hin:InB cAct0.B iv0):(1≤iv0 3∧iv0 3≤64)∧((-9223372036854775808)≤iv0 4∧iv0 4≤9223372036854775807)∧((-9223372036854775808)≤iv0 6∧iv0 6≤9223372036854775807)∧((-9223372036854775808)≤iv0 7∧iv0 7≤9223372036854775807):=by
 have b3:=hin 3 1 64 (by simp [cAct0,o1,i64b,kP,pkV,flF,i64s,lmap,SI.fl,flay,flayL,wP,pk0,pkAt,mayO,i64b,lO,hO,lenB,fO,bO,plO,plN,ppV,bP,plA,arP,fT,bT,rgT,n1T,toF,plR,arR,bkR,leR,outR,fcR,outC,isW,rgC,fC,aC,bC,pwC])
 simp only [Int.reduceLE,reduceIte,Int.reduceNeg] at b3
 have b4:=hin 4 (-9223372036854775808) 9223372036854775807 (by simp [cAct0,o1,i64b,kP,pkV,flF,i64s,lmap,SI.fl,flay,flayL,wP,pk0,pkAt,mayO,i64b,lO,hO,lenB,fO,bO,plO,plN,ppV,bP,plA,arP,fT,bT,rgT,n1T,toF,plR,arR,bkR,leR,outR,fcR,outC,isW,rgC,fC,aC,bC,pwC])
 simp only [Int.reduceLE,reduceIte,Int.reduceNeg] at b4
 have b6:=hin 6 (-9223372036854775808) 9223372036854775807 (by simp [cAct0,o1,i64b,kP,pkV,flF,i64s,lmap,SI.fl,flay,flayL,wP,pk0,pkAt,mayO,i64b,lO,hO,lenB,fO,bO,plO,plN,ppV,bP,plA,arP,fT,bT,rgT,n1T,toF,plR,arR,bkR,leR,outR,fcR,outC,isW,rgC,fC,aC,bC,pwC])
 simp only [Int.reduceLE,reduceIte,Int.reduceNeg] at b6
 have b7:=hin 7 (-9223372036854775808) 9223372036854775807 (by simp [cAct0,o1,i64b,kP,pkV,flF,i64s,lmap,SI.fl,flay,flayL,wP,pk0,pkAt,mayO,i64b,lO,hO,lenB,fO,bO,plO,plN,ppV,bP,plA,arP,fT,bT,rgT,n1T,toF,plR,arR,bkR,leR,outR,fcR,outC,isW,rgC,fC,aC,bC,pwC])
 simp only [Int.reduceLE,reduceIte,Int.reduceNeg] at b7
 exact ⟨b3,b4,b6,b7⟩
def cAct0_ob (k:Nat) (l:List Lf):Prop:=∀ (kv:Kv) (iv0:Nat→Int) (bv0:Nat→Bool),InB cAct0.B iv0→FT (sta FI FB kv iv0 bv0) (dlt dyn0) cAct0.F→∀ (iv:Nat→Int) (bv:Nat→Bool),Agr 9 iv0 bv0 iv bv→cAct0_inv iv0 bv0 k iv bv→∀ lf∈l,LfT (sta FI FB kv) cAct0.os (cAct0_inv iv0 bv0) (cAct0_mu iv0 bv0) k iv bv lf
theorem cAct0_o0:cAct0_ob 0 cAct0_L0:=by
 intro kv iv0 bv0 hin hF iv bv ha hi
 unfold cAct0_L0
 refine List.forall_mem_cons.2 ⟨?_,List.forall_mem_cons.2 ⟨?_,List.forall_mem_cons.2 ⟨?_,List.forall_mem_cons.2 ⟨?_,List.forall_mem_cons.2 ⟨?_,List.forall_mem_cons.2 ⟨?_,List.forall_mem_cons.2 ⟨?_,List.forall_mem_cons.2 ⟨?_,List.forall_mem_cons.2 ⟨?_,List.forall_mem_cons.2 ⟨?_,List.forall_mem_nil _⟩⟩⟩⟩⟩⟩⟩⟩⟩⟩
 all_goals
  intro δ hf
 all_goals
  obtain ⟨b3,b4,b6,b7⟩:=cAct0_b hin
 all_goals
  have a3:=ha.1 3 (by omega)
  have a4:=ha.1 4 (by omega)
  have a5:=ha.1 5 (by omega)
  have a6:=ha.1 6 (by omega)
  have a7:=ha.1 7 (by omega)
  have a8:=ha.1 8 (by omega)
 all_goals
  simp only [FT,TP,SB.tp,SI.tv,sta,IB.eval,and_true,true_and,ObsT,Ob.Tv,rowT,kix,In.tiv,↓tbvT,In.tbv,get_cons,get_nil,reduceIte,Nat.reduceEqDiff,Int.reduceToNat,Int.reduceAdd,Int.reduceSub,Int.reduceLE,Int.reduceLT,Int.reduceEq,ne_eq,Bool.false_eq_true,not_true_eq_false,not_false_eq_true,true_iff,false_iff,iff_true,iff_false,false_implies,implies_true,decT,decide_true,decide_false,Bool.decide_eq_true,ap2,pb2,FI_3,FI_4,FI_8,FI_9,FI_8c,FI_8z,FI_200,FB_2,Int.toNat_natCast,Int.toNat_zero,FI_21,FI_22,FI_25,FB_25,cAct0_inv,cAct0_mu,cAct0,o1,othT,o1,i64b,kP,pkV,flF,i64s,lmap,SI.fl,flay,flayL,wP,pk0,pkAt,mayO,i64b,lO,hO,lenB,fO,bO,plO,plN,ppV,bP,plA,arP,fT,bT,rgT,n1T,toF,plR,arR,bkR,leR,outR,fcR,outC,isW,rgC,fC,aC,bC,pwC,a3,a4,a5,a6,a7,a8] at hf hi ⊢
 all_goals
  have z0:=flenC_zero
 all_goals
  (repeat' (with_reducible apply And.intro))<;>first
  | omega
  | assumption
  | (unfold inM;omega)
  | exact trivial
  | (clear hin hF ha;grind)
theorem cAct0_o1:cAct0_ob 1 cAct0_L1:=by
 intro kv iv0 bv0 hin hF iv bv ha hi
 unfold cAct0_L1
 refine List.forall_mem_cons.2 ⟨?_,List.forall_mem_nil _⟩
 all_goals
  intro δ hf
 all_goals
  obtain ⟨b3,b4,b6,b7⟩:=cAct0_b hin
 all_goals
  have a3:=ha.1 3 (by omega)
  have a4:=ha.1 4 (by omega)
  have a5:=ha.1 5 (by omega)
  have a6:=ha.1 6 (by omega)
  have a7:=ha.1 7 (by omega)
  have a8:=ha.1 8 (by omega)
 all_goals
  simp only [FT,TP,SB.tp,SI.tv,sta,IB.eval,and_true,true_and,ObsT,Ob.Tv,rowT,kix,In.tiv,↓tbvT,In.tbv,get_cons,get_nil,reduceIte,Nat.reduceEqDiff,Int.reduceToNat,Int.reduceAdd,Int.reduceSub,Int.reduceLE,Int.reduceLT,Int.reduceEq,ne_eq,Bool.false_eq_true,not_true_eq_false,not_false_eq_true,true_iff,false_iff,iff_true,iff_false,false_implies,implies_true,decT,decide_true,decide_false,Bool.decide_eq_true,ap2,pb2,FI_3,FI_4,FI_8,FI_9,FI_8c,FI_8z,FI_200,FB_2,Int.toNat_natCast,Int.toNat_zero,FI_21,FI_22,FI_25,FB_25,cAct0_inv,cAct0_mu,cAct0,o1,othT,o1,i64b,kP,pkV,flF,i64s,lmap,SI.fl,flay,flayL,wP,pk0,pkAt,mayO,i64b,lO,hO,lenB,fO,bO,plO,plN,ppV,bP,plA,arP,fT,bT,rgT,n1T,toF,plR,arR,bkR,leR,outR,fcR,outC,isW,rgC,fC,aC,bC,pwC,a3,a4,a5,a6,a7,a8] at hf hi ⊢
 all_goals
  have z0:=flenC_zero
 all_goals
  (repeat' (with_reducible apply And.intro))<;>first
  | omega
  | assumption
  | (unfold inM;omega)
  | exact trivial
  | (clear hin hF ha;grind)
theorem cAct0_c:LsCM 1 ((tmM cAct0 Try.f17 (Try.f17.body.getD .skip))::[cAct0_T1]) cAct0.os [cAct0_L0,cAct0_L1]:=by
 unfold cAct0_L0 cAct0_L1
 exact ⟨List.forall_mem_cons.2 ⟨⟨⟨⟨_,rfl,rfl⟩,by kernel_rfl⟩,by kernel_rfl⟩,List.forall_mem_cons.2 ⟨⟨⟨⟨_,rfl,rfl⟩,by kernel_rfl⟩,by kernel_rfl⟩,List.forall_mem_cons.2 ⟨⟨⟨⟨_,rfl,rfl⟩,by kernel_rfl⟩,by kernel_rfl⟩,List.forall_mem_cons.2 ⟨⟨⟨⟨_,rfl,rfl⟩,by kernel_rfl⟩,by kernel_rfl⟩,List.forall_mem_cons.2 ⟨⟨⟨⟨_,rfl,rfl⟩,by kernel_rfl⟩,by kernel_rfl⟩,List.forall_mem_cons.2 ⟨⟨⟨⟨_,rfl,rfl⟩,by kernel_rfl⟩,by kernel_rfl⟩,List.forall_mem_cons.2 ⟨⟨⟨⟨_,rfl,rfl⟩,by kernel_rfl⟩,by kernel_rfl⟩,List.forall_mem_cons.2 ⟨⟨⟨⟨_,rfl,rfl⟩,by kernel_rfl⟩,by kernel_rfl⟩,List.forall_mem_cons.2 ⟨⟨⟨⟨_,rfl,rfl⟩,by kernel_rfl⟩,by kernel_rfl⟩,List.forall_mem_cons.2 ⟨⟨⟨⟨_,rfl,rfl⟩,by kernel_rfl⟩,by kernel_rfl⟩,List.forall_mem_nil _⟩⟩⟩⟩⟩⟩⟩⟩⟩⟩,List.forall_mem_cons.2 ⟨⟨⟨⟨_,rfl,rfl⟩,by kernel_rfl⟩,by kernel_rfl⟩,List.forall_mem_nil _⟩,trivial⟩
theorem cAct0_ok:cAct0.Ok Try.prog FI FB:=
 Com.of_plain (body:=Try.f17.body.getD .skip) pok fiok (EntsFor.consH cOwn_ok (EntsFor.cons cSmP_ok (EntsFor.consM cPut0_ok (EntsFor.consM cDbl0_ok (EntsFor.consH cRPut_ok (EntsFor.consH cRTake_ok (EntsFor.consH cRDbl_ok EntsFor.nil))))))) cAct0 Try.func17 (by kernel_rfl) 9 [cAct0_T1] (by kernel_rfl) [cAct0_L0,cAct0_L1] ⟨cAct0_h0,cAct0_h1,trivial⟩ cAct0_c
  cAct0_inv cAct0_mu (fun _ _ _=>trivial) fun kv iv0 bv0 hin hF k l iv bv hk ha hi=>match k,hk,hi with
  | 0,hk,hi=>by
    cases hk
    exact cAct0_o0 kv iv0 bv0 hin hF iv bv ha hi
  | 1,hk,hi=>by
    cases hk
    exact cAct0_o1 kv iv0 bv0 hin hF iv bv ha hi
  | k+2,hk,_=>by simp at hk
end
end Go.Sx.Pk
