/- The pool: Same, by contract. -/
import Derived.Test.YtbcbpicfnfkdeaaPkSa
namespace Go.Sx.Pk
set_option linter.unusedVariables false
set_option linter.unusedSimpArgs false
set_option maxRecDepth 100000
set_option maxHeartbeats 0
noncomputable section
open Go Go.Sx Go.Proofs
def cEqF_T1:Tm:=⟨⟨34,32,[(17,(.it .i64 (.v 27))),(16,(.it .i64 (.v 1))),(15,(.sl (.n 0) (.c 0) (.v 1) (.v 2))),(12,(.sl (.n 1) (.c 0) (.v 5) (.v 6))),(10,(.sl (.n 0) (.c 0) (.v 1) (.v 2))),(0,(.sl (.n 0) (.c 0) (.v 1) (.v 2))),(1,(.sl (.n 1) (.c 0) (.v 5) (.v 6))),(2,(.fn 35 [] []))],[(.code (atC Try.f34 [1,1,0,1,0,0])),(.inLoop (atC Try.f34 [1,1,0,1,0,0])),(.inBlock 0),(.code (atC Try.f34 [1,1,1]))],[],.none⟩,[],
    ⟨[(0,(.arr [(.nt .i64),(.nt .i64),(.fs 0)] (.v 0) (.v 1) 29 (.v 2))),(1,(.arr [(.nt .i64),(.nt .i64),(.fs 0)] (.v 4) (.v 5) 29 (.v 6)))],2,0,0,[((.eq (.v 1) (.v 5)),.true),((.ap 26 (.v 0) (.v 1) (.c 0) (.c 0) (.c 0) (.c 0)),.true),((.ap 26 (.v 4) (.v 5) (.c 0) (.c 0) (.c 0) (.c 0)),.true),((.le (.v 1) (.c 4096)),.true),((.le (.v 5) (.c 4096)),.true),((.le (.v 1) (.v 2)),.true),((.le (.v 5) (.v 6)),.true)],[0],[(1,(0,4096)),(2,(0,(-1))),(5,(0,4096)),(6,(0,(-1))),(27,(0,(-1)))]⟩,[27]⟩
def cEqF_L0:List Lf:=
 let f0_:List (SB×Bool):=[((.ap 26 (.v 0) (.v 1) (.c 0) (.c 0) (.c 0) (.c 0)),.true),((.ap 26 (.v 4) (.v 5) (.c 0) (.c 0) (.c 0) (.c 0)),.true),((.le (.v 1) (.v 2)),.true),((.le (.v 1) (.c 4096)),.true),((.le (.v 5) (.v 6)),.true),((.le (.v 5) (.c 4096)),.true)]
 [(.cut (((.eq (.v 1) (.v 5)),.true)::f0_) 1 ⟨⟨[(27,(.c 0))],[]⟩,[(1,1),(0,0)],[],[]⟩ [] (shT cEqF_T1 ⟨⟨[(27,(.c 0))],[]⟩,[(1,1),(0,0)],[],[]⟩)),
  (.fin (((.eq (.v 1) (.v 5)),.false)::f0_) 0 ⟨⟨[],[]⟩,[(1,1),(0,0)],[],[]⟩ [(.eb (.ap 29 (.v 0) (.v 4) (.v 1) (.v 5) (.c 0) (.c 0)) (.c .false))] [.none,.none])]
def cEqF_L1:List Lf:=
 let x0_:SI:=(.ap 3 (.v 0) (.v 27) (.c 0) (.c 0) (.c 0) (.c 0))
 let x1_:SI:=(.ap 3 (.v 4) (.v 27) (.c 0) (.c 0) (.c 0) (.c 0))
 let x2_:SI:=(.ap 3 (.v 0) (.v 27) (.c 1) (.c 0) (.c 0) (.c 0))
 let x3_:SI:=(.ap 3 (.v 4) (.v 27) (.c 1) (.c 0) (.c 0) (.c 0))
 let x4_:SI:=(.ap 8 (.v 0) (.v 27) (.c 2) (.c 0) (.c 10) (.c 0))
 let x5_:SI:=(.ap 8 (.v 4) (.v 27) (.c 2) (.c 0) (.c 10) (.c 0))
 let x6_:SI:=(.ap 200 x4_ (.c 0) (.c 0) (.c 0) (.c 0) (.c 0))
 let x7_:SI:=(.ap 200 x5_ (.c 0) (.c 0) (.c 0) (.c 0) (.c 0))
 let f0_:List (SB×Bool):=[((.eq (.v 1) (.v 5)),.true),((.ap 26 (.v 0) (.v 1) (.c 0) (.c 0) (.c 0) (.c 0)),.true),((.ap 26 (.v 4) (.v 5) (.c 0) (.c 0) (.c 0) (.c 0)),.true),((.le (.v 1) (.c 4096)),.true),((.le (.v 5) (.c 4096)),.true),((.le (.v 1) (.v 2)),.true),((.le (.v 5) (.v 6)),.true)]
 let f1_:List (SB×Bool):=((.lt (.v 27) (.v 1)),.true)::f0_
 let f2_:List (SB×Bool):=((.eq x0_ x1_),.true)::f1_
 let f3_:List (SB×Bool):=((.eq x2_ x3_),.true)::f2_
 let f4_:List (SB×Bool):=((.le x6_ (.c 65536)),.true)::f3_
 let f5_:List (SB×Bool):=((.le x7_ (.c 65536)),.true)::f4_
 [(let i_:In:=⟨⟨[(27,(.op .add (.v 27) (.c 1)))],[]⟩,[(1,1),(0,0)],[],[]⟩;.cut (((.ap 2 x4_ x5_ (.c 0) (.c 0) (.c 0) (.c 0)),.true)::f5_) 1 i_ [] (shT cEqF_T1 i_)),
  (.fin (((.ap 2 x4_ x5_ (.c 0) (.c 0) (.c 0) (.c 0)),.false)::f5_) 0 ⟨⟨[],[]⟩,[(1,1),(0,0)],[],[]⟩ [(.eb (.ap 29 (.v 0) (.v 4) (.v 1) (.v 5) (.c 0) (.c 0)) (.c .false))] [.none,.none]),
  (.bad (((.le x7_ (.c 65536)),.false)::f4_)),
  (.bad (((.le x6_ (.c 65536)),.false)::f3_)),
  (.fin (((.eq x2_ x3_),.false)::f2_) 0 ⟨⟨[],[]⟩,[(1,1),(0,0)],[],[]⟩ [(.eb (.ap 29 (.v 0) (.v 4) (.v 1) (.v 5) (.c 0) (.c 0)) (.c .false))] [.none,.none]),
  (.fin (((.eq x0_ x1_),.false)::f1_) 0 ⟨⟨[],[]⟩,[(1,1),(0,0)],[],[]⟩ [(.eb (.ap 29 (.v 0) (.v 4) (.v 1) (.v 5) (.c 0) (.c 0)) (.c .false))] [.none,.none]),
  (.fin (((.lt (.v 27) (.v 1)),.false)::f0_) 0 ⟨⟨[],[]⟩,[(1,1),(0,0)],[],[]⟩ [(.eb (.ap 29 (.v 0) (.v 4) (.v 1) (.v 5) (.c 0) (.c 0)) (.c .true))] [.none,.none])]
def cEqF_run (T:Tm):=(ex (ccM Try.prog BF [] cEqF.ow) ((fun cc=>[cEqB.entH cc]) (ccM Try.prog BF [] cEqF.ow)) (dw (ccM Try.prog BF [] cEqF.ow) ((fun cc=>[cEqB.entH cc]) (ccM Try.prog BF [] cEqF.ow)) 100 4) (stopX []) 20000 T.f T.fs T.H).lfsM 2 (ccM Try.prog BF [] cEqF.ow) ((tmM cEqF Try.f34 (Try.f34.body.getD .skip))::[cEqF_T1]) cEqF.os
theorem cEqF_h0:cEqF_run (tmM cEqF Try.f34 (Try.f34.body.getD .skip))=some cEqF_L0:=by kernel_rfl
theorem cEqF_h1:cEqF_run cEqF_T1=some cEqF_L1:=by kernel_rfl
def cEqF_inv:(Nat→Int)→(Nat→Bool)→Nat→(Nat→Int)→(Nat→Bool)→Prop:=fun iv0 _ k iv _=>match k with | 0=>True | _=>0≤iv 27∧iv 27≤iv0 1∧isT (iv0 0) (iv0 4) (iv 27)
def cEqF_mu:(Nat→Int)→(Nat→Bool)→Nat→(Nat→Int)→(Nat→Bool)→Nat:=fun iv0 _ k iv _=>match k with | 0=>2 ^ 90 | _=>(70000 - iv 27).toNat
theorem cEqF_b {iv0:Nat→Int} (hin:InB cEqF.B iv0):0≤iv0 1∧0≤iv0 2∧0≤iv0 5∧0≤iv0 6:=by
 have b1:=hin 1 0 (-1) (by simp [cEqF,o1,i64b,kP,pkV,flF,i64s,lmap,SI.fl,flay,flayL,wP,pk0,pkAt,mayO,i64b,lO,hO,lenB,fO,bO,plO,plN,ppV,bP,pl2,fS2,ar2])
 simp only [Int.reduceLE,reduceIte,Int.reduceNeg] at b1
 have b2:=hin 2 0 (-1) (by simp [cEqF,o1,i64b,kP,pkV,flF,i64s,lmap,SI.fl,flay,flayL,wP,pk0,pkAt,mayO,i64b,lO,hO,lenB,fO,bO,plO,plN,ppV,bP,pl2,fS2,ar2])
 simp only [Int.reduceLE,reduceIte,Int.reduceNeg] at b2
 have b5:=hin 5 0 (-1) (by simp [cEqF,o1,i64b,kP,pkV,flF,i64s,lmap,SI.fl,flay,flayL,wP,pk0,pkAt,mayO,i64b,lO,hO,lenB,fO,bO,plO,plN,ppV,bP,pl2,fS2,ar2])
 simp only [Int.reduceLE,reduceIte,Int.reduceNeg] at b5
 have b6:=hin 6 0 (-1) (by simp [cEqF,o1,i64b,kP,pkV,flF,i64s,lmap,SI.fl,flay,flayL,wP,pk0,pkAt,mayO,i64b,lO,hO,lenB,fO,bO,plO,plN,ppV,bP,pl2,fS2,ar2])
 simp only [Int.reduceLE,reduceIte,Int.reduceNeg] at b6
 exact ⟨b1.1,b2.1,b5.1,b6.1⟩
def cEqF_ob (k:Nat) (l:List Lf):Prop:=∀ (kv:Kv) (iv0:Nat→Int) (bv0:Nat→Bool),InB cEqF.B iv0→FT (sta FI FB kv iv0 bv0) (dlt dyn0) cEqF.F→∀ (iv:Nat→Int) (bv:Nat→Bool),Agr 7 iv0 bv0 iv bv→cEqF_inv iv0 bv0 k iv bv→∀ lf∈l,LfT (sta FI FB kv) cEqF.os (cEqF_inv iv0 bv0) (cEqF_mu iv0 bv0) k iv bv lf
theorem cEqF_o0:cEqF_ob 0 cEqF_L0:=by
 intro kv iv0 bv0 hin hF iv bv ha hi
 unfold cEqF_L0
 refine List.forall_mem_cons.2 ⟨?_,List.forall_mem_cons.2 ⟨?_,List.forall_mem_nil _⟩⟩
 all_goals
  intro δ hf
 all_goals
  obtain ⟨b1,b2,b5,b6⟩:=cEqF_b hin
 all_goals
  have a0:=ha.1 0 (by omega)
  have a1:=ha.1 1 (by omega)
  have a2:=ha.1 2 (by omega)
  have a4:=ha.1 4 (by omega)
  have a5:=ha.1 5 (by omega)
  have a6:=ha.1 6 (by omega)
 all_goals
  simp only [FT,TP,SB.tp,SI.tv,sta,IB.eval,and_true,true_and,ObsT,Ob.Tv,rowT,kix,In.tiv,↓tbvT,In.tbv,get_cons,get_nil,reduceIte,Nat.reduceEqDiff,Int.reduceToNat,Int.reduceAdd,Int.reduceSub,Int.reduceLE,Int.reduceLT,Int.reduceEq,ne_eq,Bool.false_eq_true,not_true_eq_false,not_false_eq_true,true_iff,false_iff,iff_true,iff_false,false_implies,implies_true,decT,decide_true,decide_false,Bool.decide_eq_true,ap2,pb2,FI_3,FI_4,FI_8,FI_9,FI_8c,FI_8z,FI_200,FB_2,Int.toNat_natCast,Int.toNat_zero,FI_26,FB_26,FB_29,cEqF_inv,cEqF_mu,cEqF,o1,othT,o1,i64b,kP,pkV,flF,i64s,lmap,SI.fl,flay,flayL,wP,pk0,pkAt,mayO,i64b,lO,hO,lenB,fO,bO,plO,plN,ppV,bP,pl2,fS2,ar2,a0,a1,a2,a4,a5,a6] at hf hi ⊢
 all_goals
  have y1:=@sameN_len (iv0 0) (iv0 4) (iv0 1) (iv0 5)
 all_goals
  have z0:=isT_zero (iv0 0) (iv0 4)
 all_goals
  (repeat' (with_reducible apply And.intro))<;>first
  | omega
  | assumption
  | (unfold inM;omega)
  | exact trivial
  | (clear hin hF ha;grind)
theorem cEqF_o1:cEqF_ob 1 cEqF_L1:=by
 intro kv iv0 bv0 hin hF iv bv ha hi
 unfold cEqF_L1
 refine List.forall_mem_cons.2 ⟨?_,List.forall_mem_cons.2 ⟨?_,List.forall_mem_cons.2 ⟨?_,List.forall_mem_cons.2 ⟨?_,List.forall_mem_cons.2 ⟨?_,List.forall_mem_cons.2 ⟨?_,List.forall_mem_cons.2 ⟨?_,List.forall_mem_nil _⟩⟩⟩⟩⟩⟩⟩
 all_goals
  intro δ hf
 all_goals
  obtain ⟨b1,b2,b5,b6⟩:=cEqF_b hin
 all_goals
  have a0:=ha.1 0 (by omega)
  have a1:=ha.1 1 (by omega)
  have a2:=ha.1 2 (by omega)
  have a4:=ha.1 4 (by omega)
  have a5:=ha.1 5 (by omega)
  have a6:=ha.1 6 (by omega)
 all_goals
  simp only [FT,TP,SB.tp,SI.tv,sta,IB.eval,and_true,true_and,ObsT,Ob.Tv,rowT,kix,In.tiv,↓tbvT,In.tbv,get_cons,get_nil,reduceIte,Nat.reduceEqDiff,Int.reduceToNat,Int.reduceAdd,Int.reduceSub,Int.reduceLE,Int.reduceLT,Int.reduceEq,ne_eq,Bool.false_eq_true,not_true_eq_false,not_false_eq_true,true_iff,false_iff,iff_true,iff_false,false_implies,implies_true,decT,decide_true,decide_false,Bool.decide_eq_true,ap2,pb2,FI_3,FI_4,FI_8,FI_9,FI_8c,FI_8z,FI_200,FB_2,Int.toNat_natCast,Int.toNat_zero,FI_26,FB_26,FB_29,cEqF_inv,cEqF_mu,cEqF,o1,othT,o1,i64b,kP,pkV,flF,i64s,lmap,SI.fl,flay,flayL,wP,pk0,pkAt,mayO,i64b,lO,hO,lenB,fO,bO,plO,plN,ppV,bP,pl2,fS2,ar2,a0,a1,a2,a4,a5,a6] at hf hi ⊢
 all_goals
  obtain ⟨g0,g1,g2⟩:=hi
 all_goals
  have l0:lenOk (iv0 0) (iv0 1)→∀ j:Int,0≤j→j < (iv0 1)→flenC (gt (iv0 0) j.toNat 2)≤65536:=fun h j h0 h1=>h j.toNat (by omega)
 all_goals
  have l1:lenOk (iv0 4) (iv0 5)→∀ j:Int,0≤j→j < (iv0 5)→flenC (gt (iv0 4) j.toNat 2)≤65536:=fun h j h0 h1=>h j.toNat (by omega)
 all_goals
  have y1:=@sameN_len (iv0 0) (iv0 4) (iv0 1) (iv0 5)
 all_goals
  have z0:=isT_zero (iv0 0) (iv0 4)
 all_goals
  have w27:0≤iv 27→iv 27≤65536→IntKind.i64.wrap (iv 27+1)=iv 27+1:=fun _ _=>by rw [wrap_i64];omega
 all_goals
  have y2:=@isT_suc (iv0 0) (iv0 4) (iv 27) g2 g0
 all_goals
  have y3:=fun h=>@sameN_no (iv0 0) (iv0 4) (iv0 1) (iv0 5) (iv 27) g0 h
 all_goals
  have y4:=fun h=>@sameN_yes (iv0 0) (iv0 4) (iv0 1) (iv0 5) (iv 27) h g2
 all_goals
  have x0:=fun h=>l0 h (iv 27) g0
 all_goals
  have x1:=fun h=>l1 h (iv 27) g0
 all_goals
  unfold sameP at y2 y3
 all_goals
  (repeat' (with_reducible apply And.intro))<;>first
  | omega
  | assumption
  | (unfold inM;omega)
  | exact trivial
  | (clear hin hF ha;grind)
theorem cEqF_c:LsCM 2 ((tmM cEqF Try.f34 (Try.f34.body.getD .skip))::[cEqF_T1]) cEqF.os [cEqF_L0,cEqF_L1]:=by
 unfold cEqF_L0 cEqF_L1
 exact ⟨List.forall_mem_cons.2 ⟨⟨⟨⟨_,rfl,rfl⟩,by kernel_rfl⟩,by kernel_rfl⟩,List.forall_mem_cons.2 ⟨⟨⟨⟨_,rfl,rfl⟩,by kernel_rfl⟩,by kernel_rfl⟩,List.forall_mem_nil _⟩⟩,List.forall_mem_cons.2 ⟨⟨⟨⟨_,rfl,rfl⟩,by kernel_rfl⟩,by kernel_rfl⟩,List.forall_mem_cons.2 ⟨⟨⟨⟨_,rfl,rfl⟩,by kernel_rfl⟩,by kernel_rfl⟩,List.forall_mem_cons.2 ⟨⟨trivial,rfl⟩,List.forall_mem_cons.2 ⟨⟨trivial,rfl⟩,List.forall_mem_cons.2 ⟨⟨⟨⟨_,rfl,rfl⟩,by kernel_rfl⟩,by kernel_rfl⟩,List.forall_mem_cons.2 ⟨⟨⟨⟨_,rfl,rfl⟩,by kernel_rfl⟩,by kernel_rfl⟩,List.forall_mem_cons.2 ⟨⟨⟨⟨_,rfl,rfl⟩,by kernel_rfl⟩,by kernel_rfl⟩,List.forall_mem_nil _⟩⟩⟩⟩⟩⟩⟩,trivial⟩
theorem cEqF_ok:cEqF.Ok Try.prog FI FB:=
 Com.of_plain (body:=Try.f34.body.getD .skip) pok fiok (EntsFor.consH cEqB_ok EntsFor.nil) cEqF Try.func34 (by kernel_rfl) 7 [cEqF_T1] (by kernel_rfl) [cEqF_L0,cEqF_L1] ⟨cEqF_h0,cEqF_h1,trivial⟩ cEqF_c
  cEqF_inv cEqF_mu (fun _ _ _=>trivial) fun kv iv0 bv0 hin hF k l iv bv hk ha hi=>match k,hk,hi with
  | 0,hk,hi=>by
    cases hk
    exact cEqF_o0 kv iv0 bv0 hin hF iv bv ha hi
  | 1,hk,hi=>by
    cases hk
    exact cEqF_o1 kv iv0 bv0 hin hF iv bv ha hi
  | k+2,hk,_=>by simp at hk
def cPSame_L0:List Lf:=
 [(.fin ([((.ap 26 (.v 0) (.v 1) (.c 0) (.c 0) (.c 0) (.c 0)),.true),((.ap 26 (.v 4) (.v 5) (.c 0) (.c 0) (.c 0) (.c 0)),.true),((.le (.v 1) (.v 2)),.true),((.le (.v 1) (.c 4096)),.true),((.le (.v 5) (.v 6)),.true),((.le (.v 5) (.c 4096)),.true)]) 0 ⟨⟨[],[]⟩,[(3,3),(2,2),(1,1),(0,0)],[],[]⟩ [] [.none,.none,.none,.none])]
def cPSame_run (T:Tm):=(ex (ccM Try.prog BF [] cPSame.ow) ((fun cc=>[cEqF.ent cc]) (ccM Try.prog BF [] cPSame.ow)) (dw (ccM Try.prog BF [] cPSame.ow) ((fun cc=>[cEqF.ent cc]) (ccM Try.prog BF [] cPSame.ow)) 100 4) (stopX []) 20000 T.f T.fs T.H).lfsM 4 (ccM Try.prog BF [] cPSame.ow) ((tmM cPSame Try.f20 (Try.f20.body.getD .skip))::[]) cPSame.os
theorem cPSame_h0:cPSame_run (tmM cPSame Try.f20 (Try.f20.body.getD .skip))=some cPSame_L0:=by kernel_rfl
def cPSame_inv:(Nat→Int)→(Nat→Bool)→Nat→(Nat→Int)→(Nat→Bool)→Prop:=fun _ _ _ _ _=>True
def cPSame_mu:(Nat→Int)→(Nat→Bool)→Nat→(Nat→Int)→(Nat→Bool)→Nat:=fun _ _ _ _ _=>0
theorem cPSame_b {iv0:Nat→Int} (hin:InB cPSame.B iv0):0≤iv0 1∧0≤iv0 2∧0≤iv0 5∧0≤iv0 6∧(1≤iv0 3∧iv0 3≤64):=by
 have b1:=hin 1 0 (-1) (by simp [cPSame,o1,i64b,kP,pkV,flF,i64s,lmap,SI.fl,flay,flayL,wP,pk0,pkAt,mayO,i64b,lO,hO,lenB,fO,bO,plO,plN,ppV,bP,pl2,fS2,ar2])
 simp only [Int.reduceLE,reduceIte,Int.reduceNeg] at b1
 have b2:=hin 2 0 (-1) (by simp [cPSame,o1,i64b,kP,pkV,flF,i64s,lmap,SI.fl,flay,flayL,wP,pk0,pkAt,mayO,i64b,lO,hO,lenB,fO,bO,plO,plN,ppV,bP,pl2,fS2,ar2])
 simp only [Int.reduceLE,reduceIte,Int.reduceNeg] at b2
 have b5:=hin 5 0 (-1) (by simp [cPSame,o1,i64b,kP,pkV,flF,i64s,lmap,SI.fl,flay,flayL,wP,pk0,pkAt,mayO,i64b,lO,hO,lenB,fO,bO,plO,plN,ppV,bP,pl2,fS2,ar2])
 simp only [Int.reduceLE,reduceIte,Int.reduceNeg] at b5
 have b6:=hin 6 0 (-1) (by simp [cPSame,o1,i64b,kP,pkV,flF,i64s,lmap,SI.fl,flay,flayL,wP,pk0,pkAt,mayO,i64b,lO,hO,lenB,fO,bO,plO,plN,ppV,bP,pl2,fS2,ar2])
 simp only [Int.reduceLE,reduceIte,Int.reduceNeg] at b6
 have b3:=hin 3 1 64 (by simp [cPSame,o1,i64b,kP,pkV,flF,i64s,lmap,SI.fl,flay,flayL,wP,pk0,pkAt,mayO,i64b,lO,hO,lenB,fO,bO,plO,plN,ppV,bP,pl2,fS2,ar2])
 simp only [Int.reduceLE,reduceIte,Int.reduceNeg] at b3
 exact ⟨b1.1,b2.1,b5.1,b6.1,b3⟩
def cPSame_ob (k:Nat) (l:List Lf):Prop:=∀ (kv:Kv) (iv0:Nat→Int) (bv0:Nat→Bool),InB cPSame.B iv0→FT (sta FI FB kv iv0 bv0) (dlt dyn0) cPSame.F→∀ (iv:Nat→Int) (bv:Nat→Bool),Agr 7 iv0 bv0 iv bv→cPSame_inv iv0 bv0 k iv bv→∀ lf∈l,LfT (sta FI FB kv) cPSame.os (cPSame_inv iv0 bv0) (cPSame_mu iv0 bv0) k iv bv lf
theorem cPSame_o0:cPSame_ob 0 cPSame_L0:=by
 intro kv iv0 bv0 hin hF iv bv ha hi
 unfold cPSame_L0
 refine List.forall_mem_cons.2 ⟨?_,List.forall_mem_nil _⟩
 all_goals
  intro δ hf
 all_goals
  obtain ⟨b1,b2,b5,b6,b3⟩:=cPSame_b hin
 all_goals
  have a0:=ha.1 0 (by omega)
  have a1:=ha.1 1 (by omega)
  have a2:=ha.1 2 (by omega)
  have a3:=ha.1 3 (by omega)
  have a4:=ha.1 4 (by omega)
  have a5:=ha.1 5 (by omega)
  have a6:=ha.1 6 (by omega)
 all_goals
  simp only [FT,TP,SB.tp,SI.tv,sta,IB.eval,and_true,true_and,ObsT,Ob.Tv,rowT,kix,In.tiv,↓tbvT,In.tbv,get_cons,get_nil,reduceIte,Nat.reduceEqDiff,Int.reduceToNat,Int.reduceAdd,Int.reduceSub,Int.reduceLE,Int.reduceLT,Int.reduceEq,ne_eq,Bool.false_eq_true,not_true_eq_false,not_false_eq_true,true_iff,false_iff,iff_true,iff_false,false_implies,implies_true,decT,decide_true,decide_false,Bool.decide_eq_true,ap2,pb2,FI_3,FI_4,FI_8,FI_9,FI_8c,FI_8z,FB_2,Int.toNat_natCast,Int.toNat_zero,FI_20,FI_26,FB_26,FB_29,cPSame_inv,cPSame_mu,cPSame,o1,othT,o1,i64b,kP,pkV,flF,i64s,lmap,SI.fl,flay,flayL,wP,pk0,pkAt,mayO,i64b,lO,hO,lenB,fO,bO,plO,plN,ppV,bP,pl2,fS2,ar2,a0,a1,a2,a3,a4,a5,a6] at hf hi ⊢
 all_goals
  (repeat' (with_reducible apply And.intro))<;>first
  | omega
  | assumption
  | (unfold inM;omega)
  | exact trivial
  | (clear hin hF ha;grind)
theorem cPSame_c:LsCM 4 ((tmM cPSame Try.f20 (Try.f20.body.getD .skip))::[]) cPSame.os [cPSame_L0]:=by
 unfold cPSame_L0
 exact ⟨List.forall_mem_cons.2 ⟨⟨⟨⟨_,rfl,rfl⟩,by kernel_rfl⟩,by kernel_rfl⟩,List.forall_mem_nil _⟩,trivial⟩
theorem cPSame_ok:cPSame.Ok Try.prog FI FB:=
 Com.of_plain (body:=Try.f20.body.getD .skip) pok fiok (EntsFor.consM cEqF_ok EntsFor.nil) cPSame Try.func20 (by kernel_rfl) 7 [] (by kernel_rfl) [cPSame_L0] ⟨cPSame_h0,trivial⟩ cPSame_c
  cPSame_inv cPSame_mu (fun _ _ _=>trivial) fun kv iv0 bv0 hin hF k l iv bv hk ha hi=>match k,hk,hi with
  | 0,hk,hi=>by
    cases hk
    exact cPSame_o0 kv iv0 bv0 hin hF iv bv ha hi
  | k+1,hk,_=>by simp at hk
end
end Go.Sx.Pk
