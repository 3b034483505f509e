/- The pool: Same of bytes, of the document's lists. -/
import Derived.Test.YtbcbpicfnfkdeaaPkQ
import Derived.Test.YtbcbpicfnfkdeaaPkSb
namespace Go.Sx.Pk
set_option linter.unusedVariables false
set_option linter.unusedSimpArgs false
set_option maxRecDepth 100000
set_option maxHeartbeats 0
noncomputable section
open Go Go.Sx Go.Proofs
def cEqB:Con:=⟨36,[0,1],[.fs 0 (.v 0),.fs 0 (.v 1)],[],[],[flF 0 65536,flF 1 65536],o1 (.bo (.ap 2 (.v 0) (.v 1) (.c 0) (.c 0) (.c 0) (.c 0))),[]⟩
def cRSame:Con:=⟨19,[0,1],[.fs 2 (.v 0),.fs 2 (.v 1)],[],[],[flF 0 4096],o1 (.bo (.ap 29 (.v 0) (.v 1) (SI.fl (.v 0)) (SI.fl (.v 1)) (.c 0) (.c 0))),[]⟩
def pl2:List (Nat×Bk):=[(0,.cells [.sl (.n 2) (.c 0) (.v 1) (.v 2),.it .i64 (.v 3)] 59),(1,.cells [.sl (.n 3) (.c 0) (.v 5) (.v 6),.it .i64 (.v 3)] 59),(2,.arr kP (.v 0) (.v 1) 29 (.v 2)),(3,.arr kP (.v 4) (.v 5) 29 (.v 6))]
def fS2:List (SB×Bool):=[(lenB 0 1,true),(lenB 4 5,true),(.le (.v 1) (.v 2),true),(.le (.v 1) (.c 4096),true),(.le (.v 5) (.v 6),true),(.le (.v 5) (.c 4096),true)]
def ar2:List (Nat×Bk):=[(0,.arr kP (.v 0) (.v 1) 29 (.v 2)),(1,.arr kP (.v 4) (.v 5) 29 (.v 6))]
def cEqF:Com:=⟨34,[0,1,2,4,5,6],[.sl (.n 0) (.c 0) (.v 1) (.v 2),.sl (.n 1) (.c 0) (.v 5) (.v 6),.fn 35 [] []],ar2,2,[(1,0,-1),(2,0,-1),(5,0,-1),(6,0,-1)],fS2,[⟨[],.bo (.ap 29 (.v 0) (.v 4) (.v 1) (.v 5) (.c 0) (.c 0)),ar2,2,0,[]⟩],.c 0,[29]⟩
def cPSame:Com:=⟨20,[0,1,2,3,4,5,6],[.pt (.n 0) (.c 0),.pt (.n 1) (.c 0)],pl2,4,[(1,0,-1),(2,0,-1),(3,1,64),(5,0,-1),(6,0,-1)],fS2,[⟨[],.bo (.ap 29 (.v 0) (.v 4) (.v 1) (.v 5) (.c 0) (.c 0)),pl2,4,0,[]⟩],.c 0,[29]⟩
def cEqB_T1:Tm:=⟨⟨36,26,[(13,(.it .i64 (.v 22))),(12,(.it .i64 (.ap 200 (.v 0) (.c 0) (.c 0) (.c 0) (.c 0) (.c 0)))),(0,(.fs 0 (.v 0))),(1,(.fs 0 (.v 1)))],[(.code (atC Try.f36 [1,1,0,1,0,0])),(.inLoop (atC Try.f36 [1,1,0,1,0,0])),(.inBlock 0),(.code (atC Try.f36 [1,1,1]))],[],.none⟩,[],
    ⟨[],0,0,0,[((.eq (.ap 200 (.v 0) (.c 0) (.c 0) (.c 0) (.c 0) (.c 0)) (.ap 200 (.v 1) (.c 0) (.c 0) (.c 0) (.c 0) (.c 0))),.true),((.le (.ap 200 (.v 0) (.c 0) (.c 0) (.c 0) (.c 0) (.c 0)) (.c 65536)),.true),((.le (.ap 200 (.v 1) (.c 0) (.c 0) (.c 0) (.c 0) (.c 0)) (.c 65536)),.true)],[0],[(22,(0,(-1)))]⟩,[22]⟩
def cEqB_L0:List Lf:=
 let x0_:SI:=(.ap 200 (.v 0) (.c 0) (.c 0) (.c 0) (.c 0) (.c 0))
 let x1_:SI:=(.ap 200 (.v 1) (.c 0) (.c 0) (.c 0) (.c 0) (.c 0))
 let f0_:List (SB×Bool):=[((.le x0_ (.c 65536)),.true),((.le x1_ (.c 65536)),.true)]
 [(.cut (((.eq x0_ x1_),.true)::f0_) 1 ⟨⟨[(22,(.c 0))],[]⟩,[],[],[]⟩ [] (shT cEqB_T1 ⟨⟨[(22,(.c 0))],[]⟩,[],[],[]⟩)),
  (.fin (((.eq x0_ x1_),.false)::f0_) 0 ⟨⟨[],[]⟩,[],[],[]⟩ [(.eb (.ap 2 (.v 0) (.v 1) (.c 0) (.c 0) (.c 0) (.c 0)) (.c .false))] [])]
def cEqB_L1:List Lf:=
 let x0_:SI:=(.ap 4 (.v 0) (.v 22) (.c 0) (.c 0) (.c 0) (.c 0))
 let x1_:SI:=(.ap 4 (.v 1) (.v 22) (.c 0) (.c 0) (.c 0) (.c 0))
 let x2_:SI:=(.ap 200 (.v 0) (.c 0) (.c 0) (.c 0) (.c 0) (.c 0))
 let x3_:SI:=(.ap 200 (.v 1) (.c 0) (.c 0) (.c 0) (.c 0) (.c 0))
 let f0_:List (SB×Bool):=[((.eq x2_ x3_),.true),((.le x2_ (.c 65536)),.true),((.le x3_ (.c 65536)),.true)]
 let f1_:List (SB×Bool):=((.lt (.v 22) x2_),.true)::f0_
 [(let i_:In:=⟨⟨[(22,(.wk .i64 (.op .add (.v 22) (.c 1))))],[]⟩,[],[],[]⟩;.cut (((.eq x0_ x1_),.true)::f1_) 1 i_ [(.rn (.wk .i64 (.op .add (.v 22) (.c 1))) 0 (-1))] (shT cEqB_T1 i_)),
  (.fin (((.eq x0_ x1_),.false)::f1_) 0 ⟨⟨[],[]⟩,[],[],[]⟩ [(.eb (.ap 2 (.v 0) (.v 1) (.c 0) (.c 0) (.c 0) (.c 0)) (.c .false))] []),
  (.fin (((.lt (.v 22) x2_),.false)::f0_) 0 ⟨⟨[],[]⟩,[],[],[]⟩ [(.eb (.ap 2 (.v 0) (.v 1) (.c 0) (.c 0) (.c 0) (.c 0)) (.c .true))] [])]
def cEqB_run (T:Tm):=(ex (ccOf Try.prog BF [] cEqB) ((fun _=>[]) (ccOf Try.prog BF [] cEqB)) (dw (ccOf Try.prog BF [] cEqB) ((fun _=>[]) (ccOf Try.prog BF [] cEqB)) 100 4) (stopX []) 20000 T.f T.fs T.H).lfs (ccOf Try.prog BF [] cEqB) ((tm0 cEqB Try.f36 (Try.f36.body.getD .skip))::[cEqB_T1]) cEqB.os
theorem cEqB_h0:cEqB_run (tm0 cEqB Try.f36 (Try.f36.body.getD .skip))=some cEqB_L0:=by kernel_rfl
theorem cEqB_h1:cEqB_run cEqB_T1=some cEqB_L1:=by kernel_rfl
def cEqB_inv:(Nat→Int)→(Nat→Bool)→Nat→(Nat→Int)→(Nat→Bool)→Prop:=fun iv0 _ k iv _=>match k with | 0=>True | _=>0≤iv 22∧iv 22≤flenC (iv0 0)∧eqBy (iv0 0) (iv0 1) (iv 22)
def cEqB_mu:(Nat→Int)→(Nat→Bool)→Nat→(Nat→Int)→(Nat→Bool)→Nat:=fun iv0 _ k iv _=>match k with | 0=>2 ^ 90 | _=>(70000 - iv 22).toNat
def cEqB_ob (k:Nat) (l:List Lf):Prop:=∀ (kv:Kv) (iv0:Nat→Int) (bv0:Nat→Bool),InB cEqB.B iv0→FT (sta FI FB kv iv0 bv0) (dlt dyn0) cEqB.F→∀ (iv:Nat→Int) (bv:Nat→Bool),Agr 2 iv0 bv0 iv bv→cEqB_inv iv0 bv0 k iv bv→∀ lf∈l,LfT (sta FI FB kv) cEqB.os (cEqB_inv iv0 bv0) (cEqB_mu iv0 bv0) k iv bv lf
theorem cEqB_o0:cEqB_ob 0 cEqB_L0:=by
 intro kv iv0 bv0 hin hF iv bv ha hi
 unfold cEqB_L0
 refine List.forall_mem_cons.2 ⟨?_,List.forall_mem_cons.2 ⟨?_,List.forall_mem_nil _⟩⟩
 all_goals
  intro δ hf
 all_goals
  have a0:=ha.1 0 (by omega)
  have a1:=ha.1 1 (by omega)
 all_goals
  simp only [FT,TP,SB.tp,SI.tv,sta,IB.eval,and_true,true_and,ObsT,Ob.Tv,rowT,kix,In.tiv,↓tbvT,In.tbv,get_cons,get_nil,reduceIte,Nat.reduceEqDiff,Int.reduceToNat,Int.reduceAdd,Int.reduceSub,Int.reduceLE,Int.reduceLT,Int.reduceEq,ne_eq,Bool.false_eq_true,not_true_eq_false,not_false_eq_true,true_iff,false_iff,iff_true,iff_false,false_implies,implies_true,decT,decide_true,decide_false,Bool.decide_eq_true,ap2,pb2,FI_3,FI_4,FI_8,FI_9,FI_8c,FI_8z,FI_200,FB_2,Int.toNat_natCast,Int.toNat_zero,cEqB_inv,cEqB_mu,cEqB,o1,othT,o1,i64b,kP,pkV,flF,i64s,lmap,SI.fl,flay,flayL,wP,pk0,pkAt,mayO,i64b,lO,hO,lenB,fO,bO,plO,plN,ppV,bP,pl2,fS2,ar2,a0,a1] at hf hi ⊢
 all_goals
  have n0:=flenC_nn (iv0 0)
 all_goals
  have n1:=flenC_nn (iv0 1)
 all_goals
  have y1:=@bytesC_len (iv0 0) (iv0 1)
 all_goals
  have z0:=eqBy_zero (iv0 0) (iv0 1)
 all_goals
  (repeat' (with_reducible apply And.intro))<;>first
  | omega
  | assumption
  | (unfold inM;omega)
  | exact trivial
  | (clear hin hF ha;grind)
theorem cEqB_o1:cEqB_ob 1 cEqB_L1:=by
 intro kv iv0 bv0 hin hF iv bv ha hi
 unfold cEqB_L1
 refine List.forall_mem_cons.2 ⟨?_,List.forall_mem_cons.2 ⟨?_,List.forall_mem_cons.2 ⟨?_,List.forall_mem_nil _⟩⟩⟩
 all_goals
  intro δ hf
 all_goals
  have a0:=ha.1 0 (by omega)
  have a1:=ha.1 1 (by omega)
 all_goals
  simp only [FT,TP,SB.tp,SI.tv,sta,IB.eval,and_true,true_and,ObsT,Ob.Tv,rowT,kix,In.tiv,↓tbvT,In.tbv,get_cons,get_nil,reduceIte,Nat.reduceEqDiff,Int.reduceToNat,Int.reduceAdd,Int.reduceSub,Int.reduceLE,Int.reduceLT,Int.reduceEq,ne_eq,Bool.false_eq_true,not_true_eq_false,not_false_eq_true,true_iff,false_iff,iff_true,iff_false,false_implies,implies_true,decT,decide_true,decide_false,Bool.decide_eq_true,ap2,pb2,FI_3,FI_4,FI_8,FI_9,FI_8c,FI_8z,FI_200,FB_2,Int.toNat_natCast,Int.toNat_zero,cEqB_inv,cEqB_mu,cEqB,o1,othT,o1,i64b,kP,pkV,flF,i64s,lmap,SI.fl,flay,flayL,wP,pk0,pkAt,mayO,i64b,lO,hO,lenB,fO,bO,plO,plN,ppV,bP,pl2,fS2,ar2,a0,a1] at hf hi ⊢
 all_goals
  obtain ⟨g0,g1,g2⟩:=hi
 all_goals
  have n0:=flenC_nn (iv0 0)
 all_goals
  have n1:=flenC_nn (iv0 1)
 all_goals
  have y1:=@bytesC_len (iv0 0) (iv0 1)
 all_goals
  have w22:0≤iv 22→iv 22≤65536→IntKind.i64.wrap (iv 22+1)=iv 22+1:=fun _ _=>by rw [wrap_i64];omega
 all_goals
  have y2:=@bytesC_no (iv0 0) (iv0 1) (iv 22) g0
 all_goals
  have y3:=@eqBy_suc (iv0 0) (iv0 1) (iv 22) g2 g0
 all_goals
  have y4:iv 22=flenC (iv0 0)→flenC (iv0 0)=flenC (iv0 1)→bytesC (iv0 0)=bytesC (iv0 1):=fun h1 h2=>bytesC_eq h2 (by rw [h1,h2] at g2;exact g2)
 all_goals
  (repeat' (with_reducible apply And.intro))<;>first
  | omega
  | assumption
  | (unfold inM;omega)
  | exact trivial
  | (clear hin hF ha;grind)
theorem cEqB_c:LsC ((tm0 cEqB Try.f36 (Try.f36.body.getD .skip))::[cEqB_T1]) cEqB.os [cEqB_L0,cEqB_L1]:=by
 unfold cEqB_L0 cEqB_L1
 exact ⟨List.forall_mem_cons.2 ⟨⟨⟨_,rfl,rfl⟩,by kernel_rfl⟩,List.forall_mem_cons.2 ⟨⟨⟨_,rfl,rfl⟩,by kernel_rfl⟩,List.forall_mem_nil _⟩⟩,List.forall_mem_cons.2 ⟨⟨⟨_,rfl,rfl⟩,by kernel_rfl⟩,List.forall_mem_cons.2 ⟨⟨⟨_,rfl,rfl⟩,by kernel_rfl⟩,List.forall_mem_cons.2 ⟨⟨⟨_,rfl,rfl⟩,by kernel_rfl⟩,List.forall_mem_nil _⟩⟩⟩,trivial⟩
theorem cEqB_ok:cEqB.Ok Try.prog FI FB:=
 Con.of_plain (body:=Try.f36.body.getD .skip) pok fiok EntsFor.nil cEqB Try.func36 (by kernel_rfl) 2 [cEqB_T1] (by kernel_rfl) [cEqB_L0,cEqB_L1] ⟨cEqB_h0,cEqB_h1,trivial⟩ cEqB_c
  cEqB_inv cEqB_mu (fun _ _ _=>trivial) fun kv iv0 bv0 hin hF k l iv bv hk ha hi=>match k,hk,hi with
  | 0,hk,hi=>by
    cases hk
    exact cEqB_o0 kv iv0 bv0 hin hF iv bv ha hi
  | 1,hk,hi=>by
    cases hk
    exact cEqB_o1 kv iv0 bv0 hin hF iv bv ha hi
  | k+2,hk,_=>by simp at hk
def cRSame_T1:Tm:=⟨⟨19,27,[(5,(.it .i64 (.v 22))),(0,(.fs 2 (.v 0))),(1,(.fs 2 (.v 1)))],[(.code (atC Try.f19 [1,1,0,1,0,0])),(.inLoop (atC Try.f19 [1,1,0,1,0,0])),(.inBlock 0),(.code (atC Try.f19 [1,1,1]))],[],.none⟩,[],
    ⟨[],0,0,0,[((.eq (.ap 200 (.v 0) (.c 0) (.c 0) (.c 0) (.c 0) (.c 0)) (.ap 200 (.v 1) (.c 0) (.c 0) (.c 0) (.c 0) (.c 0))),.true),((.le (.ap 200 (.v 0) (.c 0) (.c 0) (.c 0) (.c 0) (.c 0)) (.c 4096)),.true)],[0],[(22,(0,(-1)))]⟩,[22]⟩
def cRSame_L0:List Lf:=
 let x0_:SI:=(.ap 200 (.v 0) (.c 0) (.c 0) (.c 0) (.c 0) (.c 0))
 let x1_:SI:=(.ap 200 (.v 1) (.c 0) (.c 0) (.c 0) (.c 0) (.c 0))
 [(.cut ([((.eq x0_ x1_),.true),((.le x0_ (.c 4096)),.true)]) 1 ⟨⟨[(22,(.c 0))],[]⟩,[],[],[]⟩ [] (shT cRSame_T1 ⟨⟨[(22,(.c 0))],[]⟩,[],[],[]⟩)),
  (.fin ([((.eq x0_ x1_),.false),((.le x0_ (.c 4096)),.true)]) 0 ⟨⟨[],[]⟩,[],[],[]⟩ [(.eb (.ap 29 (.v 0) (.v 1) x0_ x1_ (.c 0) (.c 0)) (.c .false))] [])]
def cRSame_L1:List Lf:=
 let x0_:SI:=(.ap 3 (.v 0) (.v 22) (.c 0) (.c 0) (.c 0) (.c 0))
 let x1_:SI:=(.ap 3 (.v 1) (.v 22) (.c 0) (.c 0) (.c 0) (.c 0))
 let x2_:SI:=(.ap 3 (.v 0) (.v 22) (.c 1) (.c 0) (.c 0) (.c 0))
 let x3_:SI:=(.ap 3 (.v 1) (.v 22) (.c 1) (.c 0) (.c 0) (.c 0))
 let x4_:SI:=(.ap 200 (.v 0) (.c 0) (.c 0) (.c 0) (.c 0) (.c 0))
 let x5_:SI:=(.ap 200 (.v 1) (.c 0) (.c 0) (.c 0) (.c 0) (.c 0))
 let x6_:SI:=(.ap 8 (.v 0) (.v 22) (.c 2) (.c 0) (.c 10) (.c 0))
 let x7_:SI:=(.ap 8 (.v 1) (.v 22) (.c 2) (.c 0) (.c 10) (.c 0))
 let f0_:List (SB×Bool):=[((.eq x4_ x5_),.true),((.le x4_ (.c 4096)),.true)]
 let f1_:List (SB×Bool):=((.lt (.v 22) x4_),.true)::f0_
 let f2_:List (SB×Bool):=((.eq x0_ x1_),.true)::f1_
 let f3_:List (SB×Bool):=((.eq x2_ x3_),.true)::f2_
 [(let i_:In:=⟨⟨[(22,(.wk .i64 (.op .add (.v 22) (.c 1))))],[]⟩,[],[],[]⟩;.cut (((.ap 2 x6_ x7_ (.c 0) (.c 0) (.c 0) (.c 0)),.true)::f3_) 1 i_ [(.rn (.wk .i64 (.op .add (.v 22) (.c 1))) 0 (-1))] (shT cRSame_T1 i_)),
  (.fin (((.ap 2 x6_ x7_ (.c 0) (.c 0) (.c 0) (.c 0)),.false)::f3_) 0 ⟨⟨[],[]⟩,[],[],[]⟩ [(.eb (.ap 29 (.v 0) (.v 1) x4_ x5_ (.c 0) (.c 0)) (.c .false))] []),
  (.fin (((.eq x2_ x3_),.false)::f2_) 0 ⟨⟨[],[]⟩,[],[],[]⟩ [(.eb (.ap 29 (.v 0) (.v 1) x4_ x5_ (.c 0) (.c 0)) (.c .false))] []),
  (.fin (((.eq x0_ x1_),.false)::f1_) 0 ⟨⟨[],[]⟩,[],[],[]⟩ [(.eb (.ap 29 (.v 0) (.v 1) x4_ x5_ (.c 0) (.c 0)) (.c .false))] []),
  (.fin (((.lt (.v 22) x4_),.false)::f0_) 0 ⟨⟨[],[]⟩,[],[],[]⟩ [(.eb (.ap 29 (.v 0) (.v 1) x4_ x5_ (.c 0) (.c 0)) (.c .true))] [])]
def cRSame_run (T:Tm):=(ex (ccOf Try.prog BF [] cRSame) ((fun cc=>[cSmP.ent cc]) (ccOf Try.prog BF [] cRSame)) (dw (ccOf Try.prog BF [] cRSame) ((fun cc=>[cSmP.ent cc]) (ccOf Try.prog BF [] cRSame)) 100 4) (stopX []) 20000 T.f T.fs T.H).lfs (ccOf Try.prog BF [] cRSame) ((tm0 cRSame Try.f19 (Try.f19.body.getD .skip))::[cRSame_T1]) cRSame.os
theorem cRSame_h0:cRSame_run (tm0 cRSame Try.f19 (Try.f19.body.getD .skip))=some cRSame_L0:=by kernel_rfl
theorem cRSame_h1:cRSame_run cRSame_T1=some cRSame_L1:=by kernel_rfl
def cRSame_inv:(Nat→Int)→(Nat→Bool)→Nat→(Nat→Int)→(Nat→Bool)→Prop:=fun iv0 _ k iv _=>match k with | 0=>True | _=>0≤iv 22∧iv 22≤flenC (iv0 0)∧isT (iv0 0) (iv0 1) (iv 22)
def cRSame_mu:(Nat→Int)→(Nat→Bool)→Nat→(Nat→Int)→(Nat→Bool)→Nat:=fun iv0 _ k iv _=>match k with | 0=>2 ^ 90 | _=>(70000 - iv 22).toNat
def cRSame_ob (k:Nat) (l:List Lf):Prop:=∀ (kv:Kv) (iv0:Nat→Int) (bv0:Nat→Bool),InB cRSame.B iv0→FT (sta FI FB kv iv0 bv0) (dlt dyn0) cRSame.F→∀ (iv:Nat→Int) (bv:Nat→Bool),Agr 2 iv0 bv0 iv bv→cRSame_inv iv0 bv0 k iv bv→∀ lf∈l,LfT (sta FI FB kv) cRSame.os (cRSame_inv iv0 bv0) (cRSame_mu iv0 bv0) k iv bv lf
theorem cRSame_o0:cRSame_ob 0 cRSame_L0:=by
 intro kv iv0 bv0 hin hF iv bv ha hi
 unfold cRSame_L0
 refine List.forall_mem_cons.2 ⟨?_,List.forall_mem_cons.2 ⟨?_,List.forall_mem_nil _⟩⟩
 all_goals
  intro δ hf
 all_goals
  have a0:=ha.1 0 (by omega)
  have a1:=ha.1 1 (by omega)
 all_goals
  simp only [FT,TP,SB.tp,SI.tv,sta,IB.eval,and_true,true_and,ObsT,Ob.Tv,rowT,kix,In.tiv,↓tbvT,In.tbv,get_cons,get_nil,reduceIte,Nat.reduceEqDiff,Int.reduceToNat,Int.reduceAdd,Int.reduceSub,Int.reduceLE,Int.reduceLT,Int.reduceEq,ne_eq,Bool.false_eq_true,not_true_eq_false,not_false_eq_true,true_iff,false_iff,iff_true,iff_false,false_implies,implies_true,decT,decide_true,decide_false,Bool.decide_eq_true,ap2,pb2,FI_3,FI_4,FI_8,FI_9,FI_8c,FI_8z,FI_200,FB_2,Int.toNat_natCast,Int.toNat_zero,FB_29,cRSame_inv,cRSame_mu,cRSame,o1,othT,o1,i64b,kP,pkV,flF,i64s,lmap,SI.fl,flay,flayL,wP,pk0,pkAt,mayO,i64b,lO,hO,lenB,fO,bO,plO,plN,ppV,bP,pl2,fS2,ar2,a0,a1] at hf hi ⊢
 all_goals
  have n0:=flenC_nn (iv0 0)
 all_goals
  have n1:=flenC_nn (iv0 1)
 all_goals
  have z0:=isT_zero (iv0 0) (iv0 1)
 all_goals
  have z1:=@sameN_len (iv0 0) (iv0 1)
 all_goals
  (repeat' (with_reducible apply And.intro))<;>first
  | omega
  | assumption
  | (unfold inM;omega)
  | exact trivial
  | (clear hin hF ha;grind)
theorem cRSame_o1:cRSame_ob 1 cRSame_L1:=by
 intro kv iv0 bv0 hin hF iv bv ha hi
 unfold cRSame_L1
 refine List.forall_mem_cons.2 ⟨?_,List.forall_mem_cons.2 ⟨?_,List.forall_mem_cons.2 ⟨?_,List.forall_mem_cons.2 ⟨?_,List.forall_mem_cons.2 ⟨?_,List.forall_mem_nil _⟩⟩⟩⟩⟩
 all_goals
  intro δ hf
 all_goals
  have a0:=ha.1 0 (by omega)
  have a1:=ha.1 1 (by omega)
 all_goals
  simp only [FT,TP,SB.tp,SI.tv,sta,IB.eval,and_true,true_and,ObsT,Ob.Tv,rowT,kix,In.tiv,↓tbvT,In.tbv,get_cons,get_nil,reduceIte,Nat.reduceEqDiff,Int.reduceToNat,Int.reduceAdd,Int.reduceSub,Int.reduceLE,Int.reduceLT,Int.reduceEq,ne_eq,Bool.false_eq_true,not_true_eq_false,not_false_eq_true,true_iff,false_iff,iff_true,iff_false,false_implies,implies_true,decT,decide_true,decide_false,Bool.decide_eq_true,ap2,pb2,FI_3,FI_4,FI_8,FI_9,FI_8c,FI_8z,FI_200,FB_2,Int.toNat_natCast,Int.toNat_zero,FB_29,cRSame_inv,cRSame_mu,cRSame,o1,othT,o1,i64b,kP,pkV,flF,i64s,lmap,SI.fl,flay,flayL,wP,pk0,pkAt,mayO,i64b,lO,hO,lenB,fO,bO,plO,plN,ppV,bP,pl2,fS2,ar2,a0,a1] at hf hi ⊢
 all_goals
  obtain ⟨g0,g1,g2⟩:=hi
 all_goals
  have n0:=flenC_nn (iv0 0)
 all_goals
  have n1:=flenC_nn (iv0 1)
 all_goals
  have w22:0≤iv 22→iv 22≤65536→IntKind.i64.wrap (iv 22+1)=iv 22+1:=fun _ _=>by rw [wrap_i64];omega
 all_goals
  have y1:=@isT_suc (iv0 0) (iv0 1) (iv 22) g2 g0
 all_goals
  have y2:=fun n m h=>@sameN_no (iv0 0) (iv0 1) n m (iv 22) g0 h
 all_goals
  have y3:=fun n m h=>@sameN_yes (iv0 0) (iv0 1) n m (iv 22) h g2
 all_goals
  unfold sameP at y1 y2
 all_goals
  (repeat' (with_reducible apply And.intro))<;>first
  | omega
  | assumption
  | (unfold inM;omega)
  | exact trivial
  | (clear hin hF ha;grind)
theorem cRSame_c:LsC ((tm0 cRSame Try.f19 (Try.f19.body.getD .skip))::[cRSame_T1]) cRSame.os [cRSame_L0,cRSame_L1]:=by
 unfold cRSame_L0 cRSame_L1
 exact ⟨List.forall_mem_cons.2 ⟨⟨⟨_,rfl,rfl⟩,by kernel_rfl⟩,List.forall_mem_cons.2 ⟨⟨⟨_,rfl,rfl⟩,by kernel_rfl⟩,List.forall_mem_nil _⟩⟩,List.forall_mem_cons.2 ⟨⟨⟨_,rfl,rfl⟩,by kernel_rfl⟩,List.forall_mem_cons.2 ⟨⟨⟨_,rfl,rfl⟩,by kernel_rfl⟩,List.forall_mem_cons.2 ⟨⟨⟨_,rfl,rfl⟩,by kernel_rfl⟩,List.forall_mem_cons.2 ⟨⟨⟨_,rfl,rfl⟩,by kernel_rfl⟩,List.forall_mem_cons.2 ⟨⟨⟨_,rfl,rfl⟩,by kernel_rfl⟩,List.forall_mem_nil _⟩⟩⟩⟩⟩,trivial⟩
theorem cRSame_ok:cRSame.Ok Try.prog FI FB:=
 Con.of_plain (body:=Try.f19.body.getD .skip) pok fiok (EntsFor.cons cSmP_ok EntsFor.nil) cRSame Try.func19 (by kernel_rfl) 2 [cRSame_T1] (by kernel_rfl) [cRSame_L0,cRSame_L1] ⟨cRSame_h0,cRSame_h1,trivial⟩ cRSame_c
  cRSame_inv cRSame_mu (fun _ _ _=>trivial) fun kv iv0 bv0 hin hF k l iv bv hk ha hi=>match k,hk,hi with
  | 0,hk,hi=>by
    cases hk
    exact cRSame_o0 kv iv0 bv0 hin hF iv bv ha hi
  | 1,hk,hi=>by
    cases hk
    exact cRSame_o1 kv iv0 bv0 hin hF iv bv ha hi
  | k+2,hk,_=>by simp at hk
end
end Go.Sx.Pk
