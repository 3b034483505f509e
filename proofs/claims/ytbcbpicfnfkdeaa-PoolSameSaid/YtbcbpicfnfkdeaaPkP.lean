/- The pool: lists of one's own. -/
import Derived.Test.YtbcbpicfnfkdeaaPkR
namespace Go.Sx.Pk
set_option linter.unusedVariables false
set_option linter.unusedSimpArgs false
set_option maxRecDepth 100000
set_option maxHeartbeats 0
noncomputable section
open Go Go.Sx Go.Proofs
def lO:SV:=.sl (.n 0) (.c 0) (.v 1) (.v 2)
def hO (i:Nat):Nat×Bk:=(i,.arr kP (.v 0) (.v 1) 29 (.v 2))
def lenB (a b:Nat):SB:=.ap 26 (.v a) (.v b) (.c 0) (.c 0) (.c 0) (.c 0)
def fO:List (SB×Bool):=[(lenB 0 1,true),(.le (.v 1) (.v 2),true),(.le (.v 1) (.c 4096),true)]
def bO:List (Nat×Int×Int):=[(1,0,-1),(2,0,-1)]
def cEach:Com:=⟨32,[0,1,2],[lO,.fn 33 [] []],[hO 0],1,bO,fO,[
 ⟨[(.eq (.v 1) (.c 0),true)],.sn,[hO 0],1,0,[]⟩,
 ⟨[(.eq (.v 1) (.c 0),false)],.sl (.n 1) (.c 0) (.v 1) (.d 0),[hO 0,(1,.arr kP (.ap 23 (.v 0) (.v 1) (.c 0) (.c 0) (.c 0) (.c 0)) (.v 1) 29 (.d 0))],2,1,[(.le (.v 1) (.d 0),true)]⟩],.c 0,[29]⟩
def cEach_T1:Tm:=⟨⟨32,22,[(10,(.it .i64 (.c 0))),(9,(.it .i64 (.v 1))),(8,(.sl (.n 0) (.c 0) (.v 1) (.v 2))),(5,.sn),(1,(.fn 33 [] []))],[(.code (atC Try.f32 [1,1,0,1,0,0])),(.inLoop (atC Try.f32 [1,1,0,1,0,0])),(.inBlock 0),(.code (atC Try.f32 [1,1,1]))],[],.none⟩,[],
    ⟨[(0,(.arr [(.nt .i64),(.nt .i64),(.fs 0)] (.v 0) (.v 1) 29 (.v 2)))],1,0,0,[((.ap 26 (.v 0) (.v 1) (.c 0) (.c 0) (.c 0) (.c 0)),.true),((.le (.v 1) (.v 2)),.true),((.le (.v 1) (.c 4096)),.true)],[0],[(1,(0,4096)),(2,(0,(-1))),(1,(0,4096)),(1,(0,(-1))),(2,(0,(-1)))]⟩,[]⟩
def cEach_T2:Tm:=⟨⟨32,22,[(10,(.it .i64 (.v 26))),(5,(.sl (.n 3) (.c 0) (.v 26) (.v 23))),(9,(.it .i64 (.v 1))),(8,(.sl (.n 0) (.c 0) (.v 1) (.v 2))),(1,(.fn 33 [] []))],[(.code (atC Try.f32 [1,1,0,1,0,0])),(.inLoop (atC Try.f32 [1,1,0,1,0,0])),(.inBlock 0),(.code (atC Try.f32 [1,1,1]))],[],.none⟩,[],
    ⟨[(0,(.arr [(.nt .i64),(.nt .i64),(.fs 0)] (.v 0) (.v 1) 29 (.v 2))),(3,(.arr [(.nt .i64),(.nt .i64),(.fs 0)] (.v 27) (.v 26) 29 (.v 23)))],4,0,0,[((.le (.ap 200 (.ap 8 (.v 0) (.c 0) (.c 2) (.c 0) (.c 10) (.c 0)) (.c 0) (.c 0) (.c 0) (.c 0) (.c 0)) (.c 65536)),.true),((.lt (.c 0) (.v 1)),.true),((.ap 26 (.v 0) (.v 1) (.c 0) (.c 0) (.c 0) (.c 0)),.true),((.le (.v 1) (.c 4096)),.true),((.le (.v 1) (.v 2)),.true),((.le (.v 26) (.v 23)),.true)],[0],[(1,(1,4096)),(2,(0,(-1))),(26,(1,0))]⟩,[26,27,23]⟩
def cEach_L0:List Lf:=
 [(.cut ([((.ap 26 (.v 0) (.v 1) (.c 0) (.c 0) (.c 0) (.c 0)),.true),((.le (.v 1) (.v 2)),.true),((.le (.v 1) (.c 4096)),.true)]) 1 ⟨⟨[],[]⟩,[(0,0)],[],[]⟩ [] (shT cEach_T1 ⟨⟨[],[]⟩,[(0,0)],[],[]⟩))]
def cEach_L1:List Lf:=
 let x0_:SI:=(.ap 8 (.v 0) (.c 0) (.c 2) (.c 0) (.c 10) (.c 0))
 let x1_:SI:=(.ap 200 x0_ (.c 0) (.c 0) (.c 0) (.c 0) (.c 0))
 let x2_:SI:=(.ap 8 (.ap 8 (.c 0) (.c 0) (.c 0) (.ap 3 (.v 0) (.c 0) (.c 0) (.c 0) (.c 0) (.c 0)) (.c 0) (.c 0)) (.c 0) (.c 1) (.ap 3 (.v 0) (.c 0) (.c 1) (.c 0) (.c 0) (.c 0)) (.c 0) (.c 0))
 let x3_:SI:=(.ap 8 x2_ (.c 0) (.c 2) x0_ (.c 0) (.c 0))
 let f0_:List (SB×Bool):=[((.ap 26 (.v 0) (.v 1) (.c 0) (.c 0) (.c 0) (.c 0)),.true),((.le (.v 1) (.v 2)),.true),((.le (.v 1) (.c 4096)),.true)]
 let f1_:List (SB×Bool):=((.lt (.c 0) (.v 1)),.true)::f0_
 [(let i_:In:=⟨⟨[(27,(.ap 8 x2_ (.c 0) (.c 2) x0_ (.c 0) (.c 0))),(23,(.d 0)),(26,(.c 1))],[]⟩,[(0,0),(3,3)],[],[]⟩;.cut (((.le (.c 1) (.d 0)),.true)::((.le x1_ (.c 65536)),.true)::f1_) 2 i_ [(.ei (.ap 3 x3_ (.c 0) (.c 0) (.c 0) (.c 0) (.c 0)) (.ap 3 (.v 0) (.c 0) (.c 0) (.c 0) (.c 0) (.c 0))),(.ei (.ap 3 x3_ (.c 0) (.c 1) (.c 0) (.c 0) (.c 0)) (.ap 3 (.v 0) (.c 0) (.c 1) (.c 0) (.c 0) (.c 0))),(.fa (.eq (.ap 200 (.ap 8 x3_ (.c 0) (.c 2) (.c 0) (.c 10) (.c 0)) (.c 0) (.c 0) (.c 0) (.c 0) (.c 0)) x1_) .true),(.ar [(.nt .u8)] (.ap 8 x3_ (.c 0) (.c 2) (.c 0) (.c 10) (.c 0)) (.ap 8 (.v 0) (.c 0) (.c 2) (.c 0) (.c 10) (.c 0)) (.ap 200 x0_ (.c 0) (.c 0) (.c 0) (.c 0) (.c 0))),(.fa (.le (.c 1) (.c 1)) .true),(.fa (.le (.c 1) (.d 0)) .true)] (shT cEach_T2 i_)),
  (.bad (((.le x1_ (.c 65536)),.false)::f1_)),
  (.fin (((.lt (.c 0) (.v 1)),.false)::f0_) 0 ⟨⟨[],[]⟩,[(0,0)],[],[]⟩ [] [.none])]
def cEach_L2:List Lf:=
 let x0_:SI:=(.ap 8 (.v 0) (.v 26) (.c 2) (.c 0) (.c 10) (.c 0))
 let x1_:SI:=(.ap 200 x0_ (.c 0) (.c 0) (.c 0) (.c 0) (.c 0))
 let f0_:List (SB×Bool):=[((.le (.ap 200 (.ap 8 (.v 0) (.c 0) (.c 2) (.c 0) (.c 10) (.c 0)) (.c 0) (.c 0) (.c 0) (.c 0) (.c 0)) (.c 65536)),.true),((.lt (.c 0) (.v 1)),.true),((.ap 26 (.v 0) (.v 1) (.c 0) (.c 0) (.c 0) (.c 0)),.true),((.le (.v 1) (.c 4096)),.true),((.le (.v 1) (.v 2)),.true),((.le (.v 26) (.v 23)),.true)]
 let f1_:List (SB×Bool):=((.lt (.v 26) (.v 1)),.true)::f0_
 [(let i_:In:=⟨⟨[(27,(.ap 8 (.ap 8 (.ap 8 (.v 27) (.v 26) (.c 0) (.ap 3 (.v 0) (.v 26) (.c 0) (.c 0) (.c 0) (.c 0)) (.c 0) (.c 0)) (.v 26) (.c 1) (.ap 3 (.v 0) (.v 26) (.c 1) (.c 0) (.c 0) (.c 0)) (.c 0) (.c 0)) (.v 26) (.c 2) x0_ (.c 0) (.c 0))),(23,(.d 0)),(26,(.op .add (.v 26) (.c 1)))],[]⟩,[(0,0),(3,6)],[],[]⟩;.cut (((.le (.op .add (.v 26) (.c 1)) (.d 0)),.true)::((.le x1_ (.c 65536)),.true)::f1_) 2 i_ [] (shT cEach_T2 i_)),
  (.bad (((.le x1_ (.c 65536)),.false)::f1_)),
  (.fin (((.lt (.v 26) (.v 1)),.false)::f0_) 1 ⟨⟨[],[]⟩,[(1,3),(0,0)],[(0,(.v 23))],[]⟩ [(.ei (.v 1) (.v 26)),(.ar [(.nt .i64),(.nt .i64),(.fs 0)] (.ap 23 (.v 0) (.v 1) (.c 0) (.c 0) (.c 0) (.c 0)) (.v 27) (.v 1)),(.fa (.le (.v 1) (.v 26)) .true)] [.none,.none])]
def cEach_run (T:Tm):=(ex (ccM Try.prog BF [] cEach.ow) ((fun cc=>[cOwn.entH cc]) (ccM Try.prog BF [] cEach.ow)) (dw (ccM Try.prog BF [] cEach.ow) ((fun cc=>[cOwn.entH cc]) (ccM Try.prog BF [] cEach.ow)) 1000 4) (stopX []) 4000 T.f T.fs T.H).lfsM 1 (ccM Try.prog BF [] cEach.ow) ((tmM cEach Try.f32 (Try.f32.body.getD .skip))::[cEach_T1,cEach_T2]) cEach.os
theorem cEach_h0:cEach_run (tmM cEach Try.f32 (Try.f32.body.getD .skip))=some cEach_L0:=by kernel_rfl
theorem cEach_h1:cEach_run cEach_T1=some cEach_L1:=by kernel_rfl
theorem cEach_h2:cEach_run cEach_T2=some cEach_L2:=by kernel_rfl
def cEach_inv:(Nat→Int)→(Nat→Bool)→Nat→(Nat→Int)→(Nat→Bool)→Prop:=fun iv0 _ k iv _=>match k with | 0=>True | 1=>True | _=>1≤iv 26∧iv 26≤iv0 1∧iv 26≤iv 23∧eqN (iv 27) (iv0 0) (iv 26)
def cEach_mu:(Nat→Int)→(Nat→Bool)→Nat→(Nat→Int)→(Nat→Bool)→Nat:=fun iv0 _ k iv _=>match k with | 0=>2 ^ 90 | 1=>2 ^ 80 | _=>(5000 - iv 26).toNat
theorem cEach_b {iv0:Nat→Int} (hin:InB cEach.B iv0):0≤iv0 1∧0≤iv0 2:=by
 have b1:=hin 1 0 (-1) (by simp [cEach,o1,i64b,kP,pkV,flF,i64s,lmap,SI.fl,flay,flayL,wP,pk0,pkAt,mayO,i64b,lO,hO,lenB,fO,bO])
 simp only [Int.reduceLE,reduceIte,Int.reduceNeg] at b1
 have b2:=hin 2 0 (-1) (by simp [cEach,o1,i64b,kP,pkV,flF,i64s,lmap,SI.fl,flay,flayL,wP,pk0,pkAt,mayO,i64b,lO,hO,lenB,fO,bO])
 simp only [Int.reduceLE,reduceIte,Int.reduceNeg] at b2
 exact ⟨b1.1,b2.1⟩
def cEach_ob (k:Nat) (l:List Lf):Prop:=∀ (kv:Kv) (iv0:Nat→Int) (bv0:Nat→Bool),InB cEach.B iv0→FT (sta FI FB kv iv0 bv0) (dlt dyn0) cEach.F→∀ (iv:Nat→Int) (bv:Nat→Bool),Agr 3 iv0 bv0 iv bv→cEach_inv iv0 bv0 k iv bv→∀ lf∈l,LfT (sta FI FB kv) cEach.os (cEach_inv iv0 bv0) (cEach_mu iv0 bv0) k iv bv lf
theorem cEach_o0:cEach_ob 0 cEach_L0:=by
 intro kv iv0 bv0 hin hF iv bv ha hi
 unfold cEach_L0
 refine List.forall_mem_cons.2 ⟨?_,List.forall_mem_nil _⟩
 all_goals
  intro δ hf
 all_goals
  obtain ⟨b1,b2⟩:=cEach_b hin
 all_goals
  have a0:=ha.1 0 (by omega)
  have a1:=ha.1 1 (by omega)
  have a2:=ha.1 2 (by omega)
 all_goals
  simp only [FT,TP,SB.tp,SI.tv,sta,IB.eval,and_true,true_and,ObsT,Ob.Tv,rowT,kix,In.tiv,↓tbvT,In.tbv,get_cons,get_nil,reduceIte,Nat.reduceEqDiff,Int.reduceToNat,Int.reduceAdd,Int.reduceSub,Int.reduceLE,Int.reduceLT,Int.reduceEq,ne_eq,Bool.false_eq_true,not_true_eq_false,not_false_eq_true,true_iff,false_iff,iff_true,iff_false,false_implies,implies_true,decT,decide_true,decide_false,Bool.decide_eq_true,ap2,pb2,FI_3,FI_4,FI_8,FI_9,FI_8c,FI_8z,FI_200,FB_2,Int.toNat_natCast,Int.toNat_zero,FI_23,FI_26,FB_26,cEach_inv,cEach_mu,cEach,o1,othT,o1,i64b,kP,pkV,flF,i64s,lmap,SI.fl,flay,flayL,wP,pk0,pkAt,mayO,i64b,lO,hO,lenB,fO,bO,a0,a1,a2] at hf hi ⊢
 all_goals
  (repeat' (with_reducible apply And.intro))<;>first
  | omega
  | assumption
  | (unfold inM;omega)
  | exact trivial
  | (clear hin hF ha;grind)
theorem cEach_o1:cEach_ob 1 cEach_L1:=by
 intro kv iv0 bv0 hin hF iv bv ha hi
 unfold cEach_L1
 refine List.forall_mem_cons.2 ⟨?_,List.forall_mem_cons.2 ⟨?_,List.forall_mem_cons.2 ⟨?_,List.forall_mem_nil _⟩⟩⟩
 all_goals
  intro δ hf
 all_goals
  obtain ⟨b1,b2⟩:=cEach_b hin
 all_goals
  have a0:=ha.1 0 (by omega)
  have a1:=ha.1 1 (by omega)
  have a2:=ha.1 2 (by omega)
 all_goals
  simp only [FT,TP,SB.tp,SI.tv,sta,IB.eval,and_true,true_and,ObsT,Ob.Tv,rowT,kix,In.tiv,↓tbvT,In.tbv,get_cons,get_nil,reduceIte,Nat.reduceEqDiff,Int.reduceToNat,Int.reduceAdd,Int.reduceSub,Int.reduceLE,Int.reduceLT,Int.reduceEq,ne_eq,Bool.false_eq_true,not_true_eq_false,not_false_eq_true,true_iff,false_iff,iff_true,iff_false,false_implies,implies_true,decT,decide_true,decide_false,Bool.decide_eq_true,ap2,pb2,FI_3,FI_4,FI_8,FI_9,FI_8c,FI_8z,FI_200,FB_2,Int.toNat_natCast,Int.toNat_zero,FI_23,FI_26,FB_26,cEach_inv,cEach_mu,cEach,o1,othT,o1,i64b,kP,pkV,flF,i64s,lmap,SI.fl,flay,flayL,wP,pk0,pkAt,mayO,i64b,lO,hO,lenB,fO,bO,a0,a1,a2] at hf hi ⊢
 all_goals
  have ln:lenOk (iv0 0) (iv0 1)→∀ j:Int,0≤j→j < iv0 1→flenC (gt (iv0 0) j.toNat 2)≤65536:=fun h j h0 h1=>h j.toNat (by omega)
 all_goals
  have l0:=fun h=>ln h 0 (by omega)
 all_goals
  simp only [Int.toNat_zero] at l0
 all_goals
  have e1:=@eqN_one (iv0 0) _ _ _ rfl rfl rfl
 all_goals
  have r1:=@row_one _ _ (gt (iv0 0) 0 2) (iv0 0) rfl rfl
 all_goals
  (repeat' (with_reducible apply And.intro))<;>first
  | omega
  | assumption
  | (unfold inM;omega)
  | exact trivial
  | (clear hin hF ha;grind)
theorem cEach_o2:cEach_ob 2 cEach_L2:=by
 intro kv iv0 bv0 hin hF iv bv ha hi
 unfold cEach_L2
 refine List.forall_mem_cons.2 ⟨?_,List.forall_mem_cons.2 ⟨?_,List.forall_mem_cons.2 ⟨?_,List.forall_mem_nil _⟩⟩⟩
 all_goals
  intro δ hf
 all_goals
  obtain ⟨b1,b2⟩:=cEach_b hin
 all_goals
  have a0:=ha.1 0 (by omega)
  have a1:=ha.1 1 (by omega)
  have a2:=ha.1 2 (by omega)
 all_goals
  simp only [FT,TP,SB.tp,SI.tv,sta,IB.eval,and_true,true_and,ObsT,Ob.Tv,rowT,kix,In.tiv,↓tbvT,In.tbv,get_cons,get_nil,reduceIte,Nat.reduceEqDiff,Int.reduceToNat,Int.reduceAdd,Int.reduceSub,Int.reduceLE,Int.reduceLT,Int.reduceEq,ne_eq,Bool.false_eq_true,not_true_eq_false,not_false_eq_true,true_iff,false_iff,iff_true,iff_false,false_implies,implies_true,decT,decide_true,decide_false,Bool.decide_eq_true,ap2,pb2,FI_3,FI_4,FI_8,FI_9,FI_8c,FI_8z,FI_200,FB_2,Int.toNat_natCast,Int.toNat_zero,FI_23,FI_26,FB_26,cEach_inv,cEach_mu,cEach,o1,othT,o1,i64b,kP,pkV,flF,i64s,lmap,SI.fl,flay,flayL,wP,pk0,pkAt,mayO,i64b,lO,hO,lenB,fO,bO,a0,a1,a2] at hf hi ⊢
 all_goals
  obtain ⟨g0,g1,g2,g3⟩:=hi
 all_goals
  have ln:lenOk (iv0 0) (iv0 1)→∀ j:Int,0≤j→j < iv0 1→flenC (gt (iv0 0) j.toNat 2)≤65536:=fun h j h0 h1=>h j.toNat (by omega)
 all_goals
  have l0:=fun h=>ln h (iv 26) (by omega)
 all_goals
  have e1:=@eqN_suc (iv 27) (iv0 0) (iv 26) (iv 26) _ _ _ g3 rfl (by omega) rfl rfl rfl
 all_goals
  have e2:=eqN_cpR g3
 all_goals
  (repeat' (with_reducible apply And.intro))<;>first
  | omega
  | assumption
  | (unfold inM;omega)
  | exact trivial
  | (clear hin hF ha;grind)
theorem cEach_c:LsCM 1 ((tmM cEach Try.f32 (Try.f32.body.getD .skip))::[cEach_T1,cEach_T2]) cEach.os [cEach_L0,cEach_L1,cEach_L2]:=by
 unfold cEach_L0 cEach_L1 cEach_L2
 exact ⟨List.forall_mem_cons.2 ⟨⟨⟨⟨_,rfl,rfl⟩,by kernel_rfl⟩,by kernel_rfl⟩,List.forall_mem_nil _⟩,List.forall_mem_cons.2 ⟨⟨⟨⟨_,rfl,rfl⟩,by kernel_rfl⟩,by kernel_rfl⟩,List.forall_mem_cons.2 ⟨⟨trivial,rfl⟩,List.forall_mem_cons.2 ⟨⟨⟨⟨_,rfl,rfl⟩,by kernel_rfl⟩,by kernel_rfl⟩,List.forall_mem_nil _⟩⟩⟩,List.forall_mem_cons.2 ⟨⟨⟨⟨_,rfl,rfl⟩,by kernel_rfl⟩,by kernel_rfl⟩,List.forall_mem_cons.2 ⟨⟨trivial,rfl⟩,List.forall_mem_cons.2 ⟨⟨⟨⟨_,rfl,rfl⟩,by kernel_rfl⟩,by kernel_rfl⟩,List.forall_mem_nil _⟩⟩⟩,trivial⟩
theorem cEach_ok:cEach.Ok Try.prog FI FB:=
 Com.of_plain (body:=Try.f32.body.getD .skip) pok fiok (EntsFor.consH cOwn_ok EntsFor.nil) cEach Try.func32 (by kernel_rfl) 3 [cEach_T1,cEach_T2] (by kernel_rfl) [cEach_L0,cEach_L1,cEach_L2] ⟨cEach_h0,cEach_h1,cEach_h2,trivial⟩ cEach_c
  cEach_inv cEach_mu (fun _ _ _=>trivial) fun kv iv0 bv0 hin hF k l iv bv hk ha hi=>match k,hk,hi with
  | 0,hk,hi=>by
    cases hk
    exact cEach_o0 kv iv0 bv0 hin hF iv bv ha hi
  | 1,hk,hi=>by
    cases hk
    exact cEach_o1 kv iv0 bv0 hin hF iv bv ha hi
  | 2,hk,hi=>by
    cases hk
    exact cEach_o2 kv iv0 bv0 hin hF iv bv ha hi
  | k+3,hk,_=>by simp at hk
end
end Go.Sx.Pk
