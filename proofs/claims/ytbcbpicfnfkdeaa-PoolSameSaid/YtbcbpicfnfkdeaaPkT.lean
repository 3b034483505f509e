/- The pool: Take, by contract. -/
import Derived.Test.YtbcbpicfnfkdeaaPkQ
import Derived.Test.YtbcbpicfnfkdeaaPkU
namespace Go.Sx.Pk
set_option linter.unusedVariables false
set_option linter.unusedSimpArgs false
set_option maxRecDepth 100000
noncomputable section
open Go Go.Sx Go.Proofs
def plA (id:Nat) (n cap:SI):Nat×Bk:=(0,.cells [.sl (.n id) (.c 0) n cap,.it .i64 (.v 3)] 59)
def arP (id:Nat) (c n cap:SI):Nat×Bk:=(id,.arr kP c n 29 cap)
def fT:List (SB×Bool):=[(.le (.v 1) (.v 2),true),(.le (.v 1) (.c 4096),true)]
def bT:List (Nat×Int×Int):=[(1,0,-1),(2,0,-1),(3,1,64)]
def rgT:SB:=.and (.le (.c 0) (.v 4)) (.lt (.v 4) (.v 1))
def n1T:SI:=.op .add (.v 1) (.c (-1))
def cTake:Com:=⟨11,[0,1,2,3,4],[ppV,.it .i64 (.v 4)],plO,2,i64b 4::bT,fO,[
 ⟨[(rgT,true)],.tp [pkAt (.v 0) (.v 4),.it .i64 (.c 0)],[plA 2 n1T (.d 0),hO 1,arP 2 (.ap 9 (.v 0) (.v 4) (.v 0) (.op .add (.v 4) (.c 1)) (.op .add (.v 1) (.op .add (.op .mul (.c (-1)) (.v 4)) (.c (-1)))) (.c 0)) n1T (.d 0)],3,1,[(.le n1T (.d 0),true)]⟩,
 ⟨[(rgT,false)],.tp [pk0,.it .i64 (.c 4)],plO,2,0,[]⟩],.c 0,[29]⟩
def cTake_L0:List Lf:=
 let x0_:SI:=(.op .add (.v 4) (.c 1))
 let x1_:SI:=(.op .add (.v 1) (.c (-1)))
 let x2_:SI:=(.ap 200 (.c 0) (.c 0) (.c 0) (.c 0) (.c 0) (.c 0))
 let x3_:SI:=(.op .add (.op .add (.v 1) (.op .mul (.v 4) (.c (-1)))) (.c (-1)))
 let x4_:SI:=(.ap 200 (.ap 8 (.v 0) (.v 4) (.c 2) (.c 0) (.c 10) (.c 0)) (.c 0) (.c 0) (.c 0) (.c 0) (.c 0))
 let f0_:List (SB×Bool):=[((.ap 26 (.v 0) (.v 1) (.c 0) (.c 0) (.c 0) (.c 0)),.true),((.le (.v 1) (.v 2)),.true),((.le (.v 1) (.c 4096)),.true)]
 let f1_:List (SB×Bool):=((.le (.c 0) (.v 4)),.true)::f0_
 let f2_:List (SB×Bool):=((.lt (.v 4) (.v 1)),.true)::f1_
 let f3_:List (SB×Bool):=((.le (.v 1) (.d 0)),.true)::((.le x4_ (.c 65536)),.true)::f2_
 [(.fin (((.eq (.v 1) x0_),.true)::f3_) 0 ⟨⟨[],[]⟩,[(2,8),(1,1),(0,0)],[(0,(.d 0))],[]⟩ [(.ei (.op .add (.v 1) (.c (-1))) (.v 4)),(.ar [(.nt .i64),(.nt .i64),(.fs 0)] (.ap 9 (.v 0) (.v 4) (.v 0) x0_ x3_ (.c 0)) (.ap 9 (.v 0) (.v 4) (.c 0) (.c 0) (.op .sub (.v 1) (.v 4)) (.c 0)) (.op .add (.v 1) (.c (-1)))),(.fa (.le x1_ (.v 1)) .true)] [.none,.none,.none]),
  (.fin (((.eq (.v 1) x0_),.false)::f3_) 0 ⟨⟨[],[]⟩,[(2,8),(1,1),(0,0)],[(0,(.d 0))],[]⟩ [(.ar [(.nt .i64),(.nt .i64),(.fs 0)] (.ap 9 (.v 0) (.v 4) (.v 0) x0_ x3_ (.c 0)) (.ap 9 (.ap 9 (.v 0) (.v 4) (.v 0) x0_ (.op .sub (.v 1) x0_) (.c 0)) x1_ (.c 0) (.c 0) (.c 1) (.c 0)) (.op .add (.v 1) (.c (-1)))),(.fa (.le x1_ (.v 1)) .true)] [.none,.none,.none]),
  (.bad (((.le x4_ (.c 65536)),.false)::f2_)),
  (.fin (((.lt (.v 4) (.v 1)),.false)::f1_) 1 ⟨⟨[],[]⟩,[(1,1),(0,0)],[],[]⟩ [(.fa (.eq x2_ (.c 0)) .true)] [.none,.none]),
  (.fin (((.le (.c 0) (.v 4)),.false)::f0_) 1 ⟨⟨[],[]⟩,[(1,1),(0,0)],[],[]⟩ [(.fa (.eq x2_ (.c 0)) .true)] [.none,.none])]
def cTake_run (T:Tm):=(ex (ccM Try.prog BF [] cTake.ow) ((fun cc=>[cOwn.entH cc]) (ccM Try.prog BF [] cTake.ow)) (dw (ccM Try.prog BF [] cTake.ow) ((fun cc=>[cOwn.entH cc]) (ccM Try.prog BF [] cTake.ow)) 1000 4) (stopX [0,1,2,3,4,5,6,7,8,9,11,12,13,14,15,16,17,18,19,20,21,22,23,24,25,26,27,28,29,30,31,32,33,34,35,36,37,38,39,40,41,42,43,44,45,46,47,48,49,50,51,52,53,54,55,56,57,58,59,60,61,62,63,64,65,66,67,68,69,70,71,72,73,74,75,76,77,78,79,80,81,82,83,84,85,86,87,88,89,90,91,92,93,94,95,96,97,98,99,100,101,102,103,104,105,106,107,108,109,110,111,112,113,114,115,116,117,118,119,120,121,122,123,124,125,126,127,128,129,130,131,132,133,134,135,136,137,138,139,140,141,142,143,144,145,146,147,148,149,150,151,152,153,154,155,156,157,158,159,160,161,162,163,164,165,166,167,168,169,170,171,172,173,174,175,176,177,178,179,180,181,182,183,184,185,186,187,188,189,190,191,192,193,194,195,196,197,198,199,200,201,202,203,204,205,206,207,208,209,210,211,212,213,214,215,216,217,218,219,220,221,222,223,224,225,226,227,228,229,230,231,232,233,234,235,236,237,238,239,240,241,242,243,244,245,246,247,248,249]) 20000 T.f T.fs T.H).lfsM 2 (ccM Try.prog BF [] cTake.ow) ((tmM cTake Try.f11 (Try.f11.body.getD .skip))::[]) cTake.os
theorem cTake_h0:cTake_run (tmM cTake Try.f11 (Try.f11.body.getD .skip))=some cTake_L0:=by kernel_rfl
def cTake_inv:(Nat→Int)→(Nat→Bool)→Nat→(Nat→Int)→(Nat→Bool)→Prop:=fun _ _ _ _ _=>True
def cTake_mu:(Nat→Int)→(Nat→Bool)→Nat→(Nat→Int)→(Nat→Bool)→Nat:=fun _ _ _ _ _=>0
theorem cTake_b {iv0:Nat→Int} (hin:InB cTake.B iv0):0≤iv0 1∧0≤iv0 2∧(1≤iv0 3∧iv0 3≤64)∧((-9223372036854775808)≤iv0 4∧iv0 4≤9223372036854775807):=by
 have b1:=hin 1 0 (-1) (by simp [cTake,o1,i64b,kP,pkV,flF,i64s,lmap,SI.fl,flay,flayL,wP,pk0,pkAt,mayO,i64b,lO,hO,lenB,fO,bO,plO,plN,ppV,bP,plA,arP,fT,bT,rgT,n1T])
 simp only [Int.reduceLE,reduceIte,Int.reduceNeg] at b1
 have b2:=hin 2 0 (-1) (by simp [cTake,o1,i64b,kP,pkV,flF,i64s,lmap,SI.fl,flay,flayL,wP,pk0,pkAt,mayO,i64b,lO,hO,lenB,fO,bO,plO,plN,ppV,bP,plA,arP,fT,bT,rgT,n1T])
 simp only [Int.reduceLE,reduceIte,Int.reduceNeg] at b2
 have b3:=hin 3 1 64 (by simp [cTake,o1,i64b,kP,pkV,flF,i64s,lmap,SI.fl,flay,flayL,wP,pk0,pkAt,mayO,i64b,lO,hO,lenB,fO,bO,plO,plN,ppV,bP,plA,arP,fT,bT,rgT,n1T])
 simp only [Int.reduceLE,reduceIte,Int.reduceNeg] at b3
 have b4:=hin 4 (-9223372036854775808) 9223372036854775807 (by simp [cTake,o1,i64b,kP,pkV,flF,i64s,lmap,SI.fl,flay,flayL,wP,pk0,pkAt,mayO,i64b,lO,hO,lenB,fO,bO,plO,plN,ppV,bP,plA,arP,fT,bT,rgT,n1T])
 simp only [Int.reduceLE,reduceIte,Int.reduceNeg] at b4
 exact ⟨b1.1,b2.1,b3,b4⟩
def cTake_ob (k:Nat) (l:List Lf):Prop:=∀ (kv:Kv) (iv0:Nat→Int) (bv0:Nat→Bool),InB cTake.B iv0→FT (sta FI FB kv iv0 bv0) (dlt dyn0) cTake.F→∀ (iv:Nat→Int) (bv:Nat→Bool),Agr 5 iv0 bv0 iv bv→cTake_inv iv0 bv0 k iv bv→∀ lf∈l,LfT (sta FI FB kv) cTake.os (cTake_inv iv0 bv0) (cTake_mu iv0 bv0) k iv bv lf
set_option maxHeartbeats 0 in
theorem cTake_o0:cTake_ob 0 cTake_L0:=by
 intro kv iv0 bv0 hin hF iv bv ha hi
 unfold cTake_L0
 refine List.forall_mem_cons.2 ⟨?_,List.forall_mem_cons.2 ⟨?_,List.forall_mem_cons.2 ⟨?_,List.forall_mem_cons.2 ⟨?_,List.forall_mem_cons.2 ⟨?_,List.forall_mem_nil _⟩⟩⟩⟩⟩
 all_goals
  intro δ hf
 all_goals
  obtain ⟨b1,b2,b3,b4⟩:=cTake_b hin
 all_goals
  have a0:=ha.1 0 (by omega)
  have a1:=ha.1 1 (by omega)
  have a2:=ha.1 2 (by omega)
  have a3:=ha.1 3 (by omega)
  have a4:=ha.1 4 (by omega)
 all_goals
  simp only [FT,TP,SB.tp,SI.tv,sta,IB.eval,and_true,true_and,ObsT,Ob.Tv,rowT,kix,In.tiv,↓tbvT,In.tbv,get_cons,get_nil,reduceIte,Nat.reduceEqDiff,Int.reduceToNat,Int.reduceAdd,Int.reduceSub,Int.reduceLE,Int.reduceLT,Int.reduceEq,ne_eq,Bool.false_eq_true,not_true_eq_false,not_false_eq_true,true_iff,false_iff,iff_true,iff_false,false_implies,implies_true,decT,decide_true,decide_false,Bool.decide_eq_true,ap2,pb2,FI_3,FI_4,FI_8,FI_9,FI_8c,FI_8z,FI_200,FB_2,Int.toNat_natCast,Int.toNat_zero,FI_26,FB_26,cTake_inv,cTake_mu,cTake,o1,othT,o1,i64b,kP,pkV,flF,i64s,lmap,SI.fl,flay,flayL,wP,pk0,pkAt,mayO,i64b,lO,hO,lenB,fO,bO,plO,plN,ppV,bP,plA,arP,fT,bT,rgT,n1T,a0,a1,a2,a3,a4] at hf hi ⊢
 all_goals
  have ln:lenOk (iv0 0) (iv0 1)→∀ j:Int,0≤j→j < iv0 1→flenC (gt (iv0 0) j.toNat 2)≤65536:=fun h j h0 h1=>h j.toNat (by omega)
 all_goals
  have l0:=fun h h0=>ln h (iv0 4) h0
 all_goals
  have z0:=flenC_zero
 all_goals
  have r0:=@rm_runs (iv0 0) (iv0 1) (iv0 4)
 all_goals
  (repeat' (with_reducible apply And.intro))<;>first
  | omega
  | assumption
  | (unfold inM;omega)
  | exact trivial
  | (clear hin hF ha;grind)
theorem cTake_c:LsCM 2 ((tmM cTake Try.f11 (Try.f11.body.getD .skip))::[]) cTake.os [cTake_L0]:=by
 unfold cTake_L0
 exact ⟨List.forall_mem_cons.2 ⟨⟨⟨⟨_,rfl,rfl⟩,by kernel_rfl⟩,by kernel_rfl⟩,List.forall_mem_cons.2 ⟨⟨⟨⟨_,rfl,rfl⟩,by kernel_rfl⟩,by kernel_rfl⟩,List.forall_mem_cons.2 ⟨⟨trivial,rfl⟩,List.forall_mem_cons.2 ⟨⟨⟨⟨_,rfl,rfl⟩,by kernel_rfl⟩,by kernel_rfl⟩,List.forall_mem_cons.2 ⟨⟨⟨⟨_,rfl,rfl⟩,by kernel_rfl⟩,by kernel_rfl⟩,List.forall_mem_nil _⟩⟩⟩⟩⟩,trivial⟩
theorem cTake_ok:cTake.Ok Try.prog FI FB:=
 Com.of_plain (body:=Try.f11.body.getD .skip) pok fiok (EntsFor.consH cOwn_ok EntsFor.nil) cTake Try.func11 (by kernel_rfl) 5 [] (by kernel_rfl) [cTake_L0] ⟨cTake_h0,trivial⟩ cTake_c
  cTake_inv cTake_mu (fun _ _ _=>trivial) fun kv iv0 bv0 hin hF k l iv bv hk ha hi=>match k,hk,hi with
  | 0,hk,hi=>by
    cases hk
    exact cTake_o0 kv iv0 bv0 hin hF iv bv ha hi
  | k+1,hk,_=>by simp at hk
end
end Go.Sx.Pk
