/- The pool: Put, Double, by contract. -/
import Derived.Test.YtbcbpicfnfkdeaaPkX
import Derived.Test.YtbcbpicfnfkdeaaPkBa
namespace Go.Sx.Pk
set_option linter.unusedVariables false
set_option linter.unusedSimpArgs false
set_option maxRecDepth 100000
set_option maxHeartbeats 0
noncomputable section
open Go Go.Sx Go.Proofs
def plR (id:Nat) (n:SI):Nat×Bk:=(0,.cells [.sl (.n id) (.c 0) n (.d 0),.it .i64 (.v 3)] 59)
def arR (id:Nat) (c n:SI):Nat×Bk:=(id,.arr kP c n 29 (.d 0))
def bkR (c n:SI):List (Nat×Bk):=[plR 2 n,arR 2 c n]
def leR (n:SI):List (SB×Bool):=[(.le n (.d 0),true)]
def outR (cs:List (SB×Bool)) (z:SV) (c n:SI):Out:=⟨cs,z,bkR c n,3,1,leR n⟩
def fcR:List (SB×Bool):=[(.le (.v 1) (.v 2),true),(.le (.v 1) (.c 4096),true)]
def cPut:Com:=⟨10,[0,1,2,3,5],[ppV,.fs 2 (.v 5)],plO,2,bT,fcR,[outR [] (.it .i64 (.ap 21 (.v 3) (.v 1) (.v 5) (.c 0) (.c 0) (.c 0))) (.ap 9 (.v 0) (.v 1) (.v 5) (.c 0) (.ap 22 (.v 3) (.v 1) (.v 5) (.c 0) (.c 0) (.c 0)) (.c 0)) (.op .add (.v 1) (.ap 22 (.v 3) (.v 1) (.v 5) (.c 0) (.c 0) (.c 0)))],.c 0,[29]⟩
def cPut0:Com:=⟨10,[3,5],[ppV,.fs 2 (.v 5)],plN,1,[(3,1,64)],[],[
 ⟨[(.eq (.ap 22 (.v 3) (.c 0) (.v 5) (.c 0) (.c 0) (.c 0)) (.c 0),true)],.it .i64 (.ap 21 (.v 3) (.c 0) (.v 5) (.c 0) (.c 0) (.c 0)),plN,1,0,[]⟩,
 ⟨[(.eq (.ap 22 (.v 3) (.c 0) (.v 5) (.c 0) (.c 0) (.c 0)) (.c 0),false)],.it .i64 (.ap 21 (.v 3) (.c 0) (.v 5) (.c 0) (.c 0) (.c 0)),[plR 1 (.ap 22 (.v 3) (.c 0) (.v 5) (.c 0) (.c 0) (.c 0)),arR 1 (.ap 9 (.c 0) (.c 0) (.v 5) (.c 0) (.ap 22 (.v 3) (.c 0) (.v 5) (.c 0) (.c 0) (.c 0)) (.c 0)) (.ap 22 (.v 3) (.c 0) (.v 5) (.c 0) (.c 0) (.c 0))],2,1,leR (.ap 22 (.v 3) (.c 0) (.v 5) (.c 0) (.c 0) (.c 0))⟩],.c 0,[29]⟩
def cDbl:Com:=⟨12,[0,1,2,3,4],[ppV,.it .i64 (.v 4)],plO,2,i64b 4::bT,fO,[
 outR [(rgT,true),(.eq (.ap 20 (.v 3) (.ap 3 (.v 0) (.v 4) (.c 0) (.c 0) (.c 0) (.c 0)) (.ap 3 (.v 0) (.v 4) (.c 1) (.c 0) (.c 0) (.c 0)) (SI.fl (.ap 8 (.v 0) (.v 4) (.c 2) (.c 0) (.c 10) (.c 0))) (.v 1) (.c 0)) (.c 0),true)] (.it .i64 (.c 0)) (.ap 9 (.v 0) (.v 1) (.v 0) (.v 4) (.c 1) (.c 0)) (.op .add (.v 1) (.c 1)),
 outR [(rgT,true),(.eq (.ap 20 (.v 3) (.ap 3 (.v 0) (.v 4) (.c 0) (.c 0) (.c 0) (.c 0)) (.ap 3 (.v 0) (.v 4) (.c 1) (.c 0) (.c 0) (.c 0)) (SI.fl (.ap 8 (.v 0) (.v 4) (.c 2) (.c 0) (.c 10) (.c 0))) (.v 1) (.c 0)) (.c 0),false)] (.it .i64 (.ap 20 (.v 3) (.ap 3 (.v 0) (.v 4) (.c 0) (.c 0) (.c 0) (.c 0)) (.ap 3 (.v 0) (.v 4) (.c 1) (.c 0) (.c 0) (.c 0)) (SI.fl (.ap 8 (.v 0) (.v 4) (.c 2) (.c 0) (.c 10) (.c 0))) (.v 1) (.c 0))) (.v 0) (.v 1),
 outR [(rgT,false)] (.it .i64 (.c 4)) (.v 0) (.v 1)],.c 0,[29]⟩
def cDbl_L0:List Lf:=
 let x0_:SI:=(.ap 3 (.v 0) (.v 4) (.c 0) (.c 0) (.c 0) (.c 0))
 let x1_:SI:=(.ap 3 (.v 0) (.v 4) (.c 1) (.c 0) (.c 0) (.c 0))
 let x2_:SI:=(.ap 8 (.v 0) (.v 4) (.c 2) (.c 0) (.c 10) (.c 0))
 let x3_:SI:=(.ap 200 x2_ (.c 0) (.c 0) (.c 0) (.c 0) (.c 0))
 let f0_:List (SB×Bool):=[((.ap 26 (.v 0) (.v 1) (.c 0) (.c 0) (.c 0) (.c 0)),.true),((.le (.v 1) (.v 2)),.true),((.le (.v 1) (.c 4096)),.true)]
 let f1_:List (SB×Bool):=((.le (.c 0) (.v 4)),.true)::f0_
 let f2_:List (SB×Bool):=((.lt (.v 4) (.v 1)),.true)::f1_
 let f3_:List (SB×Bool):=((.le x3_ (.c 65536)),.true)::f2_
 let f4_:List (SB×Bool):=((.lt x0_ (.c 0)),.false)::f3_
 let f5_:List (SB×Bool):=((.le (.v 3) x0_),.false)::f4_
 let f6_:List (SB×Bool):=((.lt x1_ (.c 0)),.false)::f5_
 let f7_:List (SB×Bool):=((.le (.v 3) x1_),.false)::f6_
 let f8_:List (SB×Bool):=((.eq x0_ x1_),.false)::f7_
 [(.fin (((.lt x0_ (.c 0)),.true)::f3_) 1 ⟨⟨[],[]⟩,[(2,1),(0,0)],[(0,(.v 2))],[]⟩ [(.ei (.ap 20 (.v 3) x0_ x1_ x3_ (.v 1) (.c 0)) (.c 2))] [.none,.none]),
  (.fin (((.le (.v 3) x0_),.true)::f4_) 1 ⟨⟨[],[]⟩,[(2,1),(0,0)],[(0,(.v 2))],[]⟩ [(.ei (.ap 20 (.v 3) x0_ x1_ x3_ (.v 1) (.c 0)) (.c 2))] [.none,.none]),
  (.fin (((.lt x1_ (.c 0)),.true)::f5_) 1 ⟨⟨[],[]⟩,[(2,1),(0,0)],[(0,(.v 2))],[]⟩ [(.ei (.ap 20 (.v 3) x0_ x1_ x3_ (.v 1) (.c 0)) (.c 2))] [.none,.none]),
  (.fin (((.le (.v 3) x1_),.true)::f6_) 1 ⟨⟨[],[]⟩,[(2,1),(0,0)],[(0,(.v 2))],[]⟩ [(.ei (.ap 20 (.v 3) x0_ x1_ x3_ (.v 1) (.c 0)) (.c 2))] [.none,.none]),
  (.fin (((.eq x0_ x1_),.true)::f7_) 1 ⟨⟨[],[]⟩,[(2,1),(0,0)],[(0,(.v 2))],[]⟩ [(.ei (.ap 20 (.v 3) x0_ x1_ x3_ (.v 1) (.c 0)) (.c 2))] [.none,.none]),
  (.fin (((.le (.c 4096) (.v 1)),.true)::f8_) 1 ⟨⟨[],[]⟩,[(2,1),(0,0)],[(0,(.v 2))],[]⟩ [(.ei (.ap 20 (.v 3) x0_ x1_ x3_ (.v 1) (.c 0)) (.c 200))] [.none,.none]),
  (.fin (((.le (.op .add (.v 1) (.c 1)) (.d 0)),.true)::((.le (.c 4096) (.v 1)),.false)::f8_) 0 ⟨⟨[],[]⟩,[(2,16),(0,0)],[(0,(.d 0))],[]⟩ [(.ar [(.nt .i64),(.nt .i64),(.fs 0)] (.ap 9 (.v 0) (.v 1) (.v 0) (.v 4) (.c 1) (.c 0)) (.ap 8 (.ap 8 (.ap 8 (.v 0) (.v 1) (.c 0) x0_ (.c 0) (.c 0)) (.v 1) (.c 1) x1_ (.c 0) (.c 0)) (.v 1) (.c 2) x2_ (.c 0) (.c 0)) (.op .add (.v 1) (.c 1)))] [.none,.none]),
  (.bad (((.le x3_ (.c 65536)),.false)::f2_)),
  (.fin (((.lt (.v 4) (.v 1)),.false)::f1_) 2 ⟨⟨[],[]⟩,[(2,1),(0,0)],[(0,(.v 2))],[]⟩ [] [.none,.none]),
  (.fin (((.le (.c 0) (.v 4)),.false)::f0_) 2 ⟨⟨[],[]⟩,[(2,1),(0,0)],[(0,(.v 2))],[]⟩ [] [.none,.none])]
def cDbl_run (T:Tm):=(ex (ccM Try.prog BF [] cDbl.ow) ((fun cc=>[cOwn.entH cc]) (ccM Try.prog BF [] cDbl.ow)) (dw (ccM Try.prog BF [] cDbl.ow) ((fun cc=>[cOwn.entH cc]) (ccM Try.prog BF [] cDbl.ow)) 1000 4) (stopX [0,1,2,3,4,5,6,7,8,9,11,12,13,14,15,16,17,18,19,20,21,22,23,24,25,26,27,28,29,30,31,32,33,34,35,36,37,38,39,40,41,42,43,44,45,46,47,48,49,50,51,52,53,54,55,56,57,58,59,60,61,62,63,64,65,66,67,68,69,70,71,72,73,74,75,76,77,78,79,80,81,82,83,84,85,86,87,88,89,90,91,92,93,94,95,96,97,98,99,100,101,102,103,104,105,106,107,108,109,110,111,112,113,114,115,116,117,118,119,120,121,122,123,124,125,126,127,128,129,130,131,132,133,134,135,136,137,138,139,140,141,142,143,144,145,146,147,148,149,150,151,152,153,154,155,156,157,158,159,160,161,162,163,164,165,166,167,168,169,170,171,172,173,174,175,176,177,178,179,180,181,182,183,184,185,186,187,188,189,190,191,192,193,194,195,196,197,198,199,200,201,202,203,204,205,206,207,208,209,210,211,212,213,214,215,216,217,218,219,220,221,222,223,224,225,226,227,228,229,230,231,232,233,234,235,236,237,238,239,240,241,242,243,244,245,246,247,248,249]) 20000 T.f T.fs T.H).lfsM 2 (ccM Try.prog BF [] cDbl.ow) ((tmM cDbl Try.f12 (Try.f12.body.getD .skip))::[]) cDbl.os
theorem cDbl_h0:cDbl_run (tmM cDbl Try.f12 (Try.f12.body.getD .skip))=some cDbl_L0:=by kernel_rfl
def cDbl_inv:(Nat→Int)→(Nat→Bool)→Nat→(Nat→Int)→(Nat→Bool)→Prop:=fun _ _ _ _ _=>True
def cDbl_mu:(Nat→Int)→(Nat→Bool)→Nat→(Nat→Int)→(Nat→Bool)→Nat:=fun _ _ _ _ _=>0
theorem cDbl_b {iv0:Nat→Int} (hin:InB cDbl.B iv0):0≤iv0 1∧0≤iv0 2∧(1≤iv0 3∧iv0 3≤64)∧((-9223372036854775808)≤iv0 4∧iv0 4≤9223372036854775807):=by
 have b1:=hin 1 0 (-1) (by simp [cDbl,o1,i64b,kP,pkV,flF,i64s,lmap,SI.fl,flay,flayL,wP,pk0,pkAt,mayO,i64b,lO,hO,lenB,fO,bO,plO,plN,ppV,bP,plA,arP,fT,bT,rgT,n1T,toF,plR,arR,bkR,leR,outR,fcR])
 simp only [Int.reduceLE,reduceIte,Int.reduceNeg] at b1
 have b2:=hin 2 0 (-1) (by simp [cDbl,o1,i64b,kP,pkV,flF,i64s,lmap,SI.fl,flay,flayL,wP,pk0,pkAt,mayO,i64b,lO,hO,lenB,fO,bO,plO,plN,ppV,bP,plA,arP,fT,bT,rgT,n1T,toF,plR,arR,bkR,leR,outR,fcR])
 simp only [Int.reduceLE,reduceIte,Int.reduceNeg] at b2
 have b3:=hin 3 1 64 (by simp [cDbl,o1,i64b,kP,pkV,flF,i64s,lmap,SI.fl,flay,flayL,wP,pk0,pkAt,mayO,i64b,lO,hO,lenB,fO,bO,plO,plN,ppV,bP,plA,arP,fT,bT,rgT,n1T,toF,plR,arR,bkR,leR,outR,fcR])
 simp only [Int.reduceLE,reduceIte,Int.reduceNeg] at b3
 have b4:=hin 4 (-9223372036854775808) 9223372036854775807 (by simp [cDbl,o1,i64b,kP,pkV,flF,i64s,lmap,SI.fl,flay,flayL,wP,pk0,pkAt,mayO,i64b,lO,hO,lenB,fO,bO,plO,plN,ppV,bP,plA,arP,fT,bT,rgT,n1T,toF,plR,arR,bkR,leR,outR,fcR])
 simp only [Int.reduceLE,reduceIte,Int.reduceNeg] at b4
 exact ⟨b1.1,b2.1,b3,b4⟩
def cDbl_ob (k:Nat) (l:List Lf):Prop:=∀ (kv:Kv) (iv0:Nat→Int) (bv0:Nat→Bool),InB cDbl.B iv0→FT (sta FI FB kv iv0 bv0) (dlt dyn0) cDbl.F→∀ (iv:Nat→Int) (bv:Nat→Bool),Agr 5 iv0 bv0 iv bv→cDbl_inv iv0 bv0 k iv bv→∀ lf∈l,LfT (sta FI FB kv) cDbl.os (cDbl_inv iv0 bv0) (cDbl_mu iv0 bv0) k iv bv lf
theorem cDbl_o0:cDbl_ob 0 cDbl_L0:=by
 intro kv iv0 bv0 hin hF iv bv ha hi
 unfold cDbl_L0
 refine List.forall_mem_cons.2 ⟨?_,List.forall_mem_cons.2 ⟨?_,List.forall_mem_cons.2 ⟨?_,List.forall_mem_cons.2 ⟨?_,List.forall_mem_cons.2 ⟨?_,List.forall_mem_cons.2 ⟨?_,List.forall_mem_cons.2 ⟨?_,List.forall_mem_cons.2 ⟨?_,List.forall_mem_cons.2 ⟨?_,List.forall_mem_cons.2 ⟨?_,List.forall_mem_nil _⟩⟩⟩⟩⟩⟩⟩⟩⟩⟩
 all_goals
  intro δ hf
 all_goals
  obtain ⟨b1,b2,b3,b4⟩:=cDbl_b hin
 all_goals
  have a0:=ha.1 0 (by omega)
  have a1:=ha.1 1 (by omega)
  have a2:=ha.1 2 (by omega)
  have a3:=ha.1 3 (by omega)
  have a4:=ha.1 4 (by omega)
 all_goals
  simp only [FT,TP,SB.tp,SI.tv,sta,IB.eval,and_true,true_and,ObsT,Ob.Tv,rowT,kix,In.tiv,↓tbvT,In.tbv,get_cons,get_nil,reduceIte,Nat.reduceEqDiff,Int.reduceToNat,Int.reduceAdd,Int.reduceSub,Int.reduceLE,Int.reduceLT,Int.reduceEq,ne_eq,Bool.false_eq_true,not_true_eq_false,not_false_eq_true,true_iff,false_iff,iff_true,iff_false,false_implies,implies_true,decT,decide_true,decide_false,Bool.decide_eq_true,ap2,pb2,FI_3,FI_4,FI_8,FI_9,FI_8c,FI_8z,FI_200,FB_2,Int.toNat_natCast,Int.toNat_zero,FI_20,FI_26,FB_26,cDbl_inv,cDbl_mu,cDbl,o1,othT,o1,i64b,kP,pkV,flF,i64s,lmap,SI.fl,flay,flayL,wP,pk0,pkAt,mayO,i64b,lO,hO,lenB,fO,bO,plO,plN,ppV,bP,plA,arP,fT,bT,rgT,n1T,toF,plR,arR,bkR,leR,outR,fcR,a0,a1,a2,a3,a4] at hf hi ⊢
 all_goals
  have ln:lenOk (iv0 0) (iv0 1)→∀ j:Int,0≤j→j < iv0 1→flenC (gt (iv0 0) j.toNat 2)≤65536:=fun h j h0 h1=>h j.toNat (by omega)
 all_goals
  have l0:=fun h h0=>ln h (iv0 4) h0
 all_goals
  have d0:=fun h=>@dbl_rows (iv0 0) (iv0 1) (iv0 4) (by omega) h
 all_goals
  try unfold mayN
 all_goals
  (repeat' (with_reducible apply And.intro))<;>first
  | omega
  | assumption
  | (unfold inM;omega)
  | exact trivial
  | (clear hin hF ha;grind)
theorem cDbl_c:LsCM 2 ((tmM cDbl Try.f12 (Try.f12.body.getD .skip))::[]) cDbl.os [cDbl_L0]:=by
 unfold cDbl_L0
 exact ⟨List.forall_mem_cons.2 ⟨⟨⟨⟨_,rfl,rfl⟩,by kernel_rfl⟩,by kernel_rfl⟩,List.forall_mem_cons.2 ⟨⟨⟨⟨_,rfl,rfl⟩,by kernel_rfl⟩,by kernel_rfl⟩,List.forall_mem_cons.2 ⟨⟨⟨⟨_,rfl,rfl⟩,by kernel_rfl⟩,by kernel_rfl⟩,List.forall_mem_cons.2 ⟨⟨⟨⟨_,rfl,rfl⟩,by kernel_rfl⟩,by kernel_rfl⟩,List.forall_mem_cons.2 ⟨⟨⟨⟨_,rfl,rfl⟩,by kernel_rfl⟩,by kernel_rfl⟩,List.forall_mem_cons.2 ⟨⟨⟨⟨_,rfl,rfl⟩,by kernel_rfl⟩,by kernel_rfl⟩,List.forall_mem_cons.2 ⟨⟨⟨⟨_,rfl,rfl⟩,by kernel_rfl⟩,by kernel_rfl⟩,List.forall_mem_cons.2 ⟨⟨trivial,rfl⟩,List.forall_mem_cons.2 ⟨⟨⟨⟨_,rfl,rfl⟩,by kernel_rfl⟩,by kernel_rfl⟩,List.forall_mem_cons.2 ⟨⟨⟨⟨_,rfl,rfl⟩,by kernel_rfl⟩,by kernel_rfl⟩,List.forall_mem_nil _⟩⟩⟩⟩⟩⟩⟩⟩⟩⟩,trivial⟩
theorem cDbl_ok:cDbl.Ok Try.prog FI FB:=
 Com.of_plain (body:=Try.f12.body.getD .skip) pok fiok (EntsFor.consH cOwn_ok EntsFor.nil) cDbl Try.func12 (by kernel_rfl) 5 [] (by kernel_rfl) [cDbl_L0] ⟨cDbl_h0,trivial⟩ cDbl_c
  cDbl_inv cDbl_mu (fun _ _ _=>trivial) fun kv iv0 bv0 hin hF k l iv bv hk ha hi=>match k,hk,hi with
  | 0,hk,hi=>by
    cases hk
    exact cDbl_o0 kv iv0 bv0 hin hF iv bv ha hi
  | k+1,hk,_=>by simp at hk
def cPut_T1:Tm:=⟨⟨10,26,[(15,(.it .i64 (.v 31))),(14,(.it .i64 (.ap 200 (.v 5) (.c 0) (.c 0) (.c 0) (.c 0) (.c 0)))),(13,(.fs 2 (.v 5))),(5,(.fn 24 [(.pt (.n 0) (.c 0))] [])),(12,(.fn 24 [(.pt (.n 0) (.c 0))] [])),(11,(.pt (.n 0) (.c 0))),(9,(.pt (.n 0) (.c 0))),(0,(.pt (.n 0) (.c 0)))],[(.code (atC Try.f10 [1,1,1,0,1,0,0])),(.inLoop (atC Try.f10 [1,1,1,0,1,0,0])),(.inBlock 0),(.code (atC Try.f10 [1,1,1,1]))],[],.none⟩,[],
    ⟨[(0,(.cells [(.sl (.n 1) (.c 0) (.v 32) (.v 33)),(.it .i64 (.v 3))] 59)),(1,(.arr [(.nt .i64),(.nt .i64),(.fs 0)] (.v 26) (.v 32) 29 (.v 33)))],2,0,0,[((.le (.v 1) (.c 4096)),.true),((.le (.v 32) (.v 33)),.true)],[0],[(32,(0,4611686018427387904)),(33,(0,(-1))),(1,(0,4096)),(2,(0,(-1))),(3,(1,64)),(31,(0,(-1)))]⟩,[31,32,33,26]⟩
def cPut_L0:List Lf:=
 [(let i_:In:=⟨⟨[(26,(.v 0)),(33,(.v 2)),(32,(.v 1)),(31,(.c 0))],[]⟩,[(1,1),(0,0)],[],[]⟩;.cut ([((.le (.v 1) (.v 2)),.true),((.le (.v 1) (.c 4096)),.true)]) 1 i_ [] (shT cPut_T1 i_))]
def cPut_L1:List Lf:=
 let x0_:SI:=(.ap 3 (.v 5) (.v 31) (.c 0) (.c 0) (.c 0) (.c 0))
 let x1_:SI:=(.ap 3 (.v 5) (.v 31) (.c 1) (.c 0) (.c 0) (.c 0))
 let x2_:SI:=(.ap 22 (.v 3) (.v 1) (.v 5) (.c 0) (.c 0) (.c 0))
 let x3_:SI:=(.ap 200 (.v 5) (.c 0) (.c 0) (.c 0) (.c 0) (.c 0))
 let x4_:SI:=(.ap 8 (.v 5) (.v 31) (.c 2) (.c 0) (.c 10) (.c 0))
 let x5_:SI:=(.op .add (.v 1) x2_)
 let x6_:SI:=(.ap 200 x4_ (.c 0) (.c 0) (.c 0) (.c 0) (.c 0))
 let f0_:List (SB×Bool):=[((.le (.v 1) (.c 4096)),.true),((.le (.v 32) (.v 33)),.true)]
 let f1_:List (SB×Bool):=((.lt (.v 31) x3_),.true)::f0_
 let f2_:List (SB×Bool):=((.lt x0_ (.c 0)),.false)::f1_
 let f3_:List (SB×Bool):=((.le (.v 3) x0_),.false)::f2_
 let f4_:List (SB×Bool):=((.lt x1_ (.c 0)),.false)::f3_
 let f5_:List (SB×Bool):=((.le (.v 3) x1_),.false)::f4_
 let f6_:List (SB×Bool):=((.eq x0_ x1_),.false)::f5_
 let f7_:List (SB×Bool):=((.lt (.c 65536) x6_),.false)::f6_
 [(.fin (((.lt x0_ (.c 0)),.true)::f1_) 0 ⟨⟨[],[]⟩,[(2,1),(0,0)],[(0,(.v 33))],[]⟩ [(.ei (.ap 21 (.v 3) (.v 1) (.v 5) (.c 0) (.c 0) (.c 0)) (.c 2)),(.ei (.op .add (.v 1) x2_) (.v 32)),(.ar [(.nt .i64),(.nt .i64),(.fs 0)] (.ap 9 (.v 0) (.v 1) (.v 5) (.c 0) x2_ (.c 0)) (.v 26) (.op .add (.v 1) x2_)),(.fa (.le x5_ (.v 32)) .true),(.fa (.le x5_ (.v 33)) .true)] [.none,.none]),
  (.fin (((.le (.v 3) x0_),.true)::f2_) 0 ⟨⟨[],[]⟩,[(2,1),(0,0)],[(0,(.v 33))],[]⟩ [(.ei (.ap 21 (.v 3) (.v 1) (.v 5) (.c 0) (.c 0) (.c 0)) (.c 2)),(.ei (.op .add (.v 1) x2_) (.v 32)),(.ar [(.nt .i64),(.nt .i64),(.fs 0)] (.ap 9 (.v 0) (.v 1) (.v 5) (.c 0) x2_ (.c 0)) (.v 26) (.op .add (.v 1) x2_)),(.fa (.le x5_ (.v 32)) .true),(.fa (.le x5_ (.v 33)) .true)] [.none,.none]),
  (.fin (((.lt x1_ (.c 0)),.true)::f3_) 0 ⟨⟨[],[]⟩,[(2,1),(0,0)],[(0,(.v 33))],[]⟩ [(.ei (.ap 21 (.v 3) (.v 1) (.v 5) (.c 0) (.c 0) (.c 0)) (.c 2)),(.ei (.op .add (.v 1) x2_) (.v 32)),(.ar [(.nt .i64),(.nt .i64),(.fs 0)] (.ap 9 (.v 0) (.v 1) (.v 5) (.c 0) x2_ (.c 0)) (.v 26) (.op .add (.v 1) x2_)),(.fa (.le x5_ (.v 32)) .true),(.fa (.le x5_ (.v 33)) .true)] [.none,.none]),
  (.fin (((.le (.v 3) x1_),.true)::f4_) 0 ⟨⟨[],[]⟩,[(2,1),(0,0)],[(0,(.v 33))],[]⟩ [(.ei (.ap 21 (.v 3) (.v 1) (.v 5) (.c 0) (.c 0) (.c 0)) (.c 2)),(.ei (.op .add (.v 1) x2_) (.v 32)),(.ar [(.nt .i64),(.nt .i64),(.fs 0)] (.ap 9 (.v 0) (.v 1) (.v 5) (.c 0) x2_ (.c 0)) (.v 26) (.op .add (.v 1) x2_)),(.fa (.le x5_ (.v 32)) .true),(.fa (.le x5_ (.v 33)) .true)] [.none,.none]),
  (.fin (((.eq x0_ x1_),.true)::f5_) 0 ⟨⟨[],[]⟩,[(2,1),(0,0)],[(0,(.v 33))],[]⟩ [(.ei (.ap 21 (.v 3) (.v 1) (.v 5) (.c 0) (.c 0) (.c 0)) (.c 2)),(.ei (.op .add (.v 1) x2_) (.v 32)),(.ar [(.nt .i64),(.nt .i64),(.fs 0)] (.ap 9 (.v 0) (.v 1) (.v 5) (.c 0) x2_ (.c 0)) (.v 26) (.op .add (.v 1) x2_)),(.fa (.le x5_ (.v 32)) .true),(.fa (.le x5_ (.v 33)) .true)] [.none,.none]),
  (.fin (((.lt (.c 65536) x6_),.true)::f6_) 0 ⟨⟨[],[]⟩,[(2,1),(0,0)],[(0,(.v 33))],[]⟩ [(.ei (.ap 21 (.v 3) (.v 1) (.v 5) (.c 0) (.c 0) (.c 0)) (.c 3)),(.ei (.op .add (.v 1) x2_) (.v 32)),(.ar [(.nt .i64),(.nt .i64),(.fs 0)] (.ap 9 (.v 0) (.v 1) (.v 5) (.c 0) x2_ (.c 0)) (.v 26) (.op .add (.v 1) x2_)),(.fa (.le x5_ (.v 32)) .true),(.fa (.le x5_ (.v 33)) .true)] [.none,.none]),
  (.fin (((.le (.c 4096) (.v 32)),.true)::f7_) 0 ⟨⟨[],[]⟩,[(2,1),(0,0)],[(0,(.v 33))],[]⟩ [(.ei (.ap 21 (.v 3) (.v 1) (.v 5) (.c 0) (.c 0) (.c 0)) (.c 200)),(.ei (.op .add (.v 1) x2_) (.v 32)),(.ar [(.nt .i64),(.nt .i64),(.fs 0)] (.ap 9 (.v 0) (.v 1) (.v 5) (.c 0) x2_ (.c 0)) (.v 26) (.op .add (.v 1) x2_)),(.fa (.le x5_ (.v 32)) .true),(.fa (.le x5_ (.v 33)) .true)] [.none,.none]),
  (let i_:In:=⟨⟨[(26,(.ap 8 (.ap 8 (.ap 8 (.v 26) (.v 32) (.c 0) x0_ (.c 0) (.c 0)) (.v 32) (.c 1) x1_ (.c 0) (.c 0)) (.v 32) (.c 2) x4_ (.c 0) (.c 0))),(33,(.d 0)),(32,(.op .add (.v 32) (.c 1))),(31,(.wk .i64 (.op .add (.v 31) (.c 1))))],[]⟩,[(1,13),(0,0)],[],[]⟩;.cut (((.le (.op .add (.v 32) (.c 1)) (.d 0)),.true)::((.le (.c 4096) (.v 32)),.false)::f7_) 1 i_ [(.rn (.wk .i64 (.op .add (.v 31) (.c 1))) 0 (-1))] (shT cPut_T1 i_)),
  (.fin (((.lt (.v 31) x3_),.false)::f0_) 0 ⟨⟨[],[]⟩,[(2,1),(0,0)],[(0,(.v 33))],[]⟩ [(.ei (.ap 21 (.v 3) (.v 1) (.v 5) (.c 0) (.c 0) (.c 0)) (.c 0)),(.ei (.op .add (.v 1) x2_) (.v 32)),(.ar [(.nt .i64),(.nt .i64),(.fs 0)] (.ap 9 (.v 0) (.v 1) (.v 5) (.c 0) x2_ (.c 0)) (.v 26) (.op .add (.v 1) x2_)),(.fa (.le x5_ (.v 32)) .true),(.fa (.le x5_ (.v 33)) .true)] [.none,.none])]
def cPut_run (T:Tm):=(ex (ccM Try.prog BF [] cPut.ow) ((fun cc=>[cOwn.entH cc]) (ccM Try.prog BF [] cPut.ow)) (dw (ccM Try.prog BF [] cPut.ow) ((fun cc=>[cOwn.entH cc]) (ccM Try.prog BF [] cPut.ow)) 1000 4) (stopX [0,1,2,3,4,5,6,7,8,9,11,12,13,14,15,16,17,18,19,20,21,22,23,24,25,26,27,28,29,30,31,32,33,34,35,36,37,38,39,40,41,42,43,44,45,46,47,48,49,50,51,52,53,54,55,56,57,58,59,60,61,62,63,64,65,66,67,68,69,70,71,72,73,74,75,76,77,78,79,80,81,82,83,84,85,86,87,88,89,90,91,92,93,94,95,96,97,98,99,100,101,102,103,104,105,106,107,108,109,110,111,112,113,114,115,116,117,118,119,120,121,122,123,124,125,126,127,128,129,130,131,132,133,134,135,136,137,138,139,140,141,142,143,144,145,146,147,148,149,150,151,152,153,154,155,156,157,158,159,160,161,162,163,164,165,166,167,168,169,170,171,172,173,174,175,176,177,178,179,180,181,182,183,184,185,186,187,188,189,190,191,192,193,194,195,196,197,198,199,200,201,202,203,204,205,206,207,208,209,210,211,212,213,214,215,216,217,218,219,220,221,222,223,224,225,226,227,228,229,230,231,232,233,234,235,236,237,238,239,240,241,242,243,244,245,246,247,248,249]) 20000 T.f T.fs T.H).lfsM 2 (ccM Try.prog BF [] cPut.ow) ((tmM cPut Try.f10 (Try.f10.body.getD .skip))::[cPut_T1]) cPut.os
theorem cPut_h0:cPut_run (tmM cPut Try.f10 (Try.f10.body.getD .skip))=some cPut_L0:=by kernel_rfl
theorem cPut_h1:cPut_run cPut_T1=some cPut_L1:=by kernel_rfl
def cPut_inv:(Nat→Int)→(Nat→Bool)→Nat→(Nat→Int)→(Nat→Bool)→Prop:=fun iv0 _ k iv _=>match k with | 0=>True | _=>0≤iv 31∧iv 31≤flenC (iv0 5)∧iv 32=iv0 1+iv 31∧iv 32≤iv 33∧iv 32≤4096∧okN (iv0 3) (iv0 1) (iv0 5) (iv 31)∧putR (iv 26) (iv0 0) (iv0 1) (iv0 5) (iv 31)
def cPut_mu:(Nat→Int)→(Nat→Bool)→Nat→(Nat→Int)→(Nat→Bool)→Nat:=fun iv0 _ k iv _=>match k with | 0=>2 ^ 90 | _=>(5000 - iv 31).toNat
theorem cPut_b {iv0:Nat→Int} (hin:InB cPut.B iv0):0≤iv0 1∧0≤iv0 2∧(1≤iv0 3∧iv0 3≤64):=by
 have b1:=hin 1 0 (-1) (by simp [cPut,o1,i64b,kP,pkV,flF,i64s,lmap,SI.fl,flay,flayL,wP,pk0,pkAt,mayO,i64b,lO,hO,lenB,fO,bO,plO,plN,ppV,bP,plA,arP,fT,bT,rgT,n1T,toF,plR,arR,bkR,leR,outR,fcR])
 simp only [Int.reduceLE,reduceIte,Int.reduceNeg] at b1
 have b2:=hin 2 0 (-1) (by simp [cPut,o1,i64b,kP,pkV,flF,i64s,lmap,SI.fl,flay,flayL,wP,pk0,pkAt,mayO,i64b,lO,hO,lenB,fO,bO,plO,plN,ppV,bP,plA,arP,fT,bT,rgT,n1T,toF,plR,arR,bkR,leR,outR,fcR])
 simp only [Int.reduceLE,reduceIte,Int.reduceNeg] at b2
 have b3:=hin 3 1 64 (by simp [cPut,o1,i64b,kP,pkV,flF,i64s,lmap,SI.fl,flay,flayL,wP,pk0,pkAt,mayO,i64b,lO,hO,lenB,fO,bO,plO,plN,ppV,bP,plA,arP,fT,bT,rgT,n1T,toF,plR,arR,bkR,leR,outR,fcR])
 simp only [Int.reduceLE,reduceIte,Int.reduceNeg] at b3
 exact ⟨b1.1,b2.1,b3⟩
def cPut_ob (k:Nat) (l:List Lf):Prop:=∀ (kv:Kv) (iv0:Nat→Int) (bv0:Nat→Bool),InB cPut.B iv0→FT (sta FI FB kv iv0 bv0) (dlt dyn0) cPut.F→∀ (iv:Nat→Int) (bv:Nat→Bool),Agr 6 iv0 bv0 iv bv→cPut_inv iv0 bv0 k iv bv→∀ lf∈l,LfT (sta FI FB kv) cPut.os (cPut_inv iv0 bv0) (cPut_mu iv0 bv0) k iv bv lf
theorem cPut_o0:cPut_ob 0 cPut_L0:=by
 intro kv iv0 bv0 hin hF iv bv ha hi
 unfold cPut_L0
 refine List.forall_mem_cons.2 ⟨?_,List.forall_mem_nil _⟩
 all_goals
  intro δ hf
 all_goals
  obtain ⟨b1,b2,b3⟩:=cPut_b hin
 all_goals
  have a0:=ha.1 0 (by omega)
  have a1:=ha.1 1 (by omega)
  have a2:=ha.1 2 (by omega)
  have a3:=ha.1 3 (by omega)
  have a5:=ha.1 5 (by omega)
 all_goals
  simp only [FT,TP,SB.tp,SI.tv,sta,IB.eval,and_true,true_and,ObsT,Ob.Tv,rowT,kix,In.tiv,↓tbvT,In.tbv,get_cons,get_nil,reduceIte,Nat.reduceEqDiff,Int.reduceToNat,Int.reduceAdd,Int.reduceSub,Int.reduceLE,Int.reduceLT,Int.reduceEq,ne_eq,Bool.false_eq_true,not_true_eq_false,not_false_eq_true,true_iff,false_iff,iff_true,iff_false,false_implies,implies_true,decT,decide_true,decide_false,Bool.decide_eq_true,ap2,pb2,FI_3,FI_4,FI_8,FI_9,FI_8c,FI_8z,FI_200,FB_2,Int.toNat_natCast,Int.toNat_zero,FI_21,FI_22,cPut_inv,cPut_mu,cPut,o1,othT,o1,i64b,kP,pkV,flF,i64s,lmap,SI.fl,flay,flayL,wP,pk0,pkAt,mayO,i64b,lO,hO,lenB,fO,bO,plO,plN,ppV,bP,plA,arP,fT,bT,rgT,n1T,toF,plR,arR,bkR,leR,outR,fcR,a0,a1,a2,a3,a5] at hf hi ⊢
 all_goals
  have q0:=putR_zero (iv0 0) (iv0 1) (iv0 5)
 all_goals
  have q1:okN (iv0 3) (iv0 1) (iv0 5) 0:=fun j hj=>by omega
 all_goals
  have n2:=flenC_nn (iv0 5)
 all_goals
  (repeat' (with_reducible apply And.intro))<;>first
  | omega
  | assumption
  | (unfold inM;omega)
  | exact trivial
  | (clear hin hF ha;grind)
theorem cPut_o1:cPut_ob 1 cPut_L1:=by
 intro kv iv0 bv0 hin hF iv bv ha hi
 unfold cPut_L1
 refine List.forall_mem_cons.2 ⟨?_,List.forall_mem_cons.2 ⟨?_,List.forall_mem_cons.2 ⟨?_,List.forall_mem_cons.2 ⟨?_,List.forall_mem_cons.2 ⟨?_,List.forall_mem_cons.2 ⟨?_,List.forall_mem_cons.2 ⟨?_,List.forall_mem_cons.2 ⟨?_,List.forall_mem_cons.2 ⟨?_,List.forall_mem_nil _⟩⟩⟩⟩⟩⟩⟩⟩⟩
 all_goals
  intro δ hf
 all_goals
  obtain ⟨b1,b2,b3⟩:=cPut_b hin
 all_goals
  have a0:=ha.1 0 (by omega)
  have a1:=ha.1 1 (by omega)
  have a2:=ha.1 2 (by omega)
  have a3:=ha.1 3 (by omega)
  have a5:=ha.1 5 (by omega)
 all_goals
  simp only [FT,TP,SB.tp,SI.tv,sta,IB.eval,and_true,true_and,ObsT,Ob.Tv,rowT,kix,In.tiv,↓tbvT,In.tbv,get_cons,get_nil,reduceIte,Nat.reduceEqDiff,Int.reduceToNat,Int.reduceAdd,Int.reduceSub,Int.reduceLE,Int.reduceLT,Int.reduceEq,ne_eq,Bool.false_eq_true,not_true_eq_false,not_false_eq_true,true_iff,false_iff,iff_true,iff_false,false_implies,implies_true,decT,decide_true,decide_false,Bool.decide_eq_true,ap2,pb2,FI_3,FI_4,FI_8,FI_9,FI_8c,FI_8z,FI_200,FB_2,Int.toNat_natCast,Int.toNat_zero,FI_21,FI_22,cPut_inv,cPut_mu,cPut,o1,othT,o1,i64b,kP,pkV,flF,i64s,lmap,SI.fl,flay,flayL,wP,pk0,pkAt,mayO,i64b,lO,hO,lenB,fO,bO,plO,plN,ppV,bP,plA,arP,fT,bT,rgT,n1T,toF,plR,arR,bkR,leR,outR,fcR,a0,a1,a2,a3,a5] at hf hi ⊢
 all_goals
  obtain ⟨g0,g1,g2,g3,g4,g5,g6⟩:=hi
 all_goals
  have n2:=flenC_nn (iv0 5)
 all_goals
  have pa:=fun h ho hx=>@putAll (iv0 3) (iv0 1) (iv0 5) (iv 31) (iv0 0) (iv 26) ho (by omega) hx (by omega) h
 all_goals
  have ps:=fun h hm ho hx=>@putSome (iv0 3) (iv0 1) (iv0 5) (iv 31) (iv0 0) (iv 26) ho (by omega) hx (by omega) h hm
 all_goals
  have m0:=@mayAt_eq (iv0 3) (iv0 5) (iv0 1) (iv 31) (iv 32) (by omega) (by omega)
 all_goals
  have os:=fun ho=>@okN_suc (iv0 3) (iv0 1) (iv0 5) (iv 31) ho (by omega)
 all_goals
  have rs:=fun hx=>@putR_suc (iv 26) (iv0 0) (iv0 1) (iv0 5) (iv 31) (iv 32) _ _ _ hx (by omega) (by omega) (by omega) rfl rfl rfl
 all_goals
  have lt:=@mayAt_lt (iv0 3) (iv0 1) (iv0 5) (iv 31).toNat
 all_goals
  try simp only [Int.toNat_zero,Int.zero_add,Int.add_zero] at m0 os rs ps
 all_goals
  unfold mayN at m0
 all_goals
  have pa:=fun h=>pa h g5 g6
 all_goals
  have ps:=fun h hm=>ps h hm g5 g6
 all_goals
  have os:=os g5
 all_goals
  have rs:=rs g6
 all_goals
  have w31:iv 32 < 4096→IntKind.i64.wrap (iv 31+1)=iv 31+1:=fun _=>by rw [wrap_i64];omega
 all_goals
  (repeat' (with_reducible apply And.intro))<;>first
  | omega
  | assumption
  | (unfold inM;omega)
  | exact trivial
  | (clear hin hF ha;grind)
theorem cPut_c:LsCM 2 ((tmM cPut Try.f10 (Try.f10.body.getD .skip))::[cPut_T1]) cPut.os [cPut_L0,cPut_L1]:=by
 unfold cPut_L0 cPut_L1
 exact ⟨List.forall_mem_cons.2 ⟨⟨⟨⟨_,rfl,rfl⟩,by kernel_rfl⟩,by kernel_rfl⟩,List.forall_mem_nil _⟩,List.forall_mem_cons.2 ⟨⟨⟨⟨_,rfl,rfl⟩,by kernel_rfl⟩,by kernel_rfl⟩,List.forall_mem_cons.2 ⟨⟨⟨⟨_,rfl,rfl⟩,by kernel_rfl⟩,by kernel_rfl⟩,List.forall_mem_cons.2 ⟨⟨⟨⟨_,rfl,rfl⟩,by kernel_rfl⟩,by kernel_rfl⟩,List.forall_mem_cons.2 ⟨⟨⟨⟨_,rfl,rfl⟩,by kernel_rfl⟩,by kernel_rfl⟩,List.forall_mem_cons.2 ⟨⟨⟨⟨_,rfl,rfl⟩,by kernel_rfl⟩,by kernel_rfl⟩,List.forall_mem_cons.2 ⟨⟨⟨⟨_,rfl,rfl⟩,by kernel_rfl⟩,by kernel_rfl⟩,List.forall_mem_cons.2 ⟨⟨⟨⟨_,rfl,rfl⟩,by kernel_rfl⟩,by kernel_rfl⟩,List.forall_mem_cons.2 ⟨⟨⟨⟨_,rfl,rfl⟩,by kernel_rfl⟩,by kernel_rfl⟩,List.forall_mem_cons.2 ⟨⟨⟨⟨_,rfl,rfl⟩,by kernel_rfl⟩,by kernel_rfl⟩,List.forall_mem_nil _⟩⟩⟩⟩⟩⟩⟩⟩⟩,trivial⟩
theorem cPut_ok:cPut.Ok Try.prog FI FB:=
 Com.of_plain (body:=Try.f10.body.getD .skip) pok fiok (EntsFor.consH cOwn_ok EntsFor.nil) cPut Try.func10 (by kernel_rfl) 6 [cPut_T1] (by kernel_rfl) [cPut_L0,cPut_L1] ⟨cPut_h0,cPut_h1,trivial⟩ cPut_c
  cPut_inv cPut_mu (fun _ _ _=>trivial) fun kv iv0 bv0 hin hF k l iv bv hk ha hi=>match k,hk,hi with
  | 0,hk,hi=>by
    cases hk
    exact cPut_o0 kv iv0 bv0 hin hF iv bv ha hi
  | 1,hk,hi=>by
    cases hk
    exact cPut_o1 kv iv0 bv0 hin hF iv bv ha hi
  | k+2,hk,_=>by simp at hk
def cPut0_T1:Tm:=⟨⟨10,26,[(15,(.it .i64 (.c 0))),(14,(.it .i64 (.ap 200 (.v 5) (.c 0) (.c 0) (.c 0) (.c 0) (.c 0)))),(13,(.fs 2 (.v 5))),(5,(.fn 24 [(.pt (.n 0) (.c 0))] [])),(12,(.fn 24 [(.pt (.n 0) (.c 0))] [])),(11,(.pt (.n 0) (.c 0))),(9,(.pt (.n 0) (.c 0))),(0,(.pt (.n 0) (.c 0)))],[(.code (atC Try.f10 [1,1,1,0,1,0,0])),(.inLoop (atC Try.f10 [1,1,1,0,1,0,0])),(.inBlock 0),(.code (atC Try.f10 [1,1,1,1]))],[],.none⟩,[],
    ⟨[(0,(.cells [.sn,(.it .i64 (.v 3))] 59))],1,0,0,[],[0],[(3,(1,64))]⟩,[]⟩
def cPut0_T2:Tm:=⟨⟨10,26,[(15,(.it .i64 (.v 35))),(19,(.fn 24 [(.pt (.n 0) (.c 0))] [])),(14,(.it .i64 (.ap 200 (.v 5) (.c 0) (.c 0) (.c 0) (.c 0) (.c 0)))),(13,(.fs 2 (.v 5))),(5,(.fn 24 [(.pt (.n 0) (.c 0))] [])),(12,(.fn 24 [(.pt (.n 0) (.c 0))] [])),(11,(.pt (.n 0) (.c 0))),(9,(.pt (.n 0) (.c 0))),(0,(.pt (.n 0) (.c 0)))],[(.code (atC Try.f10 [1,1,1,0,1,0,0])),(.inLoop (atC Try.f10 [1,1,1,0,1,0,0])),(.inBlock 0),(.code (atC Try.f10 [1,1,1,1]))],[],.none⟩,[],
    ⟨[(0,(.cells [(.sl (.n 12) (.c 0) (.v 27) (.v 28)),(.it .i64 (.v 3))] 59)),(12,(.arr [(.nt .i64),(.nt .i64),(.fs 0)] (.v 26) (.v 27) 29 (.v 28)))],13,0,0,[((.lt (.c 65536) (.ap 200 (.ap 8 (.v 5) (.c 0) (.c 2) (.c 0) (.c 10) (.c 0)) (.c 0) (.c 0) (.c 0) (.c 0) (.c 0))),.false),((.eq (.ap 3 (.v 5) (.c 0) (.c 0) (.c 0) (.c 0) (.c 0)) (.ap 3 (.v 5) (.c 0) (.c 1) (.c 0) (.c 0) (.c 0))),.false),((.le (.v 3) (.ap 3 (.v 5) (.c 0) (.c 1) (.c 0) (.c 0) (.c 0))),.false),((.lt (.ap 3 (.v 5) (.c 0) (.c 1) (.c 0) (.c 0) (.c 0)) (.c 0)),.false),((.le (.v 3) (.ap 3 (.v 5) (.c 0) (.c 0) (.c 0) (.c 0) (.c 0))),.false),((.lt (.ap 3 (.v 5) (.c 0) (.c 0) (.c 0) (.c 0) (.c 0)) (.c 0)),.false),((.lt (.c 0) (.ap 200 (.v 5) (.c 0) (.c 0) (.c 0) (.c 0) (.c 0))),.true),((.le (.v 27) (.v 28)),.true)],[0],[(27,(0,(-1))),(28,(0,(-1))),(3,(1,64)),(35,(1,0))]⟩,[35,28,26,27]⟩
def cPut0_L0:List Lf:=
 [(.cut ([]) 1 ⟨⟨[],[]⟩,[(0,0)],[],[]⟩ [] (shT cPut0_T1 ⟨⟨[],[]⟩,[(0,0)],[],[]⟩))]
def cPut0_L1:List Lf:=
 let x0_:SI:=(.ap 3 (.v 5) (.c 0) (.c 0) (.c 0) (.c 0) (.c 0))
 let x1_:SI:=(.ap 3 (.v 5) (.c 0) (.c 1) (.c 0) (.c 0) (.c 0))
 let x2_:SI:=(.ap 8 (.v 5) (.c 0) (.c 2) (.c 0) (.c 10) (.c 0))
 let x3_:SI:=(.ap 200 (.v 5) (.c 0) (.c 0) (.c 0) (.c 0) (.c 0))
 let x4_:SI:=(.ap 200 x2_ (.c 0) (.c 0) (.c 0) (.c 0) (.c 0))
 let x5_:SI:=(.ap 8 (.ap 8 (.c 0) (.c 0) (.c 0) x0_ (.c 0) (.c 0)) (.c 0) (.c 1) x1_ (.c 0) (.c 0))
 let x6_:SI:=(.ap 8 x5_ (.c 0) (.c 2) x2_ (.c 0) (.c 0))
 let f0_:List (SB×Bool):=[((.lt x0_ (.c 0)),.false),((.lt (.c 0) x3_),.true)]
 let f1_:List (SB×Bool):=((.le (.v 3) x0_),.false)::f0_
 let f2_:List (SB×Bool):=((.lt x1_ (.c 0)),.false)::f1_
 let f3_:List (SB×Bool):=((.le (.v 3) x1_),.false)::f2_
 let f4_:List (SB×Bool):=((.eq x0_ x1_),.false)::f3_
 [(.fin ([((.lt x0_ (.c 0)),.true),((.lt (.c 0) x3_),.true)]) 0 ⟨⟨[],[]⟩,[(0,0)],[],[]⟩ [(.ei (.ap 21 (.v 3) (.c 0) (.v 5) (.c 0) (.c 0) (.c 0)) (.c 2))] [.none]),
  (.fin (((.le (.v 3) x0_),.true)::f0_) 0 ⟨⟨[],[]⟩,[(0,0)],[],[]⟩ [(.ei (.ap 21 (.v 3) (.c 0) (.v 5) (.c 0) (.c 0) (.c 0)) (.c 2))] [.none]),
  (.fin (((.lt x1_ (.c 0)),.true)::f1_) 0 ⟨⟨[],[]⟩,[(0,0)],[],[]⟩ [(.ei (.ap 21 (.v 3) (.c 0) (.v 5) (.c 0) (.c 0) (.c 0)) (.c 2))] [.none]),
  (.fin (((.le (.v 3) x1_),.true)::f2_) 0 ⟨⟨[],[]⟩,[(0,0)],[],[]⟩ [(.ei (.ap 21 (.v 3) (.c 0) (.v 5) (.c 0) (.c 0) (.c 0)) (.c 2))] [.none]),
  (.fin (((.eq x0_ x1_),.true)::f3_) 0 ⟨⟨[],[]⟩,[(0,0)],[],[]⟩ [(.ei (.ap 21 (.v 3) (.c 0) (.v 5) (.c 0) (.c 0) (.c 0)) (.c 2))] [.none]),
  (.fin (((.lt (.c 65536) x4_),.true)::f4_) 0 ⟨⟨[],[]⟩,[(0,0)],[],[]⟩ [(.ei (.ap 21 (.v 3) (.c 0) (.v 5) (.c 0) (.c 0) (.c 0)) (.c 3))] [.none]),
  (let i_:In:=⟨⟨[(26,(.ap 8 x5_ (.c 0) (.c 2) x2_ (.c 0) (.c 0))),(28,(.d 0)),(27,(.c 1)),(35,(.c 1))],[]⟩,[(12,12),(0,0)],[],[]⟩;.cut (((.le (.c 1) (.d 0)),.true)::((.lt (.c 65536) x4_),.false)::f4_) 2 i_ [(.ei (.ap 3 x6_ (.c 0) (.c 0) (.c 0) (.c 0) (.c 0)) (.ap 3 (.v 5) (.c 0) (.c 0) (.c 0) (.c 0) (.c 0))),(.ei (.ap 3 x6_ (.c 0) (.c 1) (.c 0) (.c 0) (.c 0)) (.ap 3 (.v 5) (.c 0) (.c 1) (.c 0) (.c 0) (.c 0))),(.fa (.eq (.ap 200 (.ap 8 x6_ (.c 0) (.c 2) (.c 0) (.c 10) (.c 0)) (.c 0) (.c 0) (.c 0) (.c 0) (.c 0)) x4_) .true),(.ar [(.nt .u8)] (.ap 8 x6_ (.c 0) (.c 2) (.c 0) (.c 10) (.c 0)) (.ap 8 (.v 5) (.c 0) (.c 2) (.c 0) (.c 10) (.c 0)) (.ap 200 x2_ (.c 0) (.c 0) (.c 0) (.c 0) (.c 0))),(.fa (.le (.c 1) (.c 1)) .true),(.fa (.le (.c 1) (.d 0)) .true)] (shT cPut0_T2 i_)),
  (.fin ([((.lt (.c 0) x3_),.false)]) 0 ⟨⟨[],[]⟩,[(0,0)],[],[]⟩ [(.ei (.ap 21 (.v 3) (.c 0) (.v 5) (.c 0) (.c 0) (.c 0)) (.c 0))] [.none])]
def cPut0_L2:List Lf:=
 let x0_:SI:=(.ap 3 (.v 5) (.c 0) (.c 0) (.c 0) (.c 0) (.c 0))
 let x1_:SI:=(.ap 3 (.v 5) (.c 0) (.c 1) (.c 0) (.c 0) (.c 0))
 let x2_:SI:=(.ap 3 (.v 5) (.v 35) (.c 0) (.c 0) (.c 0) (.c 0))
 let x3_:SI:=(.ap 3 (.v 5) (.v 35) (.c 1) (.c 0) (.c 0) (.c 0))
 let x4_:SI:=(.ap 22 (.v 3) (.c 0) (.v 5) (.c 0) (.c 0) (.c 0))
 let x5_:SI:=(.ap 200 (.v 5) (.c 0) (.c 0) (.c 0) (.c 0) (.c 0))
 let x6_:SI:=(.ap 8 (.v 5) (.v 35) (.c 2) (.c 0) (.c 10) (.c 0))
 let x7_:SI:=(.ap 200 x6_ (.c 0) (.c 0) (.c 0) (.c 0) (.c 0))
 let f0_:List (SB×Bool):=[((.lt (.c 65536) (.ap 200 (.ap 8 (.v 5) (.c 0) (.c 2) (.c 0) (.c 10) (.c 0)) (.c 0) (.c 0) (.c 0) (.c 0) (.c 0))),.false),((.eq x0_ x1_),.false),((.le (.v 3) x1_),.false),((.lt x1_ (.c 0)),.false),((.le (.v 3) x0_),.false),((.lt x0_ (.c 0)),.false),((.lt (.c 0) x5_),.true),((.le (.v 27) (.v 28)),.true)]
 let f1_:List (SB×Bool):=((.lt (.v 35) x5_),.true)::f0_
 let f2_:List (SB×Bool):=((.lt x2_ (.c 0)),.false)::f1_
 let f3_:List (SB×Bool):=((.le (.v 3) x2_),.false)::f2_
 let f4_:List (SB×Bool):=((.lt x3_ (.c 0)),.false)::f3_
 let f5_:List (SB×Bool):=((.le (.v 3) x3_),.false)::f4_
 let f6_:List (SB×Bool):=((.eq x2_ x3_),.false)::f5_
 let f7_:List (SB×Bool):=((.lt (.c 65536) x7_),.false)::f6_
 [(.fin (((.lt x2_ (.c 0)),.true)::f1_) 1 ⟨⟨[],[]⟩,[(1,12),(0,0)],[(0,(.v 28))],[]⟩ [(.ei (.ap 21 (.v 3) (.c 0) (.v 5) (.c 0) (.c 0) (.c 0)) (.c 2)),(.ei (.ap 22 (.v 3) (.c 0) (.v 5) (.c 0) (.c 0) (.c 0)) (.v 27)),(.ar [(.nt .i64),(.nt .i64),(.fs 0)] (.ap 9 (.c 0) (.c 0) (.v 5) (.c 0) x4_ (.c 0)) (.v 26) (.ap 22 (.v 3) (.c 0) (.v 5) (.c 0) (.c 0) (.c 0))),(.fa (.le x4_ (.v 27)) .true),(.fa (.le x4_ (.v 28)) .true)] [.none,.none]),
  (.fin (((.le (.v 3) x2_),.true)::f2_) 1 ⟨⟨[],[]⟩,[(1,12),(0,0)],[(0,(.v 28))],[]⟩ [(.ei (.ap 21 (.v 3) (.c 0) (.v 5) (.c 0) (.c 0) (.c 0)) (.c 2)),(.ei (.ap 22 (.v 3) (.c 0) (.v 5) (.c 0) (.c 0) (.c 0)) (.v 27)),(.ar [(.nt .i64),(.nt .i64),(.fs 0)] (.ap 9 (.c 0) (.c 0) (.v 5) (.c 0) x4_ (.c 0)) (.v 26) (.ap 22 (.v 3) (.c 0) (.v 5) (.c 0) (.c 0) (.c 0))),(.fa (.le x4_ (.v 27)) .true),(.fa (.le x4_ (.v 28)) .true)] [.none,.none]),
  (.fin (((.lt x3_ (.c 0)),.true)::f3_) 1 ⟨⟨[],[]⟩,[(1,12),(0,0)],[(0,(.v 28))],[]⟩ [(.ei (.ap 21 (.v 3) (.c 0) (.v 5) (.c 0) (.c 0) (.c 0)) (.c 2)),(.ei (.ap 22 (.v 3) (.c 0) (.v 5) (.c 0) (.c 0) (.c 0)) (.v 27)),(.ar [(.nt .i64),(.nt .i64),(.fs 0)] (.ap 9 (.c 0) (.c 0) (.v 5) (.c 0) x4_ (.c 0)) (.v 26) (.ap 22 (.v 3) (.c 0) (.v 5) (.c 0) (.c 0) (.c 0))),(.fa (.le x4_ (.v 27)) .true),(.fa (.le x4_ (.v 28)) .true)] [.none,.none]),
  (.fin (((.le (.v 3) x3_),.true)::f4_) 1 ⟨⟨[],[]⟩,[(1,12),(0,0)],[(0,(.v 28))],[]⟩ [(.ei (.ap 21 (.v 3) (.c 0) (.v 5) (.c 0) (.c 0) (.c 0)) (.c 2)),(.ei (.ap 22 (.v 3) (.c 0) (.v 5) (.c 0) (.c 0) (.c 0)) (.v 27)),(.ar [(.nt .i64),(.nt .i64),(.fs 0)] (.ap 9 (.c 0) (.c 0) (.v 5) (.c 0) x4_ (.c 0)) (.v 26) (.ap 22 (.v 3) (.c 0) (.v 5) (.c 0) (.c 0) (.c 0))),(.fa (.le x4_ (.v 27)) .true),(.fa (.le x4_ (.v 28)) .true)] [.none,.none]),
  (.fin (((.eq x2_ x3_),.true)::f5_) 1 ⟨⟨[],[]⟩,[(1,12),(0,0)],[(0,(.v 28))],[]⟩ [(.ei (.ap 21 (.v 3) (.c 0) (.v 5) (.c 0) (.c 0) (.c 0)) (.c 2)),(.ei (.ap 22 (.v 3) (.c 0) (.v 5) (.c 0) (.c 0) (.c 0)) (.v 27)),(.ar [(.nt .i64),(.nt .i64),(.fs 0)] (.ap 9 (.c 0) (.c 0) (.v 5) (.c 0) x4_ (.c 0)) (.v 26) (.ap 22 (.v 3) (.c 0) (.v 5) (.c 0) (.c 0) (.c 0))),(.fa (.le x4_ (.v 27)) .true),(.fa (.le x4_ (.v 28)) .true)] [.none,.none]),
  (.fin (((.lt (.c 65536) x7_),.true)::f6_) 1 ⟨⟨[],[]⟩,[(1,12),(0,0)],[(0,(.v 28))],[]⟩ [(.ei (.ap 21 (.v 3) (.c 0) (.v 5) (.c 0) (.c 0) (.c 0)) (.c 3)),(.ei (.ap 22 (.v 3) (.c 0) (.v 5) (.c 0) (.c 0) (.c 0)) (.v 27)),(.ar [(.nt .i64),(.nt .i64),(.fs 0)] (.ap 9 (.c 0) (.c 0) (.v 5) (.c 0) x4_ (.c 0)) (.v 26) (.ap 22 (.v 3) (.c 0) (.v 5) (.c 0) (.c 0) (.c 0))),(.fa (.le x4_ (.v 27)) .true),(.fa (.le x4_ (.v 28)) .true)] [.none,.none]),
  (.fin (((.le (.c 4096) (.v 27)),.true)::f7_) 1 ⟨⟨[],[]⟩,[(1,12),(0,0)],[(0,(.v 28))],[]⟩ [(.ei (.ap 21 (.v 3) (.c 0) (.v 5) (.c 0) (.c 0) (.c 0)) (.c 200)),(.ei (.ap 22 (.v 3) (.c 0) (.v 5) (.c 0) (.c 0) (.c 0)) (.v 27)),(.ar [(.nt .i64),(.nt .i64),(.fs 0)] (.ap 9 (.c 0) (.c 0) (.v 5) (.c 0) x4_ (.c 0)) (.v 26) (.ap 22 (.v 3) (.c 0) (.v 5) (.c 0) (.c 0) (.c 0))),(.fa (.le x4_ (.v 27)) .true),(.fa (.le x4_ (.v 28)) .true)] [.none,.none]),
  (let i_:In:=⟨⟨[(26,(.ap 8 (.ap 8 (.ap 8 (.v 26) (.v 27) (.c 0) x2_ (.c 0) (.c 0)) (.v 27) (.c 1) x3_ (.c 0) (.c 0)) (.v 27) (.c 2) x6_ (.c 0) (.c 0))),(28,(.d 0)),(27,(.op .add (.v 27) (.c 1))),(35,(.wk .i64 (.op .add (.v 35) (.c 1))))],[]⟩,[(12,24),(0,0)],[],[]⟩;.cut (((.le (.op .add (.v 27) (.c 1)) (.d 0)),.true)::((.le (.c 4096) (.v 27)),.false)::f7_) 2 i_ [(.rn (.wk .i64 (.op .add (.v 35) (.c 1))) 1 0)] (shT cPut0_T2 i_)),
  (.fin (((.lt (.v 35) x5_),.false)::f0_) 1 ⟨⟨[],[]⟩,[(1,12),(0,0)],[(0,(.v 28))],[]⟩ [(.ei (.ap 21 (.v 3) (.c 0) (.v 5) (.c 0) (.c 0) (.c 0)) (.c 0)),(.ei (.ap 22 (.v 3) (.c 0) (.v 5) (.c 0) (.c 0) (.c 0)) (.v 27)),(.ar [(.nt .i64),(.nt .i64),(.fs 0)] (.ap 9 (.c 0) (.c 0) (.v 5) (.c 0) x4_ (.c 0)) (.v 26) (.ap 22 (.v 3) (.c 0) (.v 5) (.c 0) (.c 0) (.c 0))),(.fa (.le x4_ (.v 27)) .true),(.fa (.le x4_ (.v 28)) .true)] [.none,.none])]
def cPut0_run (T:Tm):=(ex (ccM Try.prog BF [] cPut0.ow) ((fun cc=>[cOwn.entH cc]) (ccM Try.prog BF [] cPut0.ow)) (dw (ccM Try.prog BF [] cPut0.ow) ((fun cc=>[cOwn.entH cc]) (ccM Try.prog BF [] cPut0.ow)) 1000 4) (stopX [0,1,2,3,4,5,6,7,8,9,11,12,13,14,15,16,17,18,19,20,21,22,23,24,25,26,27,28,29,30,31,32,33,34,35,36,37,38,39,40,41,42,43,44,45,46,47,48,49,50,51,52,53,54,55,56,57,58,59,60,61,62,63,64,65,66,67,68,69,70,71,72,73,74,75,76,77,78,79,80,81,82,83,84,85,86,87,88,89,90,91,92,93,94,95,96,97,98,99,100,101,102,103,104,105,106,107,108,109,110,111,112,113,114,115,116,117,118,119,120,121,122,123,124,125,126,127,128,129,130,131,132,133,134,135,136,137,138,139,140,141,142,143,144,145,146,147,148,149,150,151,152,153,154,155,156,157,158,159,160,161,162,163,164,165,166,167,168,169,170,171,172,173,174,175,176,177,178,179,180,181,182,183,184,185,186,187,188,189,190,191,192,193,194,195,196,197,198,199,200,201,202,203,204,205,206,207,208,209,210,211,212,213,214,215,216,217,218,219,220,221,222,223,224,225,226,227,228,229,230,231,232,233,234,235,236,237,238,239,240,241,242,243,244,245,246,247,248,249]) 20000 T.f T.fs T.H).lfsM 1 (ccM Try.prog BF [] cPut0.ow) ((tmM cPut0 Try.f10 (Try.f10.body.getD .skip))::[cPut0_T1,cPut0_T2]) cPut0.os
theorem cPut0_h0:cPut0_run (tmM cPut0 Try.f10 (Try.f10.body.getD .skip))=some cPut0_L0:=by kernel_rfl
theorem cPut0_h1:cPut0_run cPut0_T1=some cPut0_L1:=by kernel_rfl
theorem cPut0_h2:cPut0_run cPut0_T2=some cPut0_L2:=by kernel_rfl
def cPut0_inv:(Nat→Int)→(Nat→Bool)→Nat→(Nat→Int)→(Nat→Bool)→Prop:=fun iv0 _ k iv _=>match k with | 0=>True | 1=>True | _=>1≤iv 35∧iv 35≤flenC (iv0 5)∧iv 27=iv 35∧iv 27≤iv 28∧iv 27≤4096∧okN (iv0 3) 0 (iv0 5) (iv 35)∧putR (iv 26) 0 0 (iv0 5) (iv 35)
def cPut0_mu:(Nat→Int)→(Nat→Bool)→Nat→(Nat→Int)→(Nat→Bool)→Nat:=fun iv0 _ k iv _=>match k with | 0=>2 ^ 90 | 1=>2 ^ 80 | _=>(5000 - iv 35).toNat
theorem cPut0_b {iv0:Nat→Int} (hin:InB cPut0.B iv0):(1≤iv0 3∧iv0 3≤64):=by
 have b3:=hin 3 1 64 (by simp [cPut0,o1,i64b,kP,pkV,flF,i64s,lmap,SI.fl,flay,flayL,wP,pk0,pkAt,mayO,i64b,lO,hO,lenB,fO,bO,plO,plN,ppV,bP,plA,arP,fT,bT,rgT,n1T,toF,plR,arR,bkR,leR,outR,fcR])
 simp only [Int.reduceLE,reduceIte,Int.reduceNeg] at b3
 exact b3
def cPut0_ob (k:Nat) (l:List Lf):Prop:=∀ (kv:Kv) (iv0:Nat→Int) (bv0:Nat→Bool),InB cPut0.B iv0→FT (sta FI FB kv iv0 bv0) (dlt dyn0) cPut0.F→∀ (iv:Nat→Int) (bv:Nat→Bool),Agr 6 iv0 bv0 iv bv→cPut0_inv iv0 bv0 k iv bv→∀ lf∈l,LfT (sta FI FB kv) cPut0.os (cPut0_inv iv0 bv0) (cPut0_mu iv0 bv0) k iv bv lf
theorem cPut0_o0:cPut0_ob 0 cPut0_L0:=by
 intro kv iv0 bv0 hin hF iv bv ha hi
 unfold cPut0_L0
 refine List.forall_mem_cons.2 ⟨?_,List.forall_mem_nil _⟩
 all_goals
  intro δ hf
 all_goals
  have b3:=cPut0_b hin
 all_goals
  have a3:=ha.1 3 (by omega)
  have a5:=ha.1 5 (by omega)
 all_goals
  simp only [FT,TP,SB.tp,SI.tv,sta,IB.eval,and_true,true_and,ObsT,Ob.Tv,rowT,kix,In.tiv,↓tbvT,In.tbv,get_cons,get_nil,reduceIte,Nat.reduceEqDiff,Int.reduceToNat,Int.reduceAdd,Int.reduceSub,Int.reduceLE,Int.reduceLT,Int.reduceEq,ne_eq,Bool.false_eq_true,not_true_eq_false,not_false_eq_true,true_iff,false_iff,iff_true,iff_false,false_implies,implies_true,decT,decide_true,decide_false,Bool.decide_eq_true,ap2,pb2,FI_3,FI_4,FI_8,FI_9,FI_8c,FI_8z,FI_200,FB_2,Int.toNat_natCast,Int.toNat_zero,FI_21,FI_22,cPut0_inv,cPut0_mu,cPut0,o1,othT,o1,i64b,kP,pkV,flF,i64s,lmap,SI.fl,flay,flayL,wP,pk0,pkAt,mayO,i64b,lO,hO,lenB,fO,bO,plO,plN,ppV,bP,plA,arP,fT,bT,rgT,n1T,toF,plR,arR,bkR,leR,outR,fcR,a3,a5] at hf hi ⊢
 all_goals
  (repeat' (with_reducible apply And.intro))<;>first
  | omega
  | assumption
  | (unfold inM;omega)
  | exact trivial
  | (clear hin hF ha;grind)
theorem cPut0_o1:cPut0_ob 1 cPut0_L1:=by
 intro kv iv0 bv0 hin hF iv bv ha hi
 unfold cPut0_L1
 refine List.forall_mem_cons.2 ⟨?_,List.forall_mem_cons.2 ⟨?_,List.forall_mem_cons.2 ⟨?_,List.forall_mem_cons.2 ⟨?_,List.forall_mem_cons.2 ⟨?_,List.forall_mem_cons.2 ⟨?_,List.forall_mem_cons.2 ⟨?_,List.forall_mem_cons.2 ⟨?_,List.forall_mem_nil _⟩⟩⟩⟩⟩⟩⟩⟩
 all_goals
  intro δ hf
 all_goals
  have b3:=cPut0_b hin
 all_goals
  have a3:=ha.1 3 (by omega)
  have a5:=ha.1 5 (by omega)
 all_goals
  simp only [FT,TP,SB.tp,SI.tv,sta,IB.eval,and_true,true_and,ObsT,Ob.Tv,rowT,kix,In.tiv,↓tbvT,In.tbv,get_cons,get_nil,reduceIte,Nat.reduceEqDiff,Int.reduceToNat,Int.reduceAdd,Int.reduceSub,Int.reduceLE,Int.reduceLT,Int.reduceEq,ne_eq,Bool.false_eq_true,not_true_eq_false,not_false_eq_true,true_iff,false_iff,iff_true,iff_false,false_implies,implies_true,decT,decide_true,decide_false,Bool.decide_eq_true,ap2,pb2,FI_3,FI_4,FI_8,FI_9,FI_8c,FI_8z,FI_200,FB_2,Int.toNat_natCast,Int.toNat_zero,FI_21,FI_22,cPut0_inv,cPut0_mu,cPut0,o1,othT,o1,i64b,kP,pkV,flF,i64s,lmap,SI.fl,flay,flayL,wP,pk0,pkAt,mayO,i64b,lO,hO,lenB,fO,bO,plO,plN,ppV,bP,plA,arP,fT,bT,rgT,n1T,toF,plR,arR,bkR,leR,outR,fcR,a3,a5] at hf hi ⊢
 all_goals
  have g6:=putR_zero 0 0 (iv0 5)
 all_goals
  have g5:okN (iv0 3) 0 (iv0 5) 0:=fun j hj=>by omega
 all_goals
  have n2:=flenC_nn (iv0 5)
 all_goals
  have pa:=fun h ho hx=>@putAll (iv0 3) 0 (iv0 5) (0:Int) 0 0 ho (by omega) hx (by omega) h
 all_goals
  have ps:=fun h hm ho hx=>@putSome (iv0 3) 0 (iv0 5) (0:Int) 0 0 ho (by omega) hx (by omega) h hm
 all_goals
  have m0:=@mayAt_eq (iv0 3) (iv0 5) 0 (0:Int) 0 (by omega) (by omega)
 all_goals
  have os:=fun ho=>@okN_suc (iv0 3) 0 (iv0 5) (0:Int) ho (by omega)
 all_goals
  have rs:=fun hx=>@putR_suc 0 0 0 (iv0 5) (0:Int) 0 _ _ _ hx (by omega) (by omega) (by omega) rfl rfl rfl
 all_goals
  have lt:=@mayAt_lt (iv0 3) 0 (iv0 5) (0:Int).toNat
 all_goals
  try simp only [Int.toNat_zero,Int.zero_add,Int.add_zero] at m0 os rs ps
 all_goals
  unfold mayN at m0
 all_goals
  have pa:=fun h=>pa h g5 g6
 all_goals
  have ps:=fun h hm=>ps h hm g5 g6
 all_goals
  have os:=os g5
 all_goals
  have rs:=rs g6
 all_goals
  have r1:=@row_new _ _ (gt (iv0 5) 0 2) (iv0 5) 0 rfl rfl
 all_goals
  (repeat' (with_reducible apply And.intro))<;>first
  | omega
  | assumption
  | (unfold inM;omega)
  | exact trivial
  | (clear hin hF ha;grind)
theorem cPut0_o2:cPut0_ob 2 cPut0_L2:=by
 intro kv iv0 bv0 hin hF iv bv ha hi
 unfold cPut0_L2
 refine List.forall_mem_cons.2 ⟨?_,List.forall_mem_cons.2 ⟨?_,List.forall_mem_cons.2 ⟨?_,List.forall_mem_cons.2 ⟨?_,List.forall_mem_cons.2 ⟨?_,List.forall_mem_cons.2 ⟨?_,List.forall_mem_cons.2 ⟨?_,List.forall_mem_cons.2 ⟨?_,List.forall_mem_cons.2 ⟨?_,List.forall_mem_nil _⟩⟩⟩⟩⟩⟩⟩⟩⟩
 all_goals
  intro δ hf
 all_goals
  have b3:=cPut0_b hin
 all_goals
  have a3:=ha.1 3 (by omega)
  have a5:=ha.1 5 (by omega)
 all_goals
  simp only [FT,TP,SB.tp,SI.tv,sta,IB.eval,and_true,true_and,ObsT,Ob.Tv,rowT,kix,In.tiv,↓tbvT,In.tbv,get_cons,get_nil,reduceIte,Nat.reduceEqDiff,Int.reduceToNat,Int.reduceAdd,Int.reduceSub,Int.reduceLE,Int.reduceLT,Int.reduceEq,ne_eq,Bool.false_eq_true,not_true_eq_false,not_false_eq_true,true_iff,false_iff,iff_true,iff_false,false_implies,implies_true,decT,decide_true,decide_false,Bool.decide_eq_true,ap2,pb2,FI_3,FI_4,FI_8,FI_9,FI_8c,FI_8z,FI_200,FB_2,Int.toNat_natCast,Int.toNat_zero,FI_21,FI_22,cPut0_inv,cPut0_mu,cPut0,o1,othT,o1,i64b,kP,pkV,flF,i64s,lmap,SI.fl,flay,flayL,wP,pk0,pkAt,mayO,i64b,lO,hO,lenB,fO,bO,plO,plN,ppV,bP,plA,arP,fT,bT,rgT,n1T,toF,plR,arR,bkR,leR,outR,fcR,a3,a5] at hf hi ⊢
 all_goals
  obtain ⟨g0,g1,g2,g3,g4,g5,g6⟩:=hi
 all_goals
  have n2:=flenC_nn (iv0 5)
 all_goals
  have pa:=fun h ho hx=>@putAll (iv0 3) 0 (iv0 5) (iv 35) 0 (iv 26) ho (by omega) hx (by omega) h
 all_goals
  have ps:=fun h hm ho hx=>@putSome (iv0 3) 0 (iv0 5) (iv 35) 0 (iv 26) ho (by omega) hx (by omega) h hm
 all_goals
  have m0:=@mayAt_eq (iv0 3) (iv0 5) 0 (iv 35) (iv 27) (by omega) (by omega)
 all_goals
  have os:=fun ho=>@okN_suc (iv0 3) 0 (iv0 5) (iv 35) ho (by omega)
 all_goals
  have rs:=fun hx=>@putR_suc (iv 26) 0 0 (iv0 5) (iv 35) (iv 27) _ _ _ hx (by omega) (by omega) (by omega) rfl rfl rfl
 all_goals
  have lt:=@mayAt_lt (iv0 3) 0 (iv0 5) (iv 35).toNat
 all_goals
  try simp only [Int.toNat_zero,Int.zero_add,Int.add_zero] at m0 os rs ps
 all_goals
  unfold mayN at m0
 all_goals
  have pa:=fun h=>pa h g5 g6
 all_goals
  have ps:=fun h hm=>ps h hm g5 g6
 all_goals
  have os:=os g5
 all_goals
  have rs:=rs g6
 all_goals
  have w35:iv 27 < 4096→IntKind.i64.wrap (iv 35+1)=iv 35+1:=fun _=>by rw [wrap_i64];omega
 all_goals
  (repeat' (with_reducible apply And.intro))<;>first
  | omega
  | assumption
  | (unfold inM;omega)
  | exact trivial
  | (clear hin hF ha;grind)
theorem cPut0_c:LsCM 1 ((tmM cPut0 Try.f10 (Try.f10.body.getD .skip))::[cPut0_T1,cPut0_T2]) cPut0.os [cPut0_L0,cPut0_L1,cPut0_L2]:=by
 unfold cPut0_L0 cPut0_L1 cPut0_L2
 exact ⟨List.forall_mem_cons.2 ⟨⟨⟨⟨_,rfl,rfl⟩,by kernel_rfl⟩,by kernel_rfl⟩,List.forall_mem_nil _⟩,List.forall_mem_cons.2 ⟨⟨⟨⟨_,rfl,rfl⟩,by kernel_rfl⟩,by kernel_rfl⟩,List.forall_mem_cons.2 ⟨⟨⟨⟨_,rfl,rfl⟩,by kernel_rfl⟩,by kernel_rfl⟩,List.forall_mem_cons.2 ⟨⟨⟨⟨_,rfl,rfl⟩,by kernel_rfl⟩,by kernel_rfl⟩,List.forall_mem_cons.2 ⟨⟨⟨⟨_,rfl,rfl⟩,by kernel_rfl⟩,by kernel_rfl⟩,List.forall_mem_cons.2 ⟨⟨⟨⟨_,rfl,rfl⟩,by kernel_rfl⟩,by kernel_rfl⟩,List.forall_mem_cons.2 ⟨⟨⟨⟨_,rfl,rfl⟩,by kernel_rfl⟩,by kernel_rfl⟩,List.forall_mem_cons.2 ⟨⟨⟨⟨_,rfl,rfl⟩,by kernel_rfl⟩,by kernel_rfl⟩,List.forall_mem_cons.2 ⟨⟨⟨⟨_,rfl,rfl⟩,by kernel_rfl⟩,by kernel_rfl⟩,List.forall_mem_nil _⟩⟩⟩⟩⟩⟩⟩⟩,List.forall_mem_cons.2 ⟨⟨⟨⟨_,rfl,rfl⟩,by kernel_rfl⟩,by kernel_rfl⟩,List.forall_mem_cons.2 ⟨⟨⟨⟨_,rfl,rfl⟩,by kernel_rfl⟩,by kernel_rfl⟩,List.forall_mem_cons.2 ⟨⟨⟨⟨_,rfl,rfl⟩,by kernel_rfl⟩,by kernel_rfl⟩,List.forall_mem_cons.2 ⟨⟨⟨⟨_,rfl,rfl⟩,by kernel_rfl⟩,by kernel_rfl⟩,List.forall_mem_cons.2 ⟨⟨⟨⟨_,rfl,rfl⟩,by kernel_rfl⟩,by kernel_rfl⟩,List.forall_mem_cons.2 ⟨⟨⟨⟨_,rfl,rfl⟩,by kernel_rfl⟩,by kernel_rfl⟩,List.forall_mem_cons.2 ⟨⟨⟨⟨_,rfl,rfl⟩,by kernel_rfl⟩,by kernel_rfl⟩,List.forall_mem_cons.2 ⟨⟨⟨⟨_,rfl,rfl⟩,by kernel_rfl⟩,by kernel_rfl⟩,List.forall_mem_cons.2 ⟨⟨⟨⟨_,rfl,rfl⟩,by kernel_rfl⟩,by kernel_rfl⟩,List.forall_mem_nil _⟩⟩⟩⟩⟩⟩⟩⟩⟩,trivial⟩
theorem cPut0_ok:cPut0.Ok Try.prog FI FB:=
 Com.of_plain (body:=Try.f10.body.getD .skip) pok fiok (EntsFor.consH cOwn_ok EntsFor.nil) cPut0 Try.func10 (by kernel_rfl) 6 [cPut0_T1,cPut0_T2] (by kernel_rfl) [cPut0_L0,cPut0_L1,cPut0_L2] ⟨cPut0_h0,cPut0_h1,cPut0_h2,trivial⟩ cPut0_c
  cPut0_inv cPut0_mu (fun _ _ _=>trivial) fun kv iv0 bv0 hin hF k l iv bv hk ha hi=>match k,hk,hi with
  | 0,hk,hi=>by
    cases hk
    exact cPut0_o0 kv iv0 bv0 hin hF iv bv ha hi
  | 1,hk,hi=>by
    cases hk
    exact cPut0_o1 kv iv0 bv0 hin hF iv bv ha hi
  | 2,hk,hi=>by
    cases hk
    exact cPut0_o2 kv iv0 bv0 hin hF iv bv ha hi
  | k+3,hk,_=>by simp at hk
end
end Go.Sx.Pk
