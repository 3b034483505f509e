/- The pool: PoolLong. -/
import Derived.Test.YtbcbpicfnfkdeaaPkW
import Derived.Test.YtbcbpicfnfkdeaaPkO
namespace Go.Sx.Pk
set_option linter.unusedVariables false
set_option linter.unusedSimpArgs false
set_option maxRecDepth 100000
set_option maxHeartbeats 0
noncomputable section
open Go Go.Sx Go.Proofs
def rowZ (c:Int) (j:Nat):Prop:=gt c j 0=0∧gt c j 1=1∧gt c j 2=0
theorem rowZ_set {c n:Int} (h:0≤n) (j:Nat):rowZ (setC (setC (setC c n 0 0) n 1 1) n 2 0) j↔((j:Int)=n∨rowZ c j):=by
 unfold rowZ
 simp only [gt_setI]
 by_cases hj:(j:Int)=n
 ·have:j=n.toNat:=by omega
  subst this
  simp [hj]
 ·have:¬ j=n.toNat:=by omega
  simp [hj,this]
theorem rowZ_fl {c:Int} {j:Nat} (h:rowZ c j):fl c j 0=0∧fl c j 1=1∧flenC (gt c j 2)=0:=by
 obtain ⟨h0,h1,h2⟩:=h
 unfold fl
 rw [h0,h1,h2]
 exact ⟨rfl,rfl,flenC_zero⟩
theorem rowZ_suc {c n:Int} (h:0≤n) (hr:∀ j:Nat,(j:Int) < n→rowZ c j):∀ j:Nat,(j:Int) < n+1→rowZ (setC (setC (setC c n 0 0) n 1 1) n 2 0) j:=fun j hj=>by
 rw [rowZ_set h]
 by_cases e:(j:Int)=n
 ·exact .inl e
 ·exact .inr (hr j (by omega))
theorem rowZ_one:∀ j:Nat,(j:Int) < 1→rowZ (setC (setC (setC 0 0 0 0) 0 1 1) 0 2 0) j:=rowZ_suc (Int.le_refl 0) (fun j hj=>by omega)
def pLong:Con:=⟨3,[0],[.it .i64 (.v 0)],[],[i64b 0],[],o1 (.bo (.c true)),[29]⟩
def pLong_T1:Tm:=⟨⟨3,95,[(6,(.it .i64 (.c 0))),(5,(.pt (.n 1) (.c 0))),(4,(.it .i64 (.c 0))),(3,(.pt (.n 0) (.c 0))),(0,(.it .i64 (.v 0)))],[(.code (atC Try.f3 [1,1,1,1,0,1,0,0])),(.inLoop (atC Try.f3 [1,1,1,1,0,1,0,0])),(.inBlock 0),(.code (atC Try.f3 [1,1,1,1,1]))],[],.none⟩,[],
    ⟨[(0,(.cells [.sn,(.it .i64 (.c 2))] 59)),(1,(.cells [(.it .i64 (.c 0)),(.it .i64 (.c 1)),.sn] 29))],2,0,0,[((.lt (.c 1) (.v 0)),.false),((.lt (.v 0) (.c (-1))),.false)],[0],[(0,((-1),1)),(0,((-1),9223372036854775807)),(0,((-9223372036854775808),9223372036854775807))]⟩,[]⟩
def pLong_T2:Tm:=⟨⟨3,95,[(6,(.it .i64 (.v 24))),(5,(.pt (.n 1) (.c 0))),(4,(.it .i64 (.c 0))),(3,(.pt (.n 0) (.c 0))),(0,(.it .i64 (.v 0)))],[(.code (atC Try.f3 [1,1,1,1,0,1,0,0])),(.inLoop (atC Try.f3 [1,1,1,1,0,1,0,0])),(.inBlock 0),(.code (atC Try.f3 [1,1,1,1,1]))],[],.none⟩,[],
    ⟨[(0,(.cells [(.sl (.n 14) (.c 0) (.v 24) (.v 21)),(.it .i64 (.c 2))] 59)),(1,(.cells [(.it .i64 (.c 0)),(.it .i64 (.c 1)),.sn] 29)),(14,(.arr [(.nt .i64),(.nt .i64),(.fs 0)] (.v 25) (.v 24) 29 (.v 21)))],15,0,0,[((.lt (.c 1) (.v 0)),.false),((.lt (.v 0) (.c (-1))),.false)],[0],[(0,((-1),1)),(24,(1,0))]⟩,[24,25,21]⟩
def pLong_L0:List Lf:=
 [(.fin ([((.lt (.v 0) (.c (-1))),.true)]) 0 ⟨⟨[],[]⟩,[],[],[]⟩ [] []),
  (.fin ([((.lt (.c 1) (.v 0)),.true),((.lt (.v 0) (.c (-1))),.false)]) 0 ⟨⟨[],[]⟩,[],[],[]⟩ [] []),
  (.cut ([((.lt (.c 1) (.v 0)),.false),((.lt (.v 0) (.c (-1))),.false)]) 1 ⟨⟨[],[]⟩,[(0,0),(1,1)],[],[]⟩ [] (shT pLong_T1 ⟨⟨[],[]⟩,[(0,0),(1,1)],[],[]⟩))]
def pLong_L1:List Lf:=
 let x0_:SI:=(.ap 8 (.ap 8 (.c 0) (.c 0) (.c 0) (.c 0) (.c 0) (.c 0)) (.c 0) (.c 1) (.c 1) (.c 0) (.c 0))
 let x1_:SI:=(.ap 8 x0_ (.c 0) (.c 2) (.c 0) (.c 0) (.c 0))
 [(let i_:In:=⟨⟨[(25,(.ap 8 x0_ (.c 0) (.c 2) (.c 0) (.c 0) (.c 0))),(21,(.d 0)),(24,(.c 1))],[]⟩,[(14,14),(0,0),(1,1)],[],[]⟩;.cut ([((.le (.c 1) (.d 0)),.true),((.lt (.c 1) (.v 0)),.false),((.lt (.v 0) (.c (-1))),.false)]) 2 i_ [(.ei (.ap 3 x1_ (.c 0) (.c 0) (.c 0) (.c 0) (.c 0)) (.c 0)),(.ei (.ap 3 x1_ (.c 0) (.c 1) (.c 0) (.c 0) (.c 0)) (.c 1)),(.fa (.eq (.ap 200 (.ap 8 x1_ (.c 0) (.c 2) (.c 0) (.c 10) (.c 0)) (.c 0) (.c 0) (.c 0) (.c 0) (.c 0)) (.ap 200 (.c 0) (.c 0) (.c 0) (.c 0) (.c 0) (.c 0))) .true),(.ar [(.nt .u8)] (.ap 8 x1_ (.c 0) (.c 2) (.c 0) (.c 10) (.c 0)) (.c 0) (.ap 200 (.c 0) (.c 0) (.c 0) (.c 0) (.c 0) (.c 0))),(.fa (.le (.c 1) (.c 1)) .true),(.fa (.le (.c 1) (.d 0)) .true)] (shT pLong_T2 i_))]
def pLong_L2:List Lf:=
 let x0_:SI:=(.ap 3 (.v 25) (.c 0) (.c 0) (.c 0) (.c 0) (.c 0))
 let x1_:SI:=(.ap 3 (.v 25) (.c 0) (.c 1) (.c 0) (.c 0) (.c 0))
 let p2_:SB×Bool:=((.le (.c 4096) (.op .add (.v 24) (.c (-1)))),.true)
 let p3_:SB×Bool:=((.le (.c 4096) (.op .add (.v 24) (.c (-1)))),.false)
 let x4_:SI:=(.ap 200 (.ap 8 (.v 25) (.c 7) (.c 2) (.c 0) (.c 10) (.c 0)) (.c 0) (.c 0) (.c 0) (.c 0) (.c 0))
 let x5_:SI:=(.ap 200 (.ap 8 (.v 25) (.c 0) (.c 2) (.c 0) (.c 10) (.c 0)) (.c 0) (.c 0) (.c 0) (.c 0) (.c 0))
 let f0_:List (SB×Bool):=[((.lt (.c 1) (.v 0)),.false),((.lt (.v 0) (.c (-1))),.false)]
 let f1_:List (SB×Bool):=((.lt (.v 24) (.c 4096)),.false)::f0_
 let f2_:List (SB×Bool):=((.le x4_ (.c 65536)),.true)::f1_
 let f3_:List (SB×Bool):=((.le (.v 24) (.d 0)),.true)::((.le (.v 24) (.c 16777216)),.true)::f2_
 let f4_:List (SB×Bool):=((.le x5_ (.c 65536)),.true)::f3_
 let f5_:List (SB×Bool):=((.lt x0_ (.c 0)),.true)::f4_
 let f6_:List (SB×Bool):=((.lt x0_ (.c 0)),.false)::f4_
 let f7_:List (SB×Bool):=((.le (.c 2) x0_),.true)::f6_
 let f8_:List (SB×Bool):=((.le (.c 2) x0_),.false)::f6_
 let f9_:List (SB×Bool):=((.lt x1_ (.c 0)),.true)::f8_
 let f10_:List (SB×Bool):=((.lt x1_ (.c 0)),.false)::f8_
 let f11_:List (SB×Bool):=((.le (.c 2) x1_),.true)::f10_
 let f12_:List (SB×Bool):=((.le (.c 2) x1_),.false)::f10_
 let f13_:List (SB×Bool):=((.eq x0_ x1_),.true)::f12_
 let f14_:List (SB×Bool):=((.eq x0_ x1_),.false)::f12_
 let f15_:List (SB×Bool):=p3_::f14_
 [(let i_:In:=⟨⟨[(25,(.ap 8 (.ap 8 (.ap 8 (.v 25) (.v 24) (.c 0) (.c 0) (.c 0) (.c 0)) (.v 24) (.c 1) (.c 1) (.c 0) (.c 0)) (.v 24) (.c 2) (.c 0) (.c 0) (.c 0))),(21,(.d 0)),(24,(.op .add (.v 24) (.c 1)))],[]⟩,[(14,27),(0,0),(1,1)],[],[]⟩;.cut (((.le (.op .add (.v 24) (.c 1)) (.d 0)),.true)::((.lt (.v 24) (.c 4096)),.true)::f0_) 2 i_ [] (shT pLong_T2 i_)),
  (.fin (p2_::f5_) 0 ⟨⟨[],[]⟩,[],[],[]⟩ [(.eb (.c .true) (.c .false))] []),
  (.fin (p3_::f5_) 0 ⟨⟨[],[]⟩,[],[],[]⟩ [(.eb (.c .true) (.c .false))] []),
  (.fin (p2_::f7_) 0 ⟨⟨[],[]⟩,[],[],[]⟩ [(.eb (.c .true) (.c .false))] []),
  (.fin (p3_::f7_) 0 ⟨⟨[],[]⟩,[],[],[]⟩ [(.eb (.c .true) (.c .false))] []),
  (.fin (p2_::f9_) 0 ⟨⟨[],[]⟩,[],[],[]⟩ [(.eb (.c .true) (.c .false))] []),
  (.fin (p3_::f9_) 0 ⟨⟨[],[]⟩,[],[],[]⟩ [(.eb (.c .true) (.c .false))] []),
  (.fin (p2_::f11_) 0 ⟨⟨[],[]⟩,[],[],[]⟩ [(.eb (.c .true) (.c .false))] []),
  (.fin (p3_::f11_) 0 ⟨⟨[],[]⟩,[],[],[]⟩ [(.eb (.c .true) (.c .false))] []),
  (.fin (p2_::f13_) 0 ⟨⟨[],[]⟩,[],[],[]⟩ [(.eb (.c .true) (.c .false))] []),
  (.fin (p3_::f13_) 0 ⟨⟨[],[]⟩,[],[],[]⟩ [(.eb (.c .true) (.c .false))] []),
  (.fin (p2_::f14_) 0 ⟨⟨[],[]⟩,[],[],[]⟩ [(.eb (.c .true) (.c .false))] []),
  (.fin (((.lt (.c 65536) (.op .add (.v 0) (.c 65536))),.true)::f15_) 0 ⟨⟨[],[]⟩,[],[],[]⟩ [] []),
  (.fin (((.le (.c 1) (.d 1)),.true)::((.lt (.c 65536) (.op .add (.v 0) (.c 65536))),.false)::f15_) 0 ⟨⟨[],[]⟩,[],[],[]⟩ [] []),
  (.bad (((.le x5_ (.c 65536)),.false)::f3_)),
  (.bad (((.le (.v 24) (.c 16777216)),.false)::f2_)),
  (.bad (((.le x4_ (.c 65536)),.false)::f1_))]
def pLong_run (T:Tm):=(ex (ccOf Try.prog BF [] pLong) ((fun cc=>[pWks.ent cc,cOwn.entH cc]) (ccOf Try.prog BF [] pLong)) (dw (ccOf Try.prog BF [] pLong) ((fun cc=>[pWks.ent cc,cOwn.entH cc]) (ccOf Try.prog BF [] pLong)) 1000 4) (stopX [0,1,2,4,5,6,7,8,9,10,11,12,13,14,15,16,17,18,19,20,21,22,23,24,25,26,27,28,29,30,31,32,33,34,35,36,37,38,39,40,41,42,43,44,45,46,47,48,49,50,51,52,53,54,55,56,57,58,59,60,61,62,63,64,65,66,67,68,69,70,71,72,73,74,75,76,77,78,79,80,81,82,83,84,85,86,87,88,89,90,91,92,93,94,95,96,97,98,99,100,101,102,103,104,105,106,107,108,109,110,111,112,113,114,115,116,117,118,119,120,121,122,123,124,125,126,127,128,129,130,131,132,133,134,135,136,137,138,139,140,141,142,143,144,145,146,147,148,149,150,151,152,153,154,155,156,157,158,159,160,161,162,163,164,165,166,167,168,169,170,171,172,173,174,175,176,177,178,179,180,181,182,183,184,185,186,187,188,189,190,191,192,193,194,195,196,197,198,199,200,201,202,203,204,205,206,207,208,209,210,211,212,213,214,215,216,217,218,219,220,221,222,223,224,225,226,227,228,229,230,231,232,233,234,235,236,237,238,239,240,241,242,243,244,245,246,247,248,249]) 200000 T.f T.fs T.H).lfs (ccOf Try.prog BF [] pLong) ((tm0 pLong Try.f3 (Try.f3.body.getD .skip))::[pLong_T1,pLong_T2]) pLong.os
theorem pLong_h0:pLong_run (tm0 pLong Try.f3 (Try.f3.body.getD .skip))=some pLong_L0:=by kernel_rfl
theorem pLong_h1:pLong_run pLong_T1=some pLong_L1:=by kernel_rfl
theorem pLong_h2:pLong_run pLong_T2=some pLong_L2:=by kernel_rfl
def pLong_inv:(Nat→Int)→(Nat→Bool)→Nat→(Nat→Int)→(Nat→Bool)→Prop:=fun iv0 _ k iv _=>match k with | 0=>True | 1=>True | _=>1≤iv 24∧iv 24≤4096∧iv 24≤iv 21∧∀ j:Nat,(j:Int) < iv 24→rowZ (iv 25) j
def pLong_mu:(Nat→Int)→(Nat→Bool)→Nat→(Nat→Int)→(Nat→Bool)→Nat:=fun iv0 _ k iv _=>match k with | 0=>2 ^ 90 | 1=>2 ^ 80 | _=>(5000 - iv 24).toNat
theorem pLong_b {iv0:Nat→Int} (hin:InB pLong.B iv0):((-9223372036854775808)≤iv0 0∧iv0 0≤9223372036854775807):=by
 have b0:=hin 0 (-9223372036854775808) 9223372036854775807 (by simp [pLong,o1,i64b])
 simp only [Int.reduceLE,reduceIte,Int.reduceNeg] at b0
 exact b0
def pLong_ob (k:Nat) (l:List Lf):Prop:=∀ (kv:Kv) (iv0:Nat→Int) (bv0:Nat→Bool),InB pLong.B iv0→FT (sta FI FB kv iv0 bv0) (dlt dyn0) pLong.F→∀ (iv:Nat→Int) (bv:Nat→Bool),Agr 1 iv0 bv0 iv bv→pLong_inv iv0 bv0 k iv bv→∀ lf∈l,LfT (sta FI FB kv) pLong.os (pLong_inv iv0 bv0) (pLong_mu iv0 bv0) k iv bv lf
theorem pLong_o0:pLong_ob 0 pLong_L0:=by
 intro kv iv0 bv0 hin hF iv bv ha hi
 unfold pLong_L0
 refine List.forall_mem_cons.2 ⟨?_,List.forall_mem_cons.2 ⟨?_,List.forall_mem_cons.2 ⟨?_,List.forall_mem_nil _⟩⟩⟩
 all_goals
  intro δ hf
 all_goals
  have b0:=pLong_b hin
 all_goals
  have a0:=ha.1 0 (by omega)
 all_goals
  simp only [FT,TP,SB.tp,SI.tv,sta,IB.eval,and_true,true_and,ObsT,Ob.Tv,rowT,kix,In.tiv,↓tbvT,In.tbv,get_cons,get_nil,reduceIte,Nat.reduceEqDiff,Int.reduceToNat,Int.reduceAdd,Int.reduceSub,Int.reduceLE,Int.reduceLT,Int.reduceEq,ne_eq,Bool.false_eq_true,not_true_eq_false,not_false_eq_true,true_iff,false_iff,iff_true,iff_false,false_implies,implies_true,decT,decide_true,decide_false,Bool.decide_eq_true,ap2,pb2,FI_3,FI_4,FI_8,FI_9,FI_8c,FI_8z,FI_200,FB_2,Int.toNat_natCast,Int.toNat_zero,pLong_inv,pLong_mu,pLong,o1,othT,o1,i64b,a0] at hf hi ⊢
 all_goals
  (repeat' (with_reducible apply And.intro))<;>first
  | omega
  | assumption
  | (unfold inM;omega)
  | exact trivial
  | (clear hin hF ha;grind)
theorem pLong_o1:pLong_ob 1 pLong_L1:=by
 intro kv iv0 bv0 hin hF iv bv ha hi
 unfold pLong_L1
 refine List.forall_mem_cons.2 ⟨?_,List.forall_mem_nil _⟩
 all_goals
  intro δ hf
 all_goals
  have b0:=pLong_b hin
 all_goals
  have a0:=ha.1 0 (by omega)
 all_goals
  simp only [FT,TP,SB.tp,SI.tv,sta,IB.eval,and_true,true_and,ObsT,Ob.Tv,rowT,kix,In.tiv,↓tbvT,In.tbv,get_cons,get_nil,reduceIte,Nat.reduceEqDiff,Int.reduceToNat,Int.reduceAdd,Int.reduceSub,Int.reduceLE,Int.reduceLT,Int.reduceEq,ne_eq,Bool.false_eq_true,not_true_eq_false,not_false_eq_true,true_iff,false_iff,iff_true,iff_false,false_implies,implies_true,decT,decide_true,decide_false,Bool.decide_eq_true,ap2,pb2,FI_3,FI_4,FI_8,FI_9,FI_8c,FI_8z,FI_200,FB_2,Int.toNat_natCast,Int.toNat_zero,pLong_inv,pLong_mu,pLong,o1,othT,o1,i64b,a0] at hf hi ⊢
 all_goals
  have r0:=rowZ_fl (rowZ_one 0 (by decide))
 all_goals
  (repeat' (with_reducible apply And.intro))<;>first
  | omega
  | assumption
  | (unfold inM;omega)
  | exact trivial
  | exact rowZ_one
  | exact r0.1
  | exact r0.2.1
  | exact r0.2.2.trans flenC_zero.symm
  | (intro j hj;rw [flenC_zero] at hj;omega)
  | (clear hin hF ha;grind)
theorem pLong_o2:pLong_ob 2 pLong_L2:=by
 intro kv iv0 bv0 hin hF iv bv ha hi
 unfold pLong_L2
 refine List.forall_mem_cons.2 ⟨?_,List.forall_mem_cons.2 ⟨?_,List.forall_mem_cons.2 ⟨?_,List.forall_mem_cons.2 ⟨?_,List.forall_mem_cons.2 ⟨?_,List.forall_mem_cons.2 ⟨?_,List.forall_mem_cons.2 ⟨?_,List.forall_mem_cons.2 ⟨?_,List.forall_mem_cons.2 ⟨?_,List.forall_mem_cons.2 ⟨?_,List.forall_mem_cons.2 ⟨?_,List.forall_mem_cons.2 ⟨?_,List.forall_mem_cons.2 ⟨?_,List.forall_mem_cons.2 ⟨?_,List.forall_mem_cons.2 ⟨?_,List.forall_mem_cons.2 ⟨?_,List.forall_mem_cons.2 ⟨?_,List.forall_mem_nil _⟩⟩⟩⟩⟩⟩⟩⟩⟩⟩⟩⟩⟩⟩⟩⟩⟩
 all_goals
  intro δ hf
 all_goals
  have b0:=pLong_b hin
 all_goals
  have a0:=ha.1 0 (by omega)
 all_goals
  simp only [FT,TP,SB.tp,SI.tv,sta,IB.eval,and_true,true_and,ObsT,Ob.Tv,rowT,kix,In.tiv,↓tbvT,In.tbv,get_cons,get_nil,reduceIte,Nat.reduceEqDiff,Int.reduceToNat,Int.reduceAdd,Int.reduceSub,Int.reduceLE,Int.reduceLT,Int.reduceEq,ne_eq,Bool.false_eq_true,not_true_eq_false,not_false_eq_true,true_iff,false_iff,iff_true,iff_false,false_implies,implies_true,decT,decide_true,decide_false,Bool.decide_eq_true,ap2,pb2,FI_3,FI_4,FI_8,FI_9,FI_8c,FI_8z,FI_200,FB_2,Int.toNat_natCast,Int.toNat_zero,pLong_inv,pLong_mu,pLong,o1,othT,o1,i64b,a0] at hf hi ⊢
 all_goals
  obtain ⟨g0,g1,g2,g3⟩:=hi
 all_goals
  have e0:=fun h=>rowZ_fl (g3 0 h)
 all_goals
  have e7:=fun h=>rowZ_fl (g3 7 h)
 all_goals
  (repeat' (with_reducible apply And.intro))<;>first
  | omega
  | assumption
  | (unfold inM;omega)
  | exact trivial
  | exact rowZ_suc (by omega) g3
  | (clear hin hF ha;grind)
theorem pLong_c:LsC ((tm0 pLong Try.f3 (Try.f3.body.getD .skip))::[pLong_T1,pLong_T2]) pLong.os [pLong_L0,pLong_L1,pLong_L2]:=by
 unfold pLong_L0 pLong_L1 pLong_L2
 exact ⟨List.forall_mem_cons.2 ⟨⟨⟨_,rfl,rfl⟩,by kernel_rfl⟩,List.forall_mem_cons.2 ⟨⟨⟨_,rfl,rfl⟩,by kernel_rfl⟩,List.forall_mem_cons.2 ⟨⟨⟨_,rfl,rfl⟩,by kernel_rfl⟩,List.forall_mem_nil _⟩⟩⟩,List.forall_mem_cons.2 ⟨⟨⟨_,rfl,rfl⟩,by kernel_rfl⟩,List.forall_mem_nil _⟩,List.forall_mem_cons.2 ⟨⟨⟨_,rfl,rfl⟩,by kernel_rfl⟩,List.forall_mem_cons.2 ⟨⟨⟨_,rfl,rfl⟩,by kernel_rfl⟩,List.forall_mem_cons.2 ⟨⟨⟨_,rfl,rfl⟩,by kernel_rfl⟩,List.forall_mem_cons.2 ⟨⟨⟨_,rfl,rfl⟩,by kernel_rfl⟩,List.forall_mem_cons.2 ⟨⟨⟨_,rfl,rfl⟩,by kernel_rfl⟩,List.forall_mem_cons.2 ⟨⟨⟨_,rfl,rfl⟩,by kernel_rfl⟩,List.forall_mem_cons.2 ⟨⟨⟨_,rfl,rfl⟩,by kernel_rfl⟩,List.forall_mem_cons.2 ⟨⟨⟨_,rfl,rfl⟩,by kernel_rfl⟩,List.forall_mem_cons.2 ⟨⟨⟨_,rfl,rfl⟩,by kernel_rfl⟩,List.forall_mem_cons.2 ⟨⟨⟨_,rfl,rfl⟩,by kernel_rfl⟩,List.forall_mem_cons.2 ⟨⟨⟨_,rfl,rfl⟩,by kernel_rfl⟩,List.forall_mem_cons.2 ⟨⟨⟨_,rfl,rfl⟩,by kernel_rfl⟩,List.forall_mem_cons.2 ⟨⟨⟨_,rfl,rfl⟩,by kernel_rfl⟩,List.forall_mem_cons.2 ⟨⟨⟨_,rfl,rfl⟩,by kernel_rfl⟩,List.forall_mem_cons.2 ⟨trivial,List.forall_mem_cons.2 ⟨trivial,List.forall_mem_cons.2 ⟨trivial,List.forall_mem_nil _⟩⟩⟩⟩⟩⟩⟩⟩⟩⟩⟩⟩⟩⟩⟩⟩⟩,trivial⟩
theorem pLong_ok:pLong.Ok Try.prog FI FB:=
 Con.of_plain (body:=Try.f3.body.getD .skip) pok fiok (EntsFor.cons pWks_ok (EntsFor.consH cOwn_ok EntsFor.nil)) pLong Try.func3 (by kernel_rfl) 1 [pLong_T1,pLong_T2] (by kernel_rfl) [pLong_L0,pLong_L1,pLong_L2] ⟨pLong_h0,pLong_h1,pLong_h2,trivial⟩ pLong_c
  pLong_inv pLong_mu (fun _ _ _=>trivial) fun kv iv0 bv0 hin hF k l iv bv hk ha hi=>match k,hk,hi with
  | 0,hk,hi=>by
    cases hk
    exact pLong_o0 kv iv0 bv0 hin hF iv bv ha hi
  | 1,hk,hi=>by
    cases hk
    exact pLong_o1 kv iv0 bv0 hin hF iv bv ha hi
  | 2,hk,hi=>by
    cases hk
    exact pLong_o2 kv iv0 bv0 hin hF iv bv ha hi
  | k+3,hk,_=>by simp at hk
end
end Go.Sx.Pk
