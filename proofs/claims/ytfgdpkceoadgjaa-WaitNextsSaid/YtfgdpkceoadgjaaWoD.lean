/- WaitNexts: the law by contract. -/
import Derived.Test.YtfgdpkceoadgjaaWoN
import Derived.Test.YtfgdpkceoadgjaaWaF
import Derived.Test.YtfgdpkceoadgjaaWaW
namespace Go.Sx.Mhw
set_option linter.unusedVariables false
set_option linter.unusedSimpArgs false
set_option maxRecDepth 100000
set_option maxHeartbeats 0
noncomputable section
open Go Go.Sx Go.Proofs
def bLH:List (Nat×Int×Int):=i64b 4::[(1,0,9223372036854775807),(2,0,-1),(5,0,9223372036854775807),(6,0,-1)]
def bL1o:List (Nat×Int×Int):=i64b 4::[(1,0,9223372036854775807),(2,0,-1)]
def bL5:List (Nat×Int×Int):=i64b 4::[(5,0,9223372036854775807),(6,0,-1)]
def gH1:List Gv:=[⟨1,.v 6,[.nt .i64],8,.v 5⟩]
def fH1:List (SB×Bool):=[(.le (.v 5) (.v 7),true),(.le (.c 0) (.v 7),true)]
def lNexts:Con:=⟨14,[0,1,2,3,4,5,6,7,8],[lW,.it .i64 (.v 4),lH],gH,bLH,fH,o1 (.bo (.c true))⟩
def lNextsA:Con:=⟨14,[0,1,2,3,4],[lW,.it .i64 (.v 4),.sn],gW,bL1o,fM,o1 (.bo (.c true))⟩
def lNextsB:Con:=⟨14,[4,5,6,7,8],[.sn,.it .i64 (.v 4),lH],gH1,bL5,fH1,o1 (.bo (.c true))⟩
def lNextsC:Con:=⟨14,[4],[.sn,.it .i64 (.v 4),.sn],[],[i64b 4],[],o1 (.bo (.c true))⟩
theorem rowL_congr {g g':Nat→Int} {j:Nat}:∀ {F:Nat},(∀ f,f < F→g f=g' f)→rowL F g j=rowL F g' j
 | 0,_=>rfl
 | F+1,h=>by
   unfold rowL
   rw [List.range_succ,List.map_append,List.map_append]
   congr 1
   ·exact rowL_congr (F:=F) fun f hf=>h f (by omega)
   ·simp [h F (by omega)]
theorem arrC_congr {n F:Nat} {g g':Nat→Nat→Int} (h:∀ j,j < n→∀ f,f < F→g j f=g' j f):arrC n F g=arrC n F g':=by
 unfold arrC
 refine congrArg (fun l=>((encL l:Nat):Int)) ?_
 have:∀ l:List Nat,(∀ j∈l,j < n)→l.flatMap (fun j=>rowL F (g j) j)=l.flatMap (fun j=>rowL F (g' j) j):=by
  intro l
  induction l with
  | nil=>intro _;rfl
  | cons j l ih=>
    intro hl
    rw [List.flatMap_cons,List.flatMap_cons,ih fun j hj=>hl j (List.mem_cons_of_mem _ hj),rowL_congr fun f hf=>h j (hl j (List.mem_cons_self ..)) f hf]
 exact this _ fun j hj=>List.mem_range.1 hj
def agrO (c d n:Int):Prop:=∀ j:Nat,(j:Int) < n→∀ f:Nat,f < 5→fl c j f=fl d j f
theorem agrO_lent (c n:Int):agrO (lentW c n) c n:=fun j hj f hf=>by rw [fl_lentW (by omega) hf,if_pos hj]
theorem agrO.symm {c d n:Int} (h:agrO c d n):agrO d c n:=fun j hj f hf=>(h j hj f hf).symm
theorem agrO_rgt1 {c d n:Int} (h:agrO c d n) (hc:rgtW d n):rgtW c n:=
 ⟨hc.1,fun i hi=>by
  have e:=h i hi
  rw [e 0 (by omega),e 1 (by omega),e 2 (by omega),e 3 (by omega),e 4 (by omega)]
  exact ⟨(hc.2 i hi).1,fun j hj=>by rw [h j (by omega) 0 (by omega)];exact (hc.2 i hi).2 j hj⟩⟩
theorem agrO_rgt {c d n:Int} (h:agrO c d n):rgtW c n↔rgtW d n:=⟨agrO_rgt1 h.symm,agrO_rgt1 h⟩
theorem agrO_und {c d n:Int} (h:agrO c d n):undC c n=undC d n:=arrC_congr fun j hj f hf=>by
 by_cases e:f=5
 ·rw [if_pos e,if_pos e]
 ·rw [if_neg e,if_neg e];exact h j (by omega) f (by omega)
theorem agrO_may {c d n lim hc m x:Int} (h:agrO c d n) (h0:0≤x) (hx:x < n) (hm:mayN c lim hc m x):mayN d lim hc m x:=by
 have e:=fun f hf=>h x.toNat (by omega) f hf
 refine ⟨fun i hi=>by rw [← e 2 (by omega)];exact hm.1 i hi,fun i hi hl=>?_⟩
 rw [← e 2 (by omega),← h i (by omega) 2 (by omega)]
 exact hm.2 i hi (by rw [h i (by omega) 4 (by omega)];exact hl)
theorem agrO_nxt {c d n lim hc m:Int} (h:agrO c d n):nxtW c n lim hc m=nxtW d n lim hc m:=by
 unfold nxtW
 have e1:srtW c n lim=srtW d n lim:=by unfold srtW srtA;rw [agrO_und h]
 by_cases hr:rgtW c n
 ·have hn:=hr.1
  have e2:nxtK c n lim hc m=nxtK d n lim hc m:=by
   rw [nxtK_eq (by omega),nxtK_eq (by omega),e1]
   refine fstI_congr fun j hj=>?_
   obtain ⟨a1,a2,_⟩:=srt_at (c:=d) (n:=n) (lim:=lim) (by omega) hj
   exact ⟨agrO_may h a1 a2,agrO_may h.symm a1 a2⟩
  rw [e1,e2]
  have e3:(rgtW c n∧(0≤lim∧lim≤64)∧allM hc m)=(rgtW d n∧(0≤lim∧lim≤64)∧allM hc m):=by rw [agrO_rgt h]
  simp only [agrO_rgt h]
 ·have hr':¬ rgtW d n:=fun h'=>hr ((agrO_rgt h).2 h')
  rw [if_neg fun hh=>hr hh.1,if_neg fun hh=>hr' hh.1]
theorem lent_nxt (c n lim hc m:Int):nxtW (lentW c n) n lim hc m=nxtW c n lim hc m:=agrO_nxt (agrO_lent c n)
theorem nxt_n0 (c lim hc m:Int):nxtW c 0 lim hc m=-1:=by
 have h1:¬ 0≤nxtW c 0 lim hc m:=nxt_none (.inr (.inr (.inr (.inr fun j hj=>by omega))))
 have:=(nxtW_in c 0 lim hc m).1
 omega
def lNexts_L0:List Lf:=
 let x0_:SI:=(.ap 32 (.v 0) (.v 1) (.c 0) (.c 0) (.c 0) (.c 0))
 let x1_:SI:=(.ap 62 (.v 0) (.v 1) (.v 4) (.v 8) (.v 5) (.c 0))
 let p2_:SB×Bool:=((.ap 30 (.v 0) (.v 1) (.c 0) (.c 0) (.c 0) (.c 0)),.true)
 let x3_:SI:=(.ap 62 x0_ (.v 1) (.v 4) (.v 8) (.v 5) (.c 0))
 let f0_:List (SB×Bool):=[((.le (.v 1) (.v 3)),.true),((.le (.c 0) (.v 3)),.true),((.le (.v 5) (.v 7)),.true),((.le (.c 0) (.v 7)),.true)]
 let f1_:List (SB×Bool):=((.le (.v 1) (.c 300)),.true)::f0_
 let f2_:List (SB×Bool):=((.le (.op .add (.v 1) (.c 1)) (.d 0)),.true)::((.lt (.c 20) (.v 5)),.false)::f1_
 let f3_:List (SB×Bool):=((.le (.c 0) x3_),.false)::f2_
 let f4_:List (SB×Bool):=((.lt x3_ (.v 1)),.true)::((.ap 30 x0_ (.v 1) (.c 0) (.c 0) (.c 0) (.c 0)),.true)::((.le (.c 0) x3_),.true)::f2_
 let f5_:List (SB×Bool):=((.le (.c 0) x1_),.false)::f4_
 let f6_:List (SB×Bool):=((.lt x1_ (.v 1)),.true)::p2_::((.le (.c 0) x1_),.true)::f3_
 let f7_:List (SB×Bool):=((.lt x1_ (.v 1)),.true)::p2_::((.le (.c 0) x1_),.true)::f4_
 [(.fin (((.lt (.c 20) (.v 5)),.true)::f1_) 0 ⟨⟨[],[]⟩,[],[],[]⟩ [] []),
  (.fin (((.eq x3_ x1_),.true)::f7_) 0 ⟨⟨[],[]⟩,[],[],[]⟩ [] []),
  (.fin (((.eq x3_ x1_),.false)::f7_) 0 ⟨⟨[],[]⟩,[],[],[]⟩ [(.eb (.c .true) (.c .false))] []),
  (.fin (((.eq x3_ (.c 0)),.true)::f5_) 0 ⟨⟨[],[]⟩,[],[],[]⟩ [(.eb (.c .true) (.c .false))] []),
  (.fin (((.eq x3_ (.c 0)),.false)::f5_) 0 ⟨⟨[],[]⟩,[],[],[]⟩ [(.eb (.c .true) (.c .false))] []),
  (.fin (((.eq (.c 0) x1_),.true)::f6_) 0 ⟨⟨[],[]⟩,[],[],[]⟩ [(.eb (.c .true) (.c .false))] []),
  (.fin (((.eq (.c 0) x1_),.false)::f6_) 0 ⟨⟨[],[]⟩,[],[],[]⟩ [(.eb (.c .true) (.c .false))] []),
  (.fin (((.le (.c 0) x1_),.false)::f3_) 0 ⟨⟨[],[]⟩,[],[],[]⟩ [] []),
  (.fin (((.le (.v 1) (.c 300)),.false)::f0_) 0 ⟨⟨[],[]⟩,[],[],[]⟩ [] [])]
def lNexts_run (T:Tm):=(ex (ccOf Try.prog BF [58,84] lNexts) ((fun cc=>[wLent.ent cc,qNxt.ent cc,wNxt.ent cc,qNxt0.ent cc,wNxt0.ent cc,cWorksW.ent cc]) (ccOf Try.prog BF [58,84] lNexts)) (dw (ccOf Try.prog BF [58,84] lNexts) ((fun cc=>[wLent.ent cc,qNxt.ent cc,wNxt.ent cc,qNxt0.ent cc,wNxt0.ent cc,cWorksW.ent cc]) (ccOf Try.prog BF [58,84] lNexts)) 1000 4) (stopX []) 4000 T.f T.fs T.H).lfs (ccOf Try.prog BF [58,84] lNexts) ((tm0 lNexts Try.f14 (Try.f14.body.getD .skip))::[]) lNexts.os
theorem lNexts_h0:lNexts_run (tm0 lNexts Try.f14 (Try.f14.body.getD .skip))=some lNexts_L0:=by kernel_rfl
def lNexts_inv:(Nat→Int)→(Nat→Bool)→Nat→(Nat→Int)→(Nat→Bool)→Prop:=fun _ _ _ _ _=>True
def lNexts_mu:(Nat→Int)→(Nat→Bool)→Nat→(Nat→Int)→(Nat→Bool)→Nat:=fun _ _ _ _ _=>0
theorem lNexts_b {iv0:Nat→Int} (hin:InB lNexts.B iv0):(0≤iv0 1∧iv0 1≤9223372036854775807)∧(0≤iv0 5∧iv0 5≤9223372036854775807)∧((-9223372036854775808)≤iv0 4∧iv0 4≤9223372036854775807):=by
 have b1:=hin 1 0 9223372036854775807 (by simp [lNexts,bW,gW,fM,lW,ap3,pb3,pb4,ints,mayV,i64s,i64b,kW,two,b2,lmap,lapp,bFo,cap64,fnO,ap60,ap61,oNo,oOrd,kU,lH,gH,bH,fH,nxtH,nxt0,oNxt,bLH,bL1o,bL5,gH1,fH1])
 simp only [Int.reduceLE,reduceIte,Int.reduceNeg] at b1
 have b5:=hin 5 0 9223372036854775807 (by simp [lNexts,bW,gW,fM,lW,ap3,pb3,pb4,ints,mayV,i64s,i64b,kW,two,b2,lmap,lapp,bFo,cap64,fnO,ap60,ap61,oNo,oOrd,kU,lH,gH,bH,fH,nxtH,nxt0,oNxt,bLH,bL1o,bL5,gH1,fH1])
 simp only [Int.reduceLE,reduceIte,Int.reduceNeg] at b5
 have b4:=hin 4 (-9223372036854775808) 9223372036854775807 (by simp [lNexts,bW,gW,fM,lW,ap3,pb3,pb4,ints,mayV,i64s,i64b,kW,two,b2,lmap,lapp,bFo,cap64,fnO,ap60,ap61,oNo,oOrd,kU,lH,gH,bH,fH,nxtH,nxt0,oNxt,bLH,bL1o,bL5,gH1,fH1])
 simp only [Int.reduceLE,reduceIte,Int.reduceNeg] at b4
 exact ⟨b1,b5,b4⟩
def lNexts_ob (k:Nat) (l:List Lf):Prop:=∀ (kv:Kv) (iv0:Nat→Int) (bv0:Nat→Bool),InB lNexts.B iv0→FT (sta FI FB kv iv0 bv0) (dlt dyn0) lNexts.F→∀ (iv:Nat→Int) (bv:Nat→Bool),Agr 9 iv0 bv0 iv bv→lNexts_inv iv0 bv0 k iv bv→∀ lf∈l,LfT (sta FI FB kv) lNexts.os (lNexts_inv iv0 bv0) (lNexts_mu iv0 bv0) k iv bv lf
theorem lNexts_o0:lNexts_ob 0 lNexts_L0:=by
 intro kv iv0 bv0 hin hF iv bv ha hi
 unfold lNexts_L0
 refine List.forall_mem_cons.2 ⟨?_,List.forall_mem_cons.2 ⟨?_,List.forall_mem_cons.2 ⟨?_,List.forall_mem_cons.2 ⟨?_,List.forall_mem_cons.2 ⟨?_,List.forall_mem_cons.2 ⟨?_,List.forall_mem_cons.2 ⟨?_,List.forall_mem_cons.2 ⟨?_,List.forall_mem_cons.2 ⟨?_,List.forall_mem_nil _⟩⟩⟩⟩⟩⟩⟩⟩⟩
 all_goals
  intro δ hf
 all_goals
  obtain ⟨b1,b5,b4⟩:=lNexts_b hin
 all_goals
  have a0:=ha.1 0 (by omega)
  have a1:=ha.1 1 (by omega)
  have a2:=ha.1 2 (by omega)
  have a3:=ha.1 3 (by omega)
  have a4:=ha.1 4 (by omega)
  have a5:=ha.1 5 (by omega)
  have a6:=ha.1 6 (by omega)
  have a7:=ha.1 7 (by omega)
  have a8:=ha.1 8 (by omega)
 all_goals
  simp only [FT,TP,SB.tp,SI.tv,sta,IB.eval,and_true,true_and,ObsT,Ob.Tv,rowT,kix,In.tiv,↓tbvT,In.tbv,get_cons,get_nil,reduceIte,Nat.reduceEqDiff,Int.reduceToNat,Int.reduceAdd,Int.reduceSub,Int.reduceLE,Int.reduceLT,Int.reduceEq,ne_eq,Bool.false_eq_true,not_true_eq_false,not_false_eq_true,true_iff,false_iff,iff_true,iff_false,false_implies,implies_true,decT,decide_true,decide_false,Bool.decide_eq_true,ap2,pb2,FI_3,FI_8,FI_9,FB_14,FI_30,FI_32,FB_30,FB_32,FI_3g,FI_8m,Int.toNat_natCast,Int.toNat_zero,FI_62,lNexts_inv,lNexts_mu,lNexts,o1,othT,bW,gW,fM,lW,ap3,pb3,pb4,ints,mayV,i64s,i64b,kW,two,b2,lmap,lapp,bFo,cap64,fnO,ap60,ap61,oNo,oOrd,kU,lH,gH,bH,fH,nxtH,nxt0,oNxt,bLH,bL1o,bL5,gH1,fH1,a0,a1,a2,a3,a4,a5,a6,a7,a8] at hf hi ⊢
 all_goals
  try simp only [lent_nxt,nxt_n0] at hf hi ⊢
 all_goals
  (repeat' (with_reducible apply And.intro))<;>first
  | omega
  | assumption
  | (unfold inM;omega)
  | exact trivial
  | (clear hin hF ha;grind)
theorem lNexts_c:LsC ((tm0 lNexts Try.f14 (Try.f14.body.getD .skip))::[]) lNexts.os [lNexts_L0]:=by
 unfold lNexts_L0
 exact ⟨List.forall_mem_cons.2 ⟨⟨⟨_,rfl,rfl⟩,by kernel_rfl⟩,List.forall_mem_cons.2 ⟨⟨⟨_,rfl,rfl⟩,by kernel_rfl⟩,List.forall_mem_cons.2 ⟨⟨⟨_,rfl,rfl⟩,by kernel_rfl⟩,List.forall_mem_cons.2 ⟨⟨⟨_,rfl,rfl⟩,by kernel_rfl⟩,List.forall_mem_cons.2 ⟨⟨⟨_,rfl,rfl⟩,by kernel_rfl⟩,List.forall_mem_cons.2 ⟨⟨⟨_,rfl,rfl⟩,by kernel_rfl⟩,List.forall_mem_cons.2 ⟨⟨⟨_,rfl,rfl⟩,by kernel_rfl⟩,List.forall_mem_cons.2 ⟨⟨⟨_,rfl,rfl⟩,by kernel_rfl⟩,List.forall_mem_cons.2 ⟨⟨⟨_,rfl,rfl⟩,by kernel_rfl⟩,List.forall_mem_nil _⟩⟩⟩⟩⟩⟩⟩⟩⟩,trivial⟩
theorem lNexts_ok:lNexts.Ok Try.prog FI FB:=
 Con.of_plain (body:=Try.f14.body.getD .skip) pok fiok (EntsFor.cons wLent_ok (EntsFor.cons qNxt_ok (EntsFor.cons wNxt_ok (EntsFor.cons qNxt0_ok (EntsFor.cons wNxt0_ok (EntsFor.cons cWorksW_ok EntsFor.nil)))))) lNexts Try.func14 (by kernel_rfl) 9 [] (by kernel_rfl) [lNexts_L0] ⟨lNexts_h0,trivial⟩ lNexts_c
  lNexts_inv lNexts_mu (fun _ _ _=>trivial) fun kv iv0 bv0 hin hF k l iv bv hk ha hi=>match k,hk,hi with
  | 0,hk,hi=>by
    cases hk
    exact lNexts_o0 kv iv0 bv0 hin hF iv bv ha hi
  | k+1,hk,_=>by simp at hk
def lNextsA_L0:List Lf:=
 let x0_:SI:=(.ap 32 (.v 0) (.v 1) (.c 0) (.c 0) (.c 0) (.c 0))
 let x1_:SI:=(.ap 62 (.v 0) (.v 1) (.v 4) (.c 0) (.c 0) (.c 0))
 let p2_:SB×Bool:=((.ap 30 (.v 0) (.v 1) (.c 0) (.c 0) (.c 0) (.c 0)),.true)
 let x3_:SI:=(.ap 62 x0_ (.v 1) (.v 4) (.c 0) (.c 0) (.c 0))
 let f0_:List (SB×Bool):=[((.le (.v 1) (.v 3)),.true),((.le (.c 0) (.v 3)),.true)]
 let f1_:List (SB×Bool):=((.le (.op .add (.v 1) (.c 1)) (.d 0)),.true)::((.le (.v 1) (.c 300)),.true)::f0_
 let f2_:List (SB×Bool):=((.le (.c 0) x3_),.false)::f1_
 let f3_:List (SB×Bool):=((.lt x3_ (.v 1)),.true)::((.ap 30 x0_ (.v 1) (.c 0) (.c 0) (.c 0) (.c 0)),.true)::((.le (.c 0) x3_),.true)::f1_
 let f4_:List (SB×Bool):=((.le (.c 0) x1_),.false)::f3_
 let f5_:List (SB×Bool):=((.lt x1_ (.v 1)),.true)::p2_::((.le (.c 0) x1_),.true)::f2_
 let f6_:List (SB×Bool):=((.lt x1_ (.v 1)),.true)::p2_::((.le (.c 0) x1_),.true)::f3_
 [(.fin (((.eq x3_ x1_),.true)::f6_) 0 ⟨⟨[],[]⟩,[],[],[]⟩ [] []),
  (.fin (((.eq x3_ x1_),.false)::f6_) 0 ⟨⟨[],[]⟩,[],[],[]⟩ [(.eb (.c .true) (.c .false))] []),
  (.fin (((.eq x3_ (.c 0)),.true)::f4_) 0 ⟨⟨[],[]⟩,[],[],[]⟩ [(.eb (.c .true) (.c .false))] []),
  (.fin (((.eq x3_ (.c 0)),.false)::f4_) 0 ⟨⟨[],[]⟩,[],[],[]⟩ [(.eb (.c .true) (.c .false))] []),
  (.fin (((.eq (.c 0) x1_),.true)::f5_) 0 ⟨⟨[],[]⟩,[],[],[]⟩ [(.eb (.c .true) (.c .false))] []),
  (.fin (((.eq (.c 0) x1_),.false)::f5_) 0 ⟨⟨[],[]⟩,[],[],[]⟩ [(.eb (.c .true) (.c .false))] []),
  (.fin (((.le (.c 0) x1_),.false)::f2_) 0 ⟨⟨[],[]⟩,[],[],[]⟩ [] []),
  (.fin (((.le (.v 1) (.c 300)),.false)::f0_) 0 ⟨⟨[],[]⟩,[],[],[]⟩ [] [])]
def lNextsA_run (T:Tm):=(ex (ccOf Try.prog BF [58,84] lNextsA) ((fun cc=>[wLent.ent cc,qNxt.ent cc,wNxt.ent cc,qNxt0.ent cc,wNxt0.ent cc,cWorksW.ent cc]) (ccOf Try.prog BF [58,84] lNextsA)) (dw (ccOf Try.prog BF [58,84] lNextsA) ((fun cc=>[wLent.ent cc,qNxt.ent cc,wNxt.ent cc,qNxt0.ent cc,wNxt0.ent cc,cWorksW.ent cc]) (ccOf Try.prog BF [58,84] lNextsA)) 1000 4) (stopX [135,84,119,14,62,64,68,66,118,60,67]) 4000 T.f T.fs T.H).lfs (ccOf Try.prog BF [58,84] lNextsA) ((tm0 lNextsA Try.f14 (Try.f14.body.getD .skip))::[]) lNextsA.os
theorem lNextsA_h0:lNextsA_run (tm0 lNextsA Try.f14 (Try.f14.body.getD .skip))=some lNextsA_L0:=by kernel_rfl
def lNextsA_inv:(Nat→Int)→(Nat→Bool)→Nat→(Nat→Int)→(Nat→Bool)→Prop:=fun _ _ _ _ _=>True
def lNextsA_mu:(Nat→Int)→(Nat→Bool)→Nat→(Nat→Int)→(Nat→Bool)→Nat:=fun _ _ _ _ _=>0
theorem lNextsA_b {iv0:Nat→Int} (hin:InB lNextsA.B iv0):(0≤iv0 1∧iv0 1≤9223372036854775807)∧((-9223372036854775808)≤iv0 4∧iv0 4≤9223372036854775807):=by
 have b1:=hin 1 0 9223372036854775807 (by simp [lNextsA,bW,gW,fM,lW,ap3,pb3,pb4,ints,mayV,i64s,i64b,kW,two,b2,lmap,lapp,bFo,cap64,fnO,ap60,ap61,oNo,oOrd,kU,lH,gH,bH,fH,nxtH,nxt0,oNxt,bLH,bL1o,bL5,gH1,fH1])
 simp only [Int.reduceLE,reduceIte,Int.reduceNeg] at b1
 have b4:=hin 4 (-9223372036854775808) 9223372036854775807 (by simp [lNextsA,bW,gW,fM,lW,ap3,pb3,pb4,ints,mayV,i64s,i64b,kW,two,b2,lmap,lapp,bFo,cap64,fnO,ap60,ap61,oNo,oOrd,kU,lH,gH,bH,fH,nxtH,nxt0,oNxt,bLH,bL1o,bL5,gH1,fH1])
 simp only [Int.reduceLE,reduceIte,Int.reduceNeg] at b4
 exact ⟨b1,b4⟩
def lNextsA_ob (k:Nat) (l:List Lf):Prop:=∀ (kv:Kv) (iv0:Nat→Int) (bv0:Nat→Bool),InB lNextsA.B iv0→FT (sta FI FB kv iv0 bv0) (dlt dyn0) lNextsA.F→∀ (iv:Nat→Int) (bv:Nat→Bool),Agr 5 iv0 bv0 iv bv→lNextsA_inv iv0 bv0 k iv bv→∀ lf∈l,LfT (sta FI FB kv) lNextsA.os (lNextsA_inv iv0 bv0) (lNextsA_mu iv0 bv0) k iv bv lf
theorem lNextsA_o0:lNextsA_ob 0 lNextsA_L0:=by
 intro kv iv0 bv0 hin hF iv bv ha hi
 unfold lNextsA_L0
 refine List.forall_mem_cons.2 ⟨?_,List.forall_mem_cons.2 ⟨?_,List.forall_mem_cons.2 ⟨?_,List.forall_mem_cons.2 ⟨?_,List.forall_mem_cons.2 ⟨?_,List.forall_mem_cons.2 ⟨?_,List.forall_mem_cons.2 ⟨?_,List.forall_mem_cons.2 ⟨?_,List.forall_mem_nil _⟩⟩⟩⟩⟩⟩⟩⟩
 all_goals
  intro δ hf
 all_goals
  obtain ⟨b1,b4⟩:=lNextsA_b hin
 all_goals
  have a0:=ha.1 0 (by omega)
  have a1:=ha.1 1 (by omega)
  have a2:=ha.1 2 (by omega)
  have a3:=ha.1 3 (by omega)
  have a4:=ha.1 4 (by omega)
 all_goals
  simp only [FT,TP,SB.tp,SI.tv,sta,IB.eval,and_true,true_and,ObsT,Ob.Tv,rowT,kix,In.tiv,↓tbvT,In.tbv,get_cons,get_nil,reduceIte,Nat.reduceEqDiff,Int.reduceToNat,Int.reduceAdd,Int.reduceSub,Int.reduceLE,Int.reduceLT,Int.reduceEq,ne_eq,Bool.false_eq_true,not_true_eq_false,not_false_eq_true,true_iff,false_iff,iff_true,iff_false,false_implies,implies_true,decT,decide_true,decide_false,Bool.decide_eq_true,ap2,pb2,FI_3,FI_8,FI_9,FB_14,FI_30,FI_32,FB_30,FB_32,FI_3g,FI_8m,Int.toNat_natCast,Int.toNat_zero,FI_62,lNextsA_inv,lNextsA_mu,lNextsA,o1,othT,bW,gW,fM,lW,ap3,pb3,pb4,ints,mayV,i64s,i64b,kW,two,b2,lmap,lapp,bFo,cap64,fnO,ap60,ap61,oNo,oOrd,kU,lH,gH,bH,fH,nxtH,nxt0,oNxt,bLH,bL1o,bL5,gH1,fH1,a0,a1,a2,a3,a4] at hf hi ⊢
 all_goals
  try simp only [lent_nxt,nxt_n0] at hf hi ⊢
 all_goals
  (repeat' (with_reducible apply And.intro))<;>first
  | omega
  | assumption
  | (unfold inM;omega)
  | exact trivial
  | (clear hin hF ha;grind)
theorem lNextsA_c:LsC ((tm0 lNextsA Try.f14 (Try.f14.body.getD .skip))::[]) lNextsA.os [lNextsA_L0]:=by
 unfold lNextsA_L0
 exact ⟨List.forall_mem_cons.2 ⟨⟨⟨_,rfl,rfl⟩,by kernel_rfl⟩,List.forall_mem_cons.2 ⟨⟨⟨_,rfl,rfl⟩,by kernel_rfl⟩,List.forall_mem_cons.2 ⟨⟨⟨_,rfl,rfl⟩,by kernel_rfl⟩,List.forall_mem_cons.2 ⟨⟨⟨_,rfl,rfl⟩,by kernel_rfl⟩,List.forall_mem_cons.2 ⟨⟨⟨_,rfl,rfl⟩,by kernel_rfl⟩,List.forall_mem_cons.2 ⟨⟨⟨_,rfl,rfl⟩,by kernel_rfl⟩,List.forall_mem_cons.2 ⟨⟨⟨_,rfl,rfl⟩,by kernel_rfl⟩,List.forall_mem_cons.2 ⟨⟨⟨_,rfl,rfl⟩,by kernel_rfl⟩,List.forall_mem_nil _⟩⟩⟩⟩⟩⟩⟩⟩,trivial⟩
theorem lNextsA_ok:lNextsA.Ok Try.prog FI FB:=
 Con.of_plain (body:=Try.f14.body.getD .skip) pok fiok (EntsFor.cons wLent_ok (EntsFor.cons qNxt_ok (EntsFor.cons wNxt_ok (EntsFor.cons qNxt0_ok (EntsFor.cons wNxt0_ok (EntsFor.cons cWorksW_ok EntsFor.nil)))))) lNextsA Try.func14 (by kernel_rfl) 5 [] (by kernel_rfl) [lNextsA_L0] ⟨lNextsA_h0,trivial⟩ lNextsA_c
  lNextsA_inv lNextsA_mu (fun _ _ _=>trivial) fun kv iv0 bv0 hin hF k l iv bv hk ha hi=>match k,hk,hi with
  | 0,hk,hi=>by
    cases hk
    exact lNextsA_o0 kv iv0 bv0 hin hF iv bv ha hi
  | k+1,hk,_=>by simp at hk
def lNextsB_T1:Tm:=⟨⟨29,16,[(3,(.it .i64 (.v 31))),(0,(.sl (.k 1) (.v 6) (.v 5) (.v 7)))],[(.code (atC Try.f29 [1,0,1,0,0])),(.inLoop (atC Try.f29 [1,0,1,0,0])),(.inBlock 0),(.code (atC Try.f29 [1,1]))],[],.none⟩,[⟨68,44,[(19,(.sl (.k 1) (.v 6) (.v 5) (.v 7))),(18,(.bo (.not (.le (.v 4) (.c 64))))),(0,.sn),(1,(.it .i64 (.v 4))),(2,(.sl (.k 1) (.v 6) (.v 5) (.v 7)))],[(.inRegion (opsC (atC Try.f68 [1,0,0])) [10,11,12]),(.code (atC Try.f68 [1,0,1])),(.code (atC Try.f68 [1,1]))],[],.none⟩,⟨14,46,[(31,(.sl (.k 1) (.v 6) (.v 5) (.v 7))),(30,(.it .i64 (.v 4))),(29,.sn),(8,(.bo (.v 29))),(7,(.it .i64 (.v 30)))],[(.inRegion (opsC (atC Try.f14 [1,1,1,0])) [3,4,5,6,7,8]),(.code (atC Try.f14 [1,1,1,1]))],[],.none⟩],
    ⟨[],0,0,0,[((.le (.v 4) (.c 64)),.true),((.le (.c 0) (.v 4)),.true),((.lt (.c 20) (.v 5)),.false),((.le (.v 5) (.v 7)),.true),((.le (.c 0) (.v 7)),.true)],[1,0],[(30,((-9223372036854775808),9223372036854775807)),(4,(0,64)),(5,(0,20)),(6,(0,(-1))),(31,(0,(-1)))]⟩,[31,29,30]⟩
def lNextsB_L0:List Lf:=
 let x0_:SI:=(.ap 62 (.c 0) (.c 0) (.v 4) (.v 8) (.v 5) (.c 0))
 let f0_:List (SB×Bool):=[((.le (.v 5) (.v 7)),.true),((.le (.c 0) (.v 7)),.true)]
 let f1_:List (SB×Bool):=((.le (.c 1) (.d 0)),.true)::((.lt (.c 20) (.v 5)),.false)::f0_
 let f2_:List (SB×Bool):=((.le (.c 0) x0_),.false)::f1_
 let f3_:List (SB×Bool):=((.le (.c 0) (.v 4)),.true)::f2_
 let f4_:List (SB×Bool):=((.lt x0_ (.c 0)),.true)::((.ap 30 (.c 0) (.c 0) (.c 0) (.c 0) (.c 0) (.c 0)),.true)::((.le (.c 0) x0_),.true)::f1_
 let f5_:List (SB×Bool):=((.le (.c 0) (.v 4)),.true)::f4_
 [(.fin (((.lt (.c 20) (.v 5)),.true)::f0_) 0 ⟨⟨[],[]⟩,[],[],[]⟩ [] []),
  (let i_:In:=⟨⟨[(30,(.ap 62 (.c 0) (.c 0) (.v 4) (.v 8) (.v 5) (.c 0))),(31,(.c 0))],[(29,(.c .true))]⟩,[],[],[]⟩;.cut (((.le (.v 4) (.c 64)),.true)::f5_) 1 i_ [] (shT lNextsB_T1 i_)),
  (.fin (((.le (.v 4) (.c 64)),.false)::f5_) 0 ⟨⟨[],[]⟩,[],[],[]⟩ [(.eb (.c .true) (.c .false))] []),
  (.fin (((.le (.c 0) (.v 4)),.false)::f4_) 0 ⟨⟨[],[]⟩,[],[],[]⟩ [(.eb (.c .true) (.c .false))] []),
  (let i_:In:=⟨⟨[(30,(.c 0)),(31,(.c 0))],[(29,(.c .false))]⟩,[],[],[]⟩;.cut (((.le (.v 4) (.c 64)),.true)::f3_) 1 i_ [] (shT lNextsB_T1 i_)),
  (.fin (((.le (.v 4) (.c 64)),.false)::f3_) 0 ⟨⟨[],[]⟩,[],[],[]⟩ [] []),
  (.fin (((.le (.c 0) (.v 4)),.false)::f2_) 0 ⟨⟨[],[]⟩,[],[],[]⟩ [] [])]
def lNextsB_L1:List Lf:=
 let p0_:SB×Bool:=((.eq (.v 30) (.c 0)),.true)
 let p1_:SB×Bool:=((.eq (.v 30) (.c 0)),.false)
 let x2_:SI:=(.ap 3 (.v 8) (.v 31) (.c 0) (.c 0) (.c 0) (.c 0))
 let f0_:List (SB×Bool):=[((.le (.v 4) (.c 64)),.true),((.le (.c 0) (.v 4)),.true),((.lt (.c 20) (.v 5)),.false),((.le (.v 5) (.v 7)),.true),((.le (.c 0) (.v 7)),.true)]
 let f1_:List (SB×Bool):=((.lt (.v 31) (.v 5)),.true)::f0_
 let f2_:List (SB×Bool):=((.lt (.v 31) (.v 5)),.false)::f0_
 let f3_:List (SB×Bool):=((.le (.c 0) x2_),.true)::f1_
 let f4_:List (SB×Bool):=((.le (.c 0) x2_),.false)::f1_
 let f5_:List (SB×Bool):=p0_::f2_
 let f6_:List (SB×Bool):=((.le x2_ (.c 5)),.false)::f3_
 let f7_:List (SB×Bool):=p0_::f4_
 let f8_:List (SB×Bool):=p0_::f6_
 [(let i_:In:=⟨⟨[(30,(.v 30)),(31,(.op .add (.v 31) (.c 1)))],[(29,(.v 29))]⟩,[],[],[]⟩;.cut (((.le x2_ (.c 5)),.true)::f3_) 1 i_ [] (shT lNextsB_T1 i_)),
  (.fin (((.v 29),.true)::f8_) 0 ⟨⟨[],[]⟩,[],[],[]⟩ [(.eb (.c .true) (.c .false))] []),
  (.fin (((.v 29),.false)::f8_) 0 ⟨⟨[],[]⟩,[],[],[]⟩ [] []),
  (.fin (p1_::f6_) 0 ⟨⟨[],[]⟩,[],[],[]⟩ [(.eb (.c .true) (.c .false))] []),
  (.fin (((.v 29),.true)::f7_) 0 ⟨⟨[],[]⟩,[],[],[]⟩ [(.eb (.c .true) (.c .false))] []),
  (.fin (((.v 29),.false)::f7_) 0 ⟨⟨[],[]⟩,[],[],[]⟩ [] []),
  (.fin (p1_::f4_) 0 ⟨⟨[],[]⟩,[],[],[]⟩ [(.eb (.c .true) (.c .false))] []),
  (.fin (((.v 29),.true)::f5_) 0 ⟨⟨[],[]⟩,[],[],[]⟩ [(.eb (.c .true) (.c .false))] []),
  (.fin (((.v 29),.false)::f5_) 0 ⟨⟨[],[]⟩,[],[],[]⟩ [] []),
  (.fin (p1_::f2_) 0 ⟨⟨[],[]⟩,[],[],[]⟩ [(.eb (.c .true) (.c .false))] [])]
def lNextsB_run (T:Tm):=(ex (ccOf Try.prog BF [58,84] lNextsB) ((fun cc=>[wLent.ent cc,qNxt.ent cc,wNxt.ent cc,qNxt0.ent cc,wNxt0.ent cc,cWorksW.ent cc]) (ccOf Try.prog BF [58,84] lNextsB)) (dw (ccOf Try.prog BF [58,84] lNextsB) ((fun cc=>[wLent.ent cc,qNxt.ent cc,wNxt.ent cc,qNxt0.ent cc,wNxt0.ent cc,cWorksW.ent cc]) (ccOf Try.prog BF [58,84] lNextsB)) 1000 4) (stopX [135,84,119,14,62,64,68,66,118,60,67]) 4000 T.f T.fs T.H).lfs (ccOf Try.prog BF [58,84] lNextsB) ((tm0 lNextsB Try.f14 (Try.f14.body.getD .skip))::[lNextsB_T1]) lNextsB.os
theorem lNextsB_h0:lNextsB_run (tm0 lNextsB Try.f14 (Try.f14.body.getD .skip))=some lNextsB_L0:=by kernel_rfl
theorem lNextsB_h1:lNextsB_run lNextsB_T1=some lNextsB_L1:=by kernel_rfl
def lNextsB_inv:(Nat→Int)→(Nat→Bool)→Nat→(Nat→Int)→(Nat→Bool)→Prop:=fun _ _ k iv bv=>match k with | 0=>True | _=>bv 29=false∧iv 30=0∧0≤iv 31
def lNextsB_mu:(Nat→Int)→(Nat→Bool)→Nat→(Nat→Int)→(Nat→Bool)→Nat:=fun iv0 _ k iv _=>match k with | 0=>2 ^ 90 | _=>(iv0 5 - iv 31).toNat
theorem lNextsB_b {iv0:Nat→Int} (hin:InB lNextsB.B iv0):(0≤iv0 5∧iv0 5≤9223372036854775807)∧((-9223372036854775808)≤iv0 4∧iv0 4≤9223372036854775807):=by
 have b5:=hin 5 0 9223372036854775807 (by simp [lNextsB,bW,gW,fM,lW,ap3,pb3,pb4,ints,mayV,i64s,i64b,kW,two,b2,lmap,lapp,bFo,cap64,fnO,ap60,ap61,oNo,oOrd,kU,lH,gH,bH,fH,nxtH,nxt0,oNxt,bLH,bL1o,bL5,gH1,fH1])
 simp only [Int.reduceLE,reduceIte,Int.reduceNeg] at b5
 have b4:=hin 4 (-9223372036854775808) 9223372036854775807 (by simp [lNextsB,bW,gW,fM,lW,ap3,pb3,pb4,ints,mayV,i64s,i64b,kW,two,b2,lmap,lapp,bFo,cap64,fnO,ap60,ap61,oNo,oOrd,kU,lH,gH,bH,fH,nxtH,nxt0,oNxt,bLH,bL1o,bL5,gH1,fH1])
 simp only [Int.reduceLE,reduceIte,Int.reduceNeg] at b4
 exact ⟨b5,b4⟩
def lNextsB_ob (k:Nat) (l:List Lf):Prop:=∀ (kv:Kv) (iv0:Nat→Int) (bv0:Nat→Bool),InB lNextsB.B iv0→FT (sta FI FB kv iv0 bv0) (dlt dyn0) lNextsB.F→∀ (iv:Nat→Int) (bv:Nat→Bool),Agr 9 iv0 bv0 iv bv→lNextsB_inv iv0 bv0 k iv bv→∀ lf∈l,LfT (sta FI FB kv) lNextsB.os (lNextsB_inv iv0 bv0) (lNextsB_mu iv0 bv0) k iv bv lf
theorem lNextsB_o0:lNextsB_ob 0 lNextsB_L0:=by
 intro kv iv0 bv0 hin hF iv bv ha hi
 unfold lNextsB_L0
 refine List.forall_mem_cons.2 ⟨?_,List.forall_mem_cons.2 ⟨?_,List.forall_mem_cons.2 ⟨?_,List.forall_mem_cons.2 ⟨?_,List.forall_mem_cons.2 ⟨?_,List.forall_mem_cons.2 ⟨?_,List.forall_mem_cons.2 ⟨?_,List.forall_mem_nil _⟩⟩⟩⟩⟩⟩⟩
 all_goals
  intro δ hf
 all_goals
  obtain ⟨b5,b4⟩:=lNextsB_b hin
 all_goals
  have a4:=ha.1 4 (by omega)
  have a5:=ha.1 5 (by omega)
  have a6:=ha.1 6 (by omega)
  have a7:=ha.1 7 (by omega)
  have a8:=ha.1 8 (by omega)
 all_goals
  simp only [FT,TP,SB.tp,SI.tv,sta,IB.eval,and_true,true_and,ObsT,Ob.Tv,rowT,kix,In.tiv,↓tbvT,In.tbv,get_cons,get_nil,reduceIte,Nat.reduceEqDiff,Int.reduceToNat,Int.reduceAdd,Int.reduceSub,Int.reduceLE,Int.reduceLT,Int.reduceEq,ne_eq,Bool.false_eq_true,not_true_eq_false,not_false_eq_true,true_iff,false_iff,iff_true,iff_false,false_implies,implies_true,decT,decide_true,decide_false,Bool.decide_eq_true,ap2,pb2,FI_3,FI_8,FI_9,FB_14,FI_30,FB_30,FI_3g,FI_8m,Int.toNat_natCast,Int.toNat_zero,FI_62,lNextsB_inv,lNextsB_mu,lNextsB,o1,othT,bW,gW,fM,lW,ap3,pb3,pb4,ints,mayV,i64s,i64b,kW,two,b2,lmap,lapp,bFo,cap64,fnO,ap60,ap61,oNo,oOrd,kU,lH,gH,bH,fH,nxtH,nxt0,oNxt,bLH,bL1o,bL5,gH1,fH1,a4,a5,a6,a7,a8] at hf hi ⊢
 all_goals
  try simp only [lent_nxt,nxt_n0] at hf hi ⊢
 all_goals
  (repeat' (with_reducible apply And.intro))<;>first
  | omega
  | assumption
  | (unfold inM;omega)
  | exact trivial
  | (clear hin hF ha;grind)
theorem lNextsB_o1:lNextsB_ob 1 lNextsB_L1:=by
 intro kv iv0 bv0 hin hF iv bv ha hi
 unfold lNextsB_L1
 refine List.forall_mem_cons.2 ⟨?_,List.forall_mem_cons.2 ⟨?_,List.forall_mem_cons.2 ⟨?_,List.forall_mem_cons.2 ⟨?_,List.forall_mem_cons.2 ⟨?_,List.forall_mem_cons.2 ⟨?_,List.forall_mem_cons.2 ⟨?_,List.forall_mem_cons.2 ⟨?_,List.forall_mem_cons.2 ⟨?_,List.forall_mem_cons.2 ⟨?_,List.forall_mem_nil _⟩⟩⟩⟩⟩⟩⟩⟩⟩⟩
 all_goals
  intro δ hf
 all_goals
  obtain ⟨b5,b4⟩:=lNextsB_b hin
 all_goals
  have a4:=ha.1 4 (by omega)
  have a5:=ha.1 5 (by omega)
  have a6:=ha.1 6 (by omega)
  have a7:=ha.1 7 (by omega)
  have a8:=ha.1 8 (by omega)
 all_goals
  simp only [FT,TP,SB.tp,SI.tv,sta,IB.eval,and_true,true_and,ObsT,Ob.Tv,rowT,kix,In.tiv,↓tbvT,In.tbv,get_cons,get_nil,reduceIte,Nat.reduceEqDiff,Int.reduceToNat,Int.reduceAdd,Int.reduceSub,Int.reduceLE,Int.reduceLT,Int.reduceEq,ne_eq,Bool.false_eq_true,not_true_eq_false,not_false_eq_true,true_iff,false_iff,iff_true,iff_false,false_implies,implies_true,decT,decide_true,decide_false,Bool.decide_eq_true,ap2,pb2,FI_3,FI_8,FI_9,FB_14,FI_30,FB_30,FI_3g,FI_8m,Int.toNat_natCast,Int.toNat_zero,FI_62,lNextsB_inv,lNextsB_mu,lNextsB,o1,othT,bW,gW,fM,lW,ap3,pb3,pb4,ints,mayV,i64s,i64b,kW,two,b2,lmap,lapp,bFo,cap64,fnO,ap60,ap61,oNo,oOrd,kU,lH,gH,bH,fH,nxtH,nxt0,oNxt,bLH,bL1o,bL5,gH1,fH1,a4,a5,a6,a7,a8] at hf hi ⊢
 all_goals
  try simp only [lent_nxt,nxt_n0] at hf hi ⊢
 all_goals
  (repeat' (with_reducible apply And.intro))<;>first
  | omega
  | assumption
  | (unfold inM;omega)
  | exact trivial
  | (clear hin hF ha;grind)
theorem lNextsB_c:LsC ((tm0 lNextsB Try.f14 (Try.f14.body.getD .skip))::[lNextsB_T1]) lNextsB.os [lNextsB_L0,lNextsB_L1]:=by
 unfold lNextsB_L0 lNextsB_L1
 exact ⟨List.forall_mem_cons.2 ⟨⟨⟨_,rfl,rfl⟩,by kernel_rfl⟩,List.forall_mem_cons.2 ⟨⟨⟨_,rfl,rfl⟩,by kernel_rfl⟩,List.forall_mem_cons.2 ⟨⟨⟨_,rfl,rfl⟩,by kernel_rfl⟩,List.forall_mem_cons.2 ⟨⟨⟨_,rfl,rfl⟩,by kernel_rfl⟩,List.forall_mem_cons.2 ⟨⟨⟨_,rfl,rfl⟩,by kernel_rfl⟩,List.forall_mem_cons.2 ⟨⟨⟨_,rfl,rfl⟩,by kernel_rfl⟩,List.forall_mem_cons.2 ⟨⟨⟨_,rfl,rfl⟩,by kernel_rfl⟩,List.forall_mem_nil _⟩⟩⟩⟩⟩⟩⟩,List.forall_mem_cons.2 ⟨⟨⟨_,rfl,rfl⟩,by kernel_rfl⟩,List.forall_mem_cons.2 ⟨⟨⟨_,rfl,rfl⟩,by kernel_rfl⟩,List.forall_mem_cons.2 ⟨⟨⟨_,rfl,rfl⟩,by kernel_rfl⟩,List.forall_mem_cons.2 ⟨⟨⟨_,rfl,rfl⟩,by kernel_rfl⟩,List.forall_mem_cons.2 ⟨⟨⟨_,rfl,rfl⟩,by kernel_rfl⟩,List.forall_mem_cons.2 ⟨⟨⟨_,rfl,rfl⟩,by kernel_rfl⟩,List.forall_mem_cons.2 ⟨⟨⟨_,rfl,rfl⟩,by kernel_rfl⟩,List.forall_mem_cons.2 ⟨⟨⟨_,rfl,rfl⟩,by kernel_rfl⟩,List.forall_mem_cons.2 ⟨⟨⟨_,rfl,rfl⟩,by kernel_rfl⟩,List.forall_mem_cons.2 ⟨⟨⟨_,rfl,rfl⟩,by kernel_rfl⟩,List.forall_mem_nil _⟩⟩⟩⟩⟩⟩⟩⟩⟩⟩,trivial⟩
theorem lNextsB_ok:lNextsB.Ok Try.prog FI FB:=
 Con.of_plain (body:=Try.f14.body.getD .skip) pok fiok (EntsFor.cons wLent_ok (EntsFor.cons qNxt_ok (EntsFor.cons wNxt_ok (EntsFor.cons qNxt0_ok (EntsFor.cons wNxt0_ok (EntsFor.cons cWorksW_ok EntsFor.nil)))))) lNextsB Try.func14 (by kernel_rfl) 9 [lNextsB_T1] (by kernel_rfl) [lNextsB_L0,lNextsB_L1] ⟨lNextsB_h0,lNextsB_h1,trivial⟩ lNextsB_c
  lNextsB_inv lNextsB_mu (fun _ _ _=>trivial) fun kv iv0 bv0 hin hF k l iv bv hk ha hi=>match k,hk,hi with
  | 0,hk,hi=>by
    cases hk
    exact lNextsB_o0 kv iv0 bv0 hin hF iv bv ha hi
  | 1,hk,hi=>by
    cases hk
    exact lNextsB_o1 kv iv0 bv0 hin hF iv bv ha hi
  | k+2,hk,_=>by simp at hk
def lNextsC_L0:List Lf:=
 let x0_:SI:=(.ap 62 (.c 0) (.c 0) (.v 4) (.c 0) (.c 0) (.c 0))
 let f0_:List (SB×Bool):=[((.le (.c 0) x0_),.false),((.le (.c 1) (.d 0)),.true)]
 let f1_:List (SB×Bool):=((.le (.c 0) (.v 4)),.true)::f0_
 let f2_:List (SB×Bool):=[((.lt x0_ (.c 0)),.true),((.ap 30 (.c 0) (.c 0) (.c 0) (.c 0) (.c 0) (.c 0)),.true),((.le (.c 0) x0_),.true),((.le (.c 1) (.d 0)),.true)]
 let f3_:List (SB×Bool):=((.le (.c 0) (.v 4)),.true)::f2_
 [(.fin (((.le (.v 4) (.c 64)),.true)::f3_) 0 ⟨⟨[],[]⟩,[],[],[]⟩ [(.eb (.c .true) (.c .false))] []),
  (.fin (((.le (.v 4) (.c 64)),.false)::f3_) 0 ⟨⟨[],[]⟩,[],[],[]⟩ [(.eb (.c .true) (.c .false))] []),
  (.fin (((.le (.c 0) (.v 4)),.false)::f2_) 0 ⟨⟨[],[]⟩,[],[],[]⟩ [(.eb (.c .true) (.c .false))] []),
  (.fin (((.le (.v 4) (.c 64)),.true)::f1_) 0 ⟨⟨[],[]⟩,[],[],[]⟩ [] []),
  (.fin (((.le (.v 4) (.c 64)),.false)::f1_) 0 ⟨⟨[],[]⟩,[],[],[]⟩ [] []),
  (.fin (((.le (.c 0) (.v 4)),.false)::f0_) 0 ⟨⟨[],[]⟩,[],[],[]⟩ [] [])]
def lNextsC_run (T:Tm):=(ex (ccOf Try.prog BF [58,84] lNextsC) ((fun cc=>[wLent.ent cc,qNxt.ent cc,wNxt.ent cc,qNxt0.ent cc,wNxt0.ent cc,cWorksW.ent cc]) (ccOf Try.prog BF [58,84] lNextsC)) (dw (ccOf Try.prog BF [58,84] lNextsC) ((fun cc=>[wLent.ent cc,qNxt.ent cc,wNxt.ent cc,qNxt0.ent cc,wNxt0.ent cc,cWorksW.ent cc]) (ccOf Try.prog BF [58,84] lNextsC)) 1000 4) (stopX [0,1,2,3,4,5,6,7,8,9,10,11,12,13,14,15,16,17,18,19,20,21,22,23,24,25,26,27,28,29,30,31,32,33,34,35,36,37,38,39,40,41,42,43,44,45,46,47,48,49,50,51,52,53,54,55,56,57,58,59,60,61,62,63,64,65,66,67,68,69,70,71,72,73,74,75,76,77,78,79,80,81,82,83,84,85,86,87,88,89,90,91,92,93,94,95,96,97,98,99,100,101,102,103,104,105,106,107,108,109,110,111,112,113,114,115,116,117,118,119,120,121,122,123,124,125,126,127,128,129,130,131,132,133,134,135,136,137,138,139,140,141,142,143,144,145,146,147,148,149,150,151,152,153,154,155,156,157,158,159,160,161,162,163,164,165,166,167,168,169,170,171,172,173,174,175,176,177,178,179,180,181,182,183,184,185,186,187,188,189,190,191,192,193,194,195,196,197,198,199,200,201,202,203,204,205,206,207,208,209,210,211,212,213,214,215,216,217,218,219,220,221,222,223,224,225,226,227,228,229,230,231,232,233,234,235,236,237,238,239,240,241,242,243,244,245,246,247,248,249]) 4000 T.f T.fs T.H).lfs (ccOf Try.prog BF [58,84] lNextsC) ((tm0 lNextsC Try.f14 (Try.f14.body.getD .skip))::[]) lNextsC.os
theorem lNextsC_h0:lNextsC_run (tm0 lNextsC Try.f14 (Try.f14.body.getD .skip))=some lNextsC_L0:=by kernel_rfl
def lNextsC_inv:(Nat→Int)→(Nat→Bool)→Nat→(Nat→Int)→(Nat→Bool)→Prop:=fun _ _ _ _ _=>True
def lNextsC_mu:(Nat→Int)→(Nat→Bool)→Nat→(Nat→Int)→(Nat→Bool)→Nat:=fun _ _ _ _ _=>0
theorem lNextsC_b {iv0:Nat→Int} (hin:InB lNextsC.B iv0):((-9223372036854775808)≤iv0 4∧iv0 4≤9223372036854775807):=by
 have b4:=hin 4 (-9223372036854775808) 9223372036854775807 (by simp [lNextsC,bW,gW,fM,lW,ap3,pb3,pb4,ints,mayV,i64s,i64b,kW,two,b2,lmap,lapp,bFo,cap64,fnO,ap60,ap61,oNo,oOrd,kU,lH,gH,bH,fH,nxtH,nxt0,oNxt,bLH,bL1o,bL5,gH1,fH1])
 simp only [Int.reduceLE,reduceIte,Int.reduceNeg] at b4
 exact b4
def lNextsC_ob (k:Nat) (l:List Lf):Prop:=∀ (kv:Kv) (iv0:Nat→Int) (bv0:Nat→Bool),InB lNextsC.B iv0→FT (sta FI FB kv iv0 bv0) (dlt dyn0) lNextsC.F→∀ (iv:Nat→Int) (bv:Nat→Bool),Agr 5 iv0 bv0 iv bv→lNextsC_inv iv0 bv0 k iv bv→∀ lf∈l,LfT (sta FI FB kv) lNextsC.os (lNextsC_inv iv0 bv0) (lNextsC_mu iv0 bv0) k iv bv lf
theorem lNextsC_o0:lNextsC_ob 0 lNextsC_L0:=by
 intro kv iv0 bv0 hin hF iv bv ha hi
 unfold lNextsC_L0
 refine List.forall_mem_cons.2 ⟨?_,List.forall_mem_cons.2 ⟨?_,List.forall_mem_cons.2 ⟨?_,List.forall_mem_cons.2 ⟨?_,List.forall_mem_cons.2 ⟨?_,List.forall_mem_cons.2 ⟨?_,List.forall_mem_nil _⟩⟩⟩⟩⟩⟩
 all_goals
  intro δ hf
 all_goals
  have b4:=lNextsC_b hin
 all_goals
  have a4:=ha.1 4 (by omega)
 all_goals
  simp only [FT,TP,SB.tp,SI.tv,sta,IB.eval,and_true,true_and,ObsT,Ob.Tv,rowT,kix,In.tiv,↓tbvT,In.tbv,get_cons,get_nil,reduceIte,Nat.reduceEqDiff,Int.reduceToNat,Int.reduceAdd,Int.reduceSub,Int.reduceLE,Int.reduceLT,Int.reduceEq,ne_eq,Bool.false_eq_true,not_true_eq_false,not_false_eq_true,true_iff,false_iff,iff_true,iff_false,false_implies,implies_true,decT,decide_true,decide_false,Bool.decide_eq_true,ap2,pb2,FI_3,FI_8,FI_9,FB_14,FI_30,FB_30,FI_3g,FI_8m,Int.toNat_natCast,Int.toNat_zero,FI_62,lNextsC_inv,lNextsC_mu,lNextsC,o1,othT,bW,gW,fM,lW,ap3,pb3,pb4,ints,mayV,i64s,i64b,kW,two,b2,lmap,lapp,bFo,cap64,fnO,ap60,ap61,oNo,oOrd,kU,lH,gH,bH,fH,nxtH,nxt0,oNxt,bLH,bL1o,bL5,gH1,fH1,a4] at hf hi ⊢
 all_goals
  try simp only [lent_nxt,nxt_n0] at hf hi ⊢
 all_goals
  (repeat' (with_reducible apply And.intro))<;>first
  | omega
  | assumption
  | (unfold inM;omega)
  | exact trivial
  | (clear hin hF ha;grind)
theorem lNextsC_c:LsC ((tm0 lNextsC Try.f14 (Try.f14.body.getD .skip))::[]) lNextsC.os [lNextsC_L0]:=by
 unfold lNextsC_L0
 exact ⟨List.forall_mem_cons.2 ⟨⟨⟨_,rfl,rfl⟩,by kernel_rfl⟩,List.forall_mem_cons.2 ⟨⟨⟨_,rfl,rfl⟩,by kernel_rfl⟩,List.forall_mem_cons.2 ⟨⟨⟨_,rfl,rfl⟩,by kernel_rfl⟩,List.forall_mem_cons.2 ⟨⟨⟨_,rfl,rfl⟩,by kernel_rfl⟩,List.forall_mem_cons.2 ⟨⟨⟨_,rfl,rfl⟩,by kernel_rfl⟩,List.forall_mem_cons.2 ⟨⟨⟨_,rfl,rfl⟩,by kernel_rfl⟩,List.forall_mem_nil _⟩⟩⟩⟩⟩⟩,trivial⟩
theorem lNextsC_ok:lNextsC.Ok Try.prog FI FB:=
 Con.of_plain (body:=Try.f14.body.getD .skip) pok fiok (EntsFor.cons wLent_ok (EntsFor.cons qNxt_ok (EntsFor.cons wNxt_ok (EntsFor.cons qNxt0_ok (EntsFor.cons wNxt0_ok (EntsFor.cons cWorksW_ok EntsFor.nil)))))) lNextsC Try.func14 (by kernel_rfl) 5 [] (by kernel_rfl) [lNextsC_L0] ⟨lNextsC_h0,trivial⟩ lNextsC_c
  lNextsC_inv lNextsC_mu (fun _ _ _=>trivial) fun kv iv0 bv0 hin hF k l iv bv hk ha hi=>match k,hk,hi with
  | 0,hk,hi=>by
    cases hk
    exact lNextsC_o0 kv iv0 bv0 hin hF iv bv ha hi
  | k+1,hk,_=>by simp at hk
end
end Go.Sx.Mhw
