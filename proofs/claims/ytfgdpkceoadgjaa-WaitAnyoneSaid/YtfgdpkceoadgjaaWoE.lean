/- WaitAnyone: the law by contract. -/
import Derived.Test.YtfgdpkceoadgjaaWoN
import Derived.Test.YtfgdpkceoadgjaaWaF
import Derived.Test.YtfgdpkceoadgjaaWaW
namespace Go.Sx.Mhw
set_option linter.unusedVariables false
set_option linter.unusedSimpArgs false
set_option maxRecDepth 100000
set_option maxHeartbeats 0
noncomputable section
open Go Go.Sx Go.Proofs
def bLHy:List (Nat×Int×Int):=i64b 4::[(1,0,9223372036854775807),(2,0,-1),(5,0,9223372036854775807),(6,0,-1)]
def bL1y:List (Nat×Int×Int):=i64b 4::[(1,0,9223372036854775807),(2,0,-1)]
def bL5y:List (Nat×Int×Int):=i64b 4::[(5,0,9223372036854775807),(6,0,-1)]
def gHy:List Gv:=[⟨1,.v 6,[.nt .i64],8,.v 5⟩]
def fHy:List (SB×Bool):=[(.le (.v 5) (.v 7),true),(.le (.c 0) (.v 7),true)]
def lAny:Con:=⟨16,[0,1,2,3,4,5,6,7,8],[lW,.it .i64 (.v 4),lH],gH,bLHy,fH,o1 (.bo (.c true))⟩
def lAnyA:Con:=⟨16,[0,1,2,3,4],[lW,.it .i64 (.v 4),.sn],gW,bL1y,fM,o1 (.bo (.c true))⟩
def lAnyB:Con:=⟨16,[4,5,6,7,8],[.sn,.it .i64 (.v 4),lH],gHy,bL5y,fHy,o1 (.bo (.c true))⟩
def lAnyC:Con:=⟨16,[4],[.sn,.it .i64 (.v 4),.sn],[],[i64b 4],[],o1 (.bo (.c true))⟩
theorem any_nxt {c n lim:Int} (hr:rgtW c n) (h0:0≤lim) (h64:lim≤64) (hn:0 < n):0≤nxtW c n lim 0 0:=by
 have hn2:=hr.1
 obtain ⟨a0,a1,a2⟩:=srt_at (c:=c) (lim:=lim) (n:=n) (by omega) (k:=0) (by omega)
 have hm:mayN c lim 0 0 (fl (srtW c n lim) (0:Int).toNat 5):=by
  refine ⟨fun i hi=>by omega,fun i hi hl=>?_⟩
  exfalso
  have hi':(i:Int) < fl (srtW c n lim) 0 5:=hi
  have hmem:(i:Int)∈plcL c n lim:=by
   rw [(plc_perm (lim:=lim) (by omega)).mem_iff,List.mem_map]
   exact ⟨i,by rw [List.mem_range];omega,rfl⟩
  obtain ⟨k,hk,e⟩:=List.getElem_of_mem hmem
  have hl2:(plcL c n lim).length=n.toNat:=by simp [plcL]
  have hp:=plc_bef (c:=c) (lim:=lim) (n:=n) (by omega)
  rw [List.pairwise_iff_getElem] at hp
  have e0:(plcL c n lim)[0]'(by omega)=fl (srtW c n lim) 0 5:=by simp [plcL]
  by_cases hk0:k=0
  ·subst hk0;rw [e0] at e;omega
  ·have hb:=hp 0 k (by omega) hk (by omega)
   rw [e0,e,befW_iff,Int.toNat_natCast] at hb
   omega
 have:=nxt_some (hc:=0) (m:=0) hr h0 h64 allM_0 (Int.le_refl 0) hn noN_0 hm
 rw [this];exact a0
theorem nxt_n0' (c lim hc m:Int):¬ 0≤nxtW c 0 lim hc m:=nxt_none (.inr (.inr (.inr (.inr fun j hj=>by omega))))
def lAny_T1:Tm:=⟨⟨29,16,[(3,(.it .i64 (.v 29))),(0,(.sl (.k 1) (.v 6) (.v 5) (.v 7)))],[(.code (atC Try.f29 [1,0,1,0,0])),(.inLoop (atC Try.f29 [1,0,1,0,0])),(.inBlock 0),(.code (atC Try.f29 [1,1]))],[],.none⟩,[⟨16,98,[(33,(.sl (.k 1) (.v 6) (.v 5) (.v 7))),(32,(.bo (.lt (.c 64) (.v 4)))),(0,(.sl (.k 0) (.v 2) (.v 1) (.v 3))),(1,(.it .i64 (.v 4))),(2,(.sl (.k 1) (.v 6) (.v 5) (.v 7)))],[(.inRegion (opsC (atC Try.f16 [1,0,0])) [24,25,26]),(.code (atC Try.f16 [1,0,1])),(.code (atC Try.f16 [1,1]))],[],.none⟩],
    ⟨[],0,0,0,[((.lt (.c 64) (.v 4)),.false),((.lt (.v 4) (.c 0)),.false),((.ap 30 (.v 0) (.v 1) (.c 0) (.c 0) (.c 0) (.c 0)),.true),((.lt (.c 20) (.v 5)),.false),((.le (.v 1) (.c 300)),.true),((.le (.v 1) (.v 3)),.true),((.le (.c 0) (.v 3)),.true),((.le (.v 5) (.v 7)),.true),((.le (.c 0) (.v 7)),.true)],[2,1,0],[(4,(0,64)),(5,(0,20)),(1,(0,300)),(2,(0,(-1))),(6,(0,(-1))),(29,(0,(-1)))]⟩,[29]⟩
def lAny_T2:Tm:=⟨⟨16,98,[(9,(.it .i64 (.v 30))),(7,(.it .i64 (.ap 62 (.v 0) (.v 1) (.v 4) (.v 8) (.v 5) (.c 0)))),(0,(.sl (.k 0) (.v 2) (.v 1) (.v 3))),(2,(.sl (.k 1) (.v 6) (.v 5) (.v 7)))],[(.code (atC Try.f16 [1,1,1,1,1,1,1,0,1,0,0])),(.inLoop (atC Try.f16 [1,1,1,1,1,1,1,0,1,0,0])),(.inBlock 0),(.code (atC Try.f16 [1,1,1,1,1,1,1,1]))],[],.none⟩,[],
    ⟨[],0,0,0,[((.lt (.ap 62 (.v 0) (.v 1) (.v 4) (.v 8) (.v 5) (.c 0)) (.v 1)),.true),((.ap 30 (.v 0) (.v 1) (.c 0) (.c 0) (.c 0) (.c 0)),.true),((.le (.c 0) (.ap 62 (.v 0) (.v 1) (.v 4) (.v 8) (.v 5) (.c 0))),.true),((.lt (.ap 62 (.v 0) (.v 1) (.v 4) (.c 0) (.c 0) (.c 0)) (.v 1)),.true),((.ap 30 (.v 0) (.v 1) (.c 0) (.c 0) (.c 0) (.c 0)),.true),((.le (.c 0) (.ap 62 (.v 0) (.v 1) (.v 4) (.c 0) (.c 0) (.c 0))),.true),((.lt (.v 29) (.v 5)),.false),((.lt (.c 64) (.v 4)),.false),((.lt (.v 4) (.c 0)),.false),((.ap 30 (.v 0) (.v 1) (.c 0) (.c 0) (.c 0) (.c 0)),.true),((.lt (.c 20) (.v 5)),.false),((.le (.v 1) (.c 300)),.true),((.le (.v 1) (.v 3)),.true),((.le (.c 0) (.v 3)),.true),((.le (.v 5) (.v 7)),.true),((.le (.c 0) (.v 7)),.true)],[2,1,0],[(1,(0,300)),(5,(0,20)),(4,(0,64)),(2,(0,(-1))),(6,(0,(-1))),(30,(0,(-1)))]⟩,[30]⟩
def lAny_L0:List Lf:=
 let f0_:List (SB×Bool):=[((.le (.v 1) (.v 3)),.true),((.le (.c 0) (.v 3)),.true),((.le (.v 5) (.v 7)),.true),((.le (.c 0) (.v 7)),.true)]
 let f1_:List (SB×Bool):=((.le (.v 1) (.c 300)),.true)::f0_
 let f2_:List (SB×Bool):=((.lt (.c 20) (.v 5)),.false)::f1_
 let f3_:List (SB×Bool):=((.ap 30 (.v 0) (.v 1) (.c 0) (.c 0) (.c 0) (.c 0)),.true)::f2_
 let f4_:List (SB×Bool):=((.lt (.v 4) (.c 0)),.false)::f3_
 [(.fin (((.lt (.c 20) (.v 5)),.true)::f1_) 0 ⟨⟨[],[]⟩,[],[],[]⟩ [] []),
  (.fin (((.lt (.v 4) (.c 0)),.true)::f3_) 0 ⟨⟨[],[]⟩,[],[],[]⟩ [] []),
  (.fin (((.lt (.c 64) (.v 4)),.true)::f4_) 0 ⟨⟨[],[]⟩,[],[],[]⟩ [] []),
  (.cut (((.lt (.c 64) (.v 4)),.false)::f4_) 1 ⟨⟨[(29,(.c 0))],[]⟩,[],[],[]⟩ [] (shT lAny_T1 ⟨⟨[(29,(.c 0))],[]⟩,[],[],[]⟩)),
  (.fin (((.ap 30 (.v 0) (.v 1) (.c 0) (.c 0) (.c 0) (.c 0)),.false)::f2_) 0 ⟨⟨[],[]⟩,[],[],[]⟩ [] []),
  (.fin (((.le (.v 1) (.c 300)),.false)::f0_) 0 ⟨⟨[],[]⟩,[],[],[]⟩ [] [])]
def lAny_L1:List Lf:=
 let x0_:SI:=(.ap 3 (.v 8) (.v 29) (.c 0) (.c 0) (.c 0) (.c 0))
 let x1_:SI:=(.ap 62 (.v 0) (.v 1) (.v 4) (.c 0) (.c 0) (.c 0))
 let x2_:SI:=(.ap 62 (.v 0) (.v 1) (.v 4) (.v 8) (.v 5) (.c 0))
 let p3_:SB×Bool:=((.ap 30 (.v 0) (.v 1) (.c 0) (.c 0) (.c 0) (.c 0)),.true)
 let f0_:List (SB×Bool):=[((.lt (.c 64) (.v 4)),.false),((.lt (.v 4) (.c 0)),.false),p3_,((.lt (.c 20) (.v 5)),.false),((.le (.v 1) (.c 300)),.true),((.le (.v 1) (.v 3)),.true),((.le (.c 0) (.v 3)),.true),((.le (.v 5) (.v 7)),.true),((.le (.c 0) (.v 7)),.true)]
 let f1_:List (SB×Bool):=((.lt (.v 29) (.v 5)),.true)::f0_
 let f2_:List (SB×Bool):=((.lt (.v 29) (.v 5)),.false)::f0_
 let f3_:List (SB×Bool):=((.le (.c 0) x0_),.true)::f1_
 let f4_:List (SB×Bool):=((.le (.c 0) x1_),.false)::f2_
 let f5_:List (SB×Bool):=((.lt (.c 0) (.v 1)),.false)::f4_
 let f6_:List (SB×Bool):=((.lt x1_ (.v 1)),.true)::p3_::((.le (.c 0) x1_),.true)::f2_
 [(.cut (((.le x0_ (.c 5)),.true)::f3_) 1 ⟨⟨[(29,(.op .add (.v 29) (.c 1)))],[]⟩,[],[],[]⟩ [] (shT lAny_T1 ⟨⟨[(29,(.op .add (.v 29) (.c 1)))],[]⟩,[],[],[]⟩)),
  (.fin (((.le x0_ (.c 5)),.false)::f3_) 0 ⟨⟨[],[]⟩,[],[],[]⟩ [] []),
  (.fin (((.le (.c 0) x0_),.false)::f1_) 0 ⟨⟨[],[]⟩,[],[],[]⟩ [] []),
  (.cut (((.lt x2_ (.v 1)),.true)::p3_::((.le (.c 0) x2_),.true)::f6_) 2 ⟨⟨[(30,(.c 0))],[]⟩,[],[],[]⟩ [] (shT lAny_T2 ⟨⟨[(30,(.c 0))],[]⟩,[],[],[]⟩)),
  (.fin (((.le (.c 0) x2_),.false)::f6_) 0 ⟨⟨[],[]⟩,[],[],[]⟩ [] []),
  (.fin (((.lt (.c 0) (.v 1)),.true)::f4_) 0 ⟨⟨[],[]⟩,[],[],[]⟩ [(.eb (.c .true) (.c .false))] []),
  (.fin (((.lt x2_ (.v 1)),.true)::p3_::((.le (.c 0) x2_),.true)::f5_) 0 ⟨⟨[],[]⟩,[],[],[]⟩ [(.eb (.c .true) (.c .false))] []),
  (.fin (((.le (.c 0) x2_),.false)::f5_) 0 ⟨⟨[],[]⟩,[],[],[]⟩ [] [])]
def lAny_L2:List Lf:=
 let x0_:SI:=(.ap 62 (.v 0) (.v 1) (.v 4) (.v 8) (.v 5) (.c 0))
 let x1_:SI:=(.ap 62 (.v 0) (.v 1) (.v 4) (.c 0) (.c 0) (.c 0))
 let x2_:SI:=(.ap 3 (.v 8) (.v 30) (.c 0) (.c 0) (.c 0) (.c 0))
 let p3_:SB×Bool:=((.ap 30 (.v 0) (.v 1) (.c 0) (.c 0) (.c 0) (.c 0)),.true)
 let x4_:SI:=(.ap 3 (.v 0) x0_ (.c 2) (.c 0) (.c 0) (.c 0))
 let f0_:List (SB×Bool):=[((.lt x0_ (.v 1)),.true),p3_,((.le (.c 0) x0_),.true),((.lt x1_ (.v 1)),.true),p3_,((.le (.c 0) x1_),.true),((.lt (.v 29) (.v 5)),.false),((.lt (.c 64) (.v 4)),.false),((.lt (.v 4) (.c 0)),.false),p3_,((.lt (.c 20) (.v 5)),.false),((.le (.v 1) (.c 300)),.true),((.le (.v 1) (.v 3)),.true),((.le (.c 0) (.v 3)),.true),((.le (.v 5) (.v 7)),.true),((.le (.c 0) (.v 7)),.true)]
 let f1_:List (SB×Bool):=((.lt (.v 30) (.v 5)),.true)::f0_
 [(.cut (((.ap 12 x4_ x2_ (.c 0) (.c 0) (.c 0) (.c 0)),.true)::f1_) 2 ⟨⟨[(30,(.op .add (.v 30) (.c 1)))],[]⟩,[],[],[]⟩ [] (shT lAny_T2 ⟨⟨[(30,(.op .add (.v 30) (.c 1)))],[]⟩,[],[],[]⟩)),
  (.fin (((.ap 12 x4_ x2_ (.c 0) (.c 0) (.c 0) (.c 0)),.false)::f1_) 0 ⟨⟨[],[]⟩,[],[],[]⟩ [(.eb (.c .true) (.c .false))] []),
  (.fin (((.lt (.v 30) (.v 5)),.false)::f0_) 0 ⟨⟨[],[]⟩,[],[],[]⟩ [] [])]
def lAny_run (T:Tm):=(ex (ccOf Try.prog BF [58,84] lAny) ((fun cc=>[wCheck.ent cc,qNxt.ent cc,qNxt0.ent cc,cWorksW.ent cc,rFits.ent cc]) (ccOf Try.prog BF [58,84] lAny)) (dw (ccOf Try.prog BF [58,84] lAny) ((fun cc=>[wCheck.ent cc,qNxt.ent cc,qNxt0.ent cc,cWorksW.ent cc,rFits.ent cc]) (ccOf Try.prog BF [58,84] lAny)) 1000 4) (stopX []) 4000 T.f T.fs T.H).lfs (ccOf Try.prog BF [58,84] lAny) ((tm0 lAny Try.f16 (Try.f16.body.getD .skip))::[lAny_T1,lAny_T2]) lAny.os
theorem lAny_h0:lAny_run (tm0 lAny Try.f16 (Try.f16.body.getD .skip))=some lAny_L0:=by kernel_rfl
theorem lAny_h1:lAny_run lAny_T1=some lAny_L1:=by kernel_rfl
theorem lAny_h2:lAny_run lAny_T2=some lAny_L2:=by kernel_rfl
def lAny_inv:(Nat→Int)→(Nat→Bool)→Nat→(Nat→Int)→(Nat→Bool)→Prop:=fun iv0 _ k iv _=>match k with | 0=>True | 1=>0≤iv 29∧iv 29≤iv0 5∧allM (iv0 8) (iv 29) | _=>0≤iv 30∧iv 30≤iv0 5
def lAny_mu:(Nat→Int)→(Nat→Bool)→Nat→(Nat→Int)→(Nat→Bool)→Nat:=fun iv0 _ k iv _=>match k with | 0=>2 ^ 90 | 1=>2 ^ 80+(iv0 5 - iv 29).toNat | _=>(iv0 5 - iv 30).toNat
theorem lAny_b {iv0:Nat→Int} (hin:InB lAny.B iv0):(0≤iv0 1∧iv0 1≤9223372036854775807)∧(0≤iv0 5∧iv0 5≤9223372036854775807)∧((-9223372036854775808)≤iv0 4∧iv0 4≤9223372036854775807):=by
 have b1:=hin 1 0 9223372036854775807 (by simp [lAny,bW,gW,fM,lW,ap3,pb3,pb4,ints,mayV,i64s,i64b,kW,two,b2,lmap,lapp,bFo,cap64,fnO,ap60,ap61,oNo,oOrd,kU,lH,gH,bH,fH,nxtH,nxt0,oNxt,bLHy,bL1y,bL5y,gHy,fHy])
 simp only [Int.reduceLE,reduceIte,Int.reduceNeg] at b1
 have b5:=hin 5 0 9223372036854775807 (by simp [lAny,bW,gW,fM,lW,ap3,pb3,pb4,ints,mayV,i64s,i64b,kW,two,b2,lmap,lapp,bFo,cap64,fnO,ap60,ap61,oNo,oOrd,kU,lH,gH,bH,fH,nxtH,nxt0,oNxt,bLHy,bL1y,bL5y,gHy,fHy])
 simp only [Int.reduceLE,reduceIte,Int.reduceNeg] at b5
 have b4:=hin 4 (-9223372036854775808) 9223372036854775807 (by simp [lAny,bW,gW,fM,lW,ap3,pb3,pb4,ints,mayV,i64s,i64b,kW,two,b2,lmap,lapp,bFo,cap64,fnO,ap60,ap61,oNo,oOrd,kU,lH,gH,bH,fH,nxtH,nxt0,oNxt,bLHy,bL1y,bL5y,gHy,fHy])
 simp only [Int.reduceLE,reduceIte,Int.reduceNeg] at b4
 exact ⟨b1,b5,b4⟩
def lAny_ob (k:Nat) (l:List Lf):Prop:=∀ (kv:Kv) (iv0:Nat→Int) (bv0:Nat→Bool),InB lAny.B iv0→FT (sta FI FB kv iv0 bv0) (dlt dyn0) lAny.F→∀ (iv:Nat→Int) (bv:Nat→Bool),Agr 9 iv0 bv0 iv bv→lAny_inv iv0 bv0 k iv bv→∀ lf∈l,LfT (sta FI FB kv) lAny.os (lAny_inv iv0 bv0) (lAny_mu iv0 bv0) k iv bv lf
theorem lAny_o0:lAny_ob 0 lAny_L0:=by
 intro kv iv0 bv0 hin hF iv bv ha hi
 unfold lAny_L0
 refine List.forall_mem_cons.2 ⟨?_,List.forall_mem_cons.2 ⟨?_,List.forall_mem_cons.2 ⟨?_,List.forall_mem_cons.2 ⟨?_,List.forall_mem_cons.2 ⟨?_,List.forall_mem_cons.2 ⟨?_,List.forall_mem_nil _⟩⟩⟩⟩⟩⟩
 all_goals
  intro δ hf
 all_goals
  obtain ⟨b1,b5,b4⟩:=lAny_b hin
 all_goals
  have a0:=ha.1 0 (by omega)
  have a1:=ha.1 1 (by omega)
  have a2:=ha.1 2 (by omega)
  have a3:=ha.1 3 (by omega)
  have a4:=ha.1 4 (by omega)
  have a5:=ha.1 5 (by omega)
  have a6:=ha.1 6 (by omega)
  have a7:=ha.1 7 (by omega)
  have a8:=ha.1 8 (by omega)
 all_goals
  simp only [FT,TP,SB.tp,SI.tv,sta,IB.eval,and_true,true_and,ObsT,Ob.Tv,rowT,kix,In.tiv,↓tbvT,In.tbv,get_cons,get_nil,reduceIte,Nat.reduceEqDiff,Int.reduceToNat,Int.reduceAdd,Int.reduceSub,Int.reduceLE,Int.reduceLT,Int.reduceEq,ne_eq,Bool.false_eq_true,not_true_eq_false,not_false_eq_true,true_iff,false_iff,iff_true,iff_false,false_implies,implies_true,decT,decide_true,decide_false,Bool.decide_eq_true,ap2,pb2,FI_3,FI_8,FI_9,FI_12,FB_12,FB_16,FI_30,FB_30,FI_3g,FI_8m,Int.toNat_natCast,Int.toNat_zero,FI_62,lAny_inv,lAny_mu,lAny,o1,othT,bW,gW,fM,lW,ap3,pb3,pb4,ints,mayV,i64s,i64b,kW,two,b2,lmap,lapp,bFo,cap64,fnO,ap60,ap61,oNo,oOrd,kU,lH,gH,bH,fH,nxtH,nxt0,oNxt,bLHy,bL1y,bL5y,gHy,fHy,a0,a1,a2,a3,a4,a5,a6,a7,a8] at hf hi ⊢
 all_goals
  (repeat' (with_reducible apply And.intro))<;>first
  | omega
  | assumption
  | (unfold inM;omega)
  | (exact allM_0)
  | (clear hin hF ha;grind)
theorem lAny_o1:lAny_ob 1 lAny_L1:=by
 intro kv iv0 bv0 hin hF iv bv ha hi
 unfold lAny_L1
 refine List.forall_mem_cons.2 ⟨?_,List.forall_mem_cons.2 ⟨?_,List.forall_mem_cons.2 ⟨?_,List.forall_mem_cons.2 ⟨?_,List.forall_mem_cons.2 ⟨?_,List.forall_mem_cons.2 ⟨?_,List.forall_mem_cons.2 ⟨?_,List.forall_mem_cons.2 ⟨?_,List.forall_mem_nil _⟩⟩⟩⟩⟩⟩⟩⟩
 all_goals
  intro δ hf
 all_goals
  obtain ⟨b1,b5,b4⟩:=lAny_b hin
 all_goals
  have a0:=ha.1 0 (by omega)
  have a1:=ha.1 1 (by omega)
  have a2:=ha.1 2 (by omega)
  have a3:=ha.1 3 (by omega)
  have a4:=ha.1 4 (by omega)
  have a5:=ha.1 5 (by omega)
  have a6:=ha.1 6 (by omega)
  have a7:=ha.1 7 (by omega)
  have a8:=ha.1 8 (by omega)
 all_goals
  simp only [FT,TP,SB.tp,SI.tv,sta,IB.eval,and_true,true_and,ObsT,Ob.Tv,rowT,kix,In.tiv,↓tbvT,In.tbv,get_cons,get_nil,reduceIte,Nat.reduceEqDiff,Int.reduceToNat,Int.reduceAdd,Int.reduceSub,Int.reduceLE,Int.reduceLT,Int.reduceEq,ne_eq,Bool.false_eq_true,not_true_eq_false,not_false_eq_true,true_iff,false_iff,iff_true,iff_false,false_implies,implies_true,decT,decide_true,decide_false,Bool.decide_eq_true,ap2,pb2,FI_3,FI_8,FI_9,FI_12,FB_12,FB_16,FI_30,FB_30,FI_3g,FI_8m,Int.toNat_natCast,Int.toNat_zero,FI_62,lAny_inv,lAny_mu,lAny,o1,othT,bW,gW,fM,lW,ap3,pb3,pb4,ints,mayV,i64s,i64b,kW,two,b2,lmap,lapp,bFo,cap64,fnO,ap60,ap61,oNo,oOrd,kU,lH,gH,bH,fH,nxtH,nxt0,oNxt,bLHy,bL1y,bL5y,gHy,fHy,a0,a1,a2,a3,a4,a5,a6,a7,a8] at hf hi ⊢
 all_goals
  obtain ⟨g0,g1,g2⟩:=hi
 all_goals
  have hA:rgtW (iv0 0) (iv0 1)→0≤iv0 4→iv0 4≤64→0 < iv0 1→0≤nxtW (iv0 0) (iv0 1) (iv0 4) 0 0:=any_nxt
 all_goals
  have h00:iv0 1=0→¬ 0≤nxtW (iv0 0) (iv0 1) (iv0 4) 0 0:=fun e=>by rw [e];exact nxt_n0' _ _ _ _
 all_goals
  (repeat' (with_reducible apply And.intro))<;>first
  | omega
  | assumption
  | (unfold inM;omega)
  | (exact allM_suc g2 g0 (by unfold inM;omega))
  | (clear hin hF ha;grind)
theorem lAny_o2:lAny_ob 2 lAny_L2:=by
 intro kv iv0 bv0 hin hF iv bv ha hi
 unfold lAny_L2
 refine List.forall_mem_cons.2 ⟨?_,List.forall_mem_cons.2 ⟨?_,List.forall_mem_cons.2 ⟨?_,List.forall_mem_nil _⟩⟩⟩
 all_goals
  intro δ hf
 all_goals
  obtain ⟨b1,b5,b4⟩:=lAny_b hin
 all_goals
  have a0:=ha.1 0 (by omega)
  have a1:=ha.1 1 (by omega)
  have a2:=ha.1 2 (by omega)
  have a3:=ha.1 3 (by omega)
  have a4:=ha.1 4 (by omega)
  have a5:=ha.1 5 (by omega)
  have a6:=ha.1 6 (by omega)
  have a7:=ha.1 7 (by omega)
  have a8:=ha.1 8 (by omega)
 all_goals
  simp only [FT,TP,SB.tp,SI.tv,sta,IB.eval,and_true,true_and,ObsT,Ob.Tv,rowT,kix,In.tiv,↓tbvT,In.tbv,get_cons,get_nil,reduceIte,Nat.reduceEqDiff,Int.reduceToNat,Int.reduceAdd,Int.reduceSub,Int.reduceLE,Int.reduceLT,Int.reduceEq,ne_eq,Bool.false_eq_true,not_true_eq_false,not_false_eq_true,true_iff,false_iff,iff_true,iff_false,false_implies,implies_true,decT,decide_true,decide_false,Bool.decide_eq_true,ap2,pb2,FI_3,FI_8,FI_9,FI_12,FB_12,FB_16,FI_30,FB_30,FI_3g,FI_8m,Int.toNat_natCast,Int.toNat_zero,FI_62,lAny_inv,lAny_mu,lAny,o1,othT,bW,gW,fM,lW,ap3,pb3,pb4,ints,mayV,i64s,i64b,kW,two,b2,lmap,lapp,bFo,cap64,fnO,ap60,ap61,oNo,oOrd,kU,lH,gH,bH,fH,nxtH,nxt0,oNxt,bLHy,bL1y,bL5y,gHy,fHy,a0,a1,a2,a3,a4,a5,a6,a7,a8] at hf hi ⊢
 all_goals
  have hN:0≤nxtW (iv0 0) (iv0 1) (iv0 4) (iv0 8) (iv0 5)→_:=nxt_has (c:=iv0 0) (n:=iv0 1) (lim:=iv0 4) (hc:=iv0 8) (m:=iv0 5)
 all_goals
  have hM:=fun h=>(hN h).2.2.2.2.1 (iv 30).toNat
 all_goals
  (repeat' (with_reducible apply And.intro))<;>first
  | omega
  | assumption
  | (unfold inM;omega)
  | (clear hin hF ha;grind)
theorem lAny_c:LsC ((tm0 lAny Try.f16 (Try.f16.body.getD .skip))::[lAny_T1,lAny_T2]) lAny.os [lAny_L0,lAny_L1,lAny_L2]:=by
 unfold lAny_L0 lAny_L1 lAny_L2
 exact ⟨List.forall_mem_cons.2 ⟨⟨⟨_,rfl,rfl⟩,by kernel_rfl⟩,List.forall_mem_cons.2 ⟨⟨⟨_,rfl,rfl⟩,by kernel_rfl⟩,List.forall_mem_cons.2 ⟨⟨⟨_,rfl,rfl⟩,by kernel_rfl⟩,List.forall_mem_cons.2 ⟨⟨⟨_,rfl,rfl⟩,by kernel_rfl⟩,List.forall_mem_cons.2 ⟨⟨⟨_,rfl,rfl⟩,by kernel_rfl⟩,List.forall_mem_cons.2 ⟨⟨⟨_,rfl,rfl⟩,by kernel_rfl⟩,List.forall_mem_nil _⟩⟩⟩⟩⟩⟩,List.forall_mem_cons.2 ⟨⟨⟨_,rfl,rfl⟩,by kernel_rfl⟩,List.forall_mem_cons.2 ⟨⟨⟨_,rfl,rfl⟩,by kernel_rfl⟩,List.forall_mem_cons.2 ⟨⟨⟨_,rfl,rfl⟩,by kernel_rfl⟩,List.forall_mem_cons.2 ⟨⟨⟨_,rfl,rfl⟩,by kernel_rfl⟩,List.forall_mem_cons.2 ⟨⟨⟨_,rfl,rfl⟩,by kernel_rfl⟩,List.forall_mem_cons.2 ⟨⟨⟨_,rfl,rfl⟩,by kernel_rfl⟩,List.forall_mem_cons.2 ⟨⟨⟨_,rfl,rfl⟩,by kernel_rfl⟩,List.forall_mem_cons.2 ⟨⟨⟨_,rfl,rfl⟩,by kernel_rfl⟩,List.forall_mem_nil _⟩⟩⟩⟩⟩⟩⟩⟩,List.forall_mem_cons.2 ⟨⟨⟨_,rfl,rfl⟩,by kernel_rfl⟩,List.forall_mem_cons.2 ⟨⟨⟨_,rfl,rfl⟩,by kernel_rfl⟩,List.forall_mem_cons.2 ⟨⟨⟨_,rfl,rfl⟩,by kernel_rfl⟩,List.forall_mem_nil _⟩⟩⟩,trivial⟩
theorem lAny_ok:lAny.Ok Try.prog FI FB:=
 Con.of_plain (body:=Try.f16.body.getD .skip) pok fiok (EntsFor.cons wCheck_ok (EntsFor.cons qNxt_ok (EntsFor.cons qNxt0_ok (EntsFor.cons cWorksW_ok (EntsFor.cons rFits_ok EntsFor.nil))))) lAny Try.func16 (by kernel_rfl) 9 [lAny_T1,lAny_T2] (by kernel_rfl) [lAny_L0,lAny_L1,lAny_L2] ⟨lAny_h0,lAny_h1,lAny_h2,trivial⟩ lAny_c
  lAny_inv lAny_mu (fun _ _ _=>trivial) fun kv iv0 bv0 hin hF k l iv bv hk ha hi=>match k,hk,hi with
  | 0,hk,hi=>by
    cases hk
    exact lAny_o0 kv iv0 bv0 hin hF iv bv ha hi
  | 1,hk,hi=>by
    cases hk
    exact lAny_o1 kv iv0 bv0 hin hF iv bv ha hi
  | 2,hk,hi=>by
    cases hk
    exact lAny_o2 kv iv0 bv0 hin hF iv bv ha hi
  | k+3,hk,_=>by simp at hk
def lAnyA_L0:List Lf:=
 let x0_:SI:=(.ap 62 (.v 0) (.v 1) (.v 4) (.c 0) (.c 0) (.c 0))
 let p1_:SB×Bool:=((.ap 30 (.v 0) (.v 1) (.c 0) (.c 0) (.c 0) (.c 0)),.true)
 let f0_:List (SB×Bool):=[((.le (.v 1) (.v 3)),.true),((.le (.c 0) (.v 3)),.true)]
 let f1_:List (SB×Bool):=((.le (.v 1) (.c 300)),.true)::f0_
 let f2_:List (SB×Bool):=p1_::f1_
 let f3_:List (SB×Bool):=((.lt (.v 4) (.c 0)),.false)::f2_
 let f4_:List (SB×Bool):=((.lt (.c 64) (.v 4)),.false)::f3_
 let f5_:List (SB×Bool):=((.le (.c 0) x0_),.false)::f4_
 [(.fin (((.lt (.v 4) (.c 0)),.true)::f2_) 0 ⟨⟨[],[]⟩,[],[],[]⟩ [] []),
  (.fin (((.lt (.c 64) (.v 4)),.true)::f3_) 0 ⟨⟨[],[]⟩,[],[],[]⟩ [] []),
  (.fin (((.lt x0_ (.v 1)),.true)::p1_::((.lt x0_ (.v 1)),.true)::p1_::((.le (.c 0) x0_),.true)::f4_) 0 ⟨⟨[],[]⟩,[],[],[]⟩ [] []),
  (.fin (((.lt (.c 0) (.v 1)),.true)::f5_) 0 ⟨⟨[],[]⟩,[],[],[]⟩ [(.eb (.c .true) (.c .false))] []),
  (.fin (((.lt (.c 0) (.v 1)),.false)::f5_) 0 ⟨⟨[],[]⟩,[],[],[]⟩ [] []),
  (.fin (((.ap 30 (.v 0) (.v 1) (.c 0) (.c 0) (.c 0) (.c 0)),.false)::f1_) 0 ⟨⟨[],[]⟩,[],[],[]⟩ [] []),
  (.fin (((.le (.v 1) (.c 300)),.false)::f0_) 0 ⟨⟨[],[]⟩,[],[],[]⟩ [] [])]
def lAnyA_run (T:Tm):=(ex (ccOf Try.prog BF [58,84] lAnyA) ((fun cc=>[wCheck.ent cc,qNxt.ent cc,qNxt0.ent cc,cWorksW.ent cc,rFits.ent cc]) (ccOf Try.prog BF [58,84] lAnyA)) (dw (ccOf Try.prog BF [58,84] lAnyA) ((fun cc=>[wCheck.ent cc,qNxt.ent cc,qNxt0.ent cc,cWorksW.ent cc,rFits.ent cc]) (ccOf Try.prog BF [58,84] lAnyA)) 1000 4) (stopX [29,16]) 4000 T.f T.fs T.H).lfs (ccOf Try.prog BF [58,84] lAnyA) ((tm0 lAnyA Try.f16 (Try.f16.body.getD .skip))::[]) lAnyA.os
theorem lAnyA_h0:lAnyA_run (tm0 lAnyA Try.f16 (Try.f16.body.getD .skip))=some lAnyA_L0:=by kernel_rfl
def lAnyA_inv:(Nat→Int)→(Nat→Bool)→Nat→(Nat→Int)→(Nat→Bool)→Prop:=fun _ _ _ _ _=>True
def lAnyA_mu:(Nat→Int)→(Nat→Bool)→Nat→(Nat→Int)→(Nat→Bool)→Nat:=fun _ _ _ _ _=>0
theorem lAnyA_b {iv0:Nat→Int} (hin:InB lAnyA.B iv0):(0≤iv0 1∧iv0 1≤9223372036854775807)∧((-9223372036854775808)≤iv0 4∧iv0 4≤9223372036854775807):=by
 have b1:=hin 1 0 9223372036854775807 (by simp [lAnyA,bW,gW,fM,lW,ap3,pb3,pb4,ints,mayV,i64s,i64b,kW,two,b2,lmap,lapp,bFo,cap64,fnO,ap60,ap61,oNo,oOrd,kU,lH,gH,bH,fH,nxtH,nxt0,oNxt,bLHy,bL1y,bL5y,gHy,fHy])
 simp only [Int.reduceLE,reduceIte,Int.reduceNeg] at b1
 have b4:=hin 4 (-9223372036854775808) 9223372036854775807 (by simp [lAnyA,bW,gW,fM,lW,ap3,pb3,pb4,ints,mayV,i64s,i64b,kW,two,b2,lmap,lapp,bFo,cap64,fnO,ap60,ap61,oNo,oOrd,kU,lH,gH,bH,fH,nxtH,nxt0,oNxt,bLHy,bL1y,bL5y,gHy,fHy])
 simp only [Int.reduceLE,reduceIte,Int.reduceNeg] at b4
 exact ⟨b1,b4⟩
def lAnyA_ob (k:Nat) (l:List Lf):Prop:=∀ (kv:Kv) (iv0:Nat→Int) (bv0:Nat→Bool),InB lAnyA.B iv0→FT (sta FI FB kv iv0 bv0) (dlt dyn0) lAnyA.F→∀ (iv:Nat→Int) (bv:Nat→Bool),Agr 5 iv0 bv0 iv bv→lAnyA_inv iv0 bv0 k iv bv→∀ lf∈l,LfT (sta FI FB kv) lAnyA.os (lAnyA_inv iv0 bv0) (lAnyA_mu iv0 bv0) k iv bv lf
theorem lAnyA_o0:lAnyA_ob 0 lAnyA_L0:=by
 intro kv iv0 bv0 hin hF iv bv ha hi
 unfold lAnyA_L0
 refine List.forall_mem_cons.2 ⟨?_,List.forall_mem_cons.2 ⟨?_,List.forall_mem_cons.2 ⟨?_,List.forall_mem_cons.2 ⟨?_,List.forall_mem_cons.2 ⟨?_,List.forall_mem_cons.2 ⟨?_,List.forall_mem_cons.2 ⟨?_,List.forall_mem_nil _⟩⟩⟩⟩⟩⟩⟩
 all_goals
  intro δ hf
 all_goals
  obtain ⟨b1,b4⟩:=lAnyA_b hin
 all_goals
  have a0:=ha.1 0 (by omega)
  have a1:=ha.1 1 (by omega)
  have a2:=ha.1 2 (by omega)
  have a3:=ha.1 3 (by omega)
  have a4:=ha.1 4 (by omega)
 all_goals
  simp only [FT,TP,SB.tp,SI.tv,sta,IB.eval,and_true,true_and,ObsT,Ob.Tv,rowT,kix,In.tiv,↓tbvT,In.tbv,get_cons,get_nil,reduceIte,Nat.reduceEqDiff,Int.reduceToNat,Int.reduceAdd,Int.reduceSub,Int.reduceLE,Int.reduceLT,Int.reduceEq,ne_eq,Bool.false_eq_true,not_true_eq_false,not_false_eq_true,true_iff,false_iff,iff_true,iff_false,false_implies,implies_true,decT,decide_true,decide_false,Bool.decide_eq_true,ap2,pb2,FI_3,FI_8,FI_9,FB_16,FI_30,FB_30,FI_3g,FI_8m,Int.toNat_natCast,Int.toNat_zero,FI_62,lAnyA_inv,lAnyA_mu,lAnyA,o1,othT,bW,gW,fM,lW,ap3,pb3,pb4,ints,mayV,i64s,i64b,kW,two,b2,lmap,lapp,bFo,cap64,fnO,ap60,ap61,oNo,oOrd,kU,lH,gH,bH,fH,nxtH,nxt0,oNxt,bLHy,bL1y,bL5y,gHy,fHy,a0,a1,a2,a3,a4] at hf hi ⊢
 all_goals
  have hA:rgtW (iv0 0) (iv0 1)→0≤iv0 4→iv0 4≤64→0 < iv0 1→0≤nxtW (iv0 0) (iv0 1) (iv0 4) 0 0:=any_nxt
 all_goals
  have h00:iv0 1=0→¬ 0≤nxtW (iv0 0) (iv0 1) (iv0 4) 0 0:=fun e=>by rw [e];exact nxt_n0' _ _ _ _
 all_goals
  (repeat' (with_reducible apply And.intro))<;>first
  | omega
  | assumption
  | (unfold inM;omega)
  | exact trivial
  | (clear hin hF ha;grind)
theorem lAnyA_c:LsC ((tm0 lAnyA Try.f16 (Try.f16.body.getD .skip))::[]) lAnyA.os [lAnyA_L0]:=by
 unfold lAnyA_L0
 exact ⟨List.forall_mem_cons.2 ⟨⟨⟨_,rfl,rfl⟩,by kernel_rfl⟩,List.forall_mem_cons.2 ⟨⟨⟨_,rfl,rfl⟩,by kernel_rfl⟩,List.forall_mem_cons.2 ⟨⟨⟨_,rfl,rfl⟩,by kernel_rfl⟩,List.forall_mem_cons.2 ⟨⟨⟨_,rfl,rfl⟩,by kernel_rfl⟩,List.forall_mem_cons.2 ⟨⟨⟨_,rfl,rfl⟩,by kernel_rfl⟩,List.forall_mem_cons.2 ⟨⟨⟨_,rfl,rfl⟩,by kernel_rfl⟩,List.forall_mem_cons.2 ⟨⟨⟨_,rfl,rfl⟩,by kernel_rfl⟩,List.forall_mem_nil _⟩⟩⟩⟩⟩⟩⟩,trivial⟩
theorem lAnyA_ok:lAnyA.Ok Try.prog FI FB:=
 Con.of_plain (body:=Try.f16.body.getD .skip) pok fiok (EntsFor.cons wCheck_ok (EntsFor.cons qNxt_ok (EntsFor.cons qNxt0_ok (EntsFor.cons cWorksW_ok (EntsFor.cons rFits_ok EntsFor.nil))))) lAnyA Try.func16 (by kernel_rfl) 5 [] (by kernel_rfl) [lAnyA_L0] ⟨lAnyA_h0,trivial⟩ lAnyA_c
  lAnyA_inv lAnyA_mu (fun _ _ _=>trivial) fun kv iv0 bv0 hin hF k l iv bv hk ha hi=>match k,hk,hi with
  | 0,hk,hi=>by
    cases hk
    exact lAnyA_o0 kv iv0 bv0 hin hF iv bv ha hi
  | k+1,hk,_=>by simp at hk
def lAnyB_T1:Tm:=⟨⟨29,16,[(3,(.it .i64 (.v 29))),(0,(.sl (.k 1) (.v 6) (.v 5) (.v 7)))],[(.code (atC Try.f29 [1,0,1,0,0])),(.inLoop (atC Try.f29 [1,0,1,0,0])),(.inBlock 0),(.code (atC Try.f29 [1,1]))],[],.none⟩,[⟨16,98,[(33,(.sl (.k 1) (.v 6) (.v 5) (.v 7))),(32,(.bo (.lt (.c 64) (.v 4)))),(0,.sn),(1,(.it .i64 (.v 4))),(2,(.sl (.k 1) (.v 6) (.v 5) (.v 7)))],[(.inRegion (opsC (atC Try.f16 [1,0,0])) [24,25,26]),(.code (atC Try.f16 [1,0,1])),(.code (atC Try.f16 [1,1]))],[],.none⟩],
    ⟨[],0,0,0,[((.lt (.c 64) (.v 4)),.false),((.lt (.v 4) (.c 0)),.false),((.lt (.c 20) (.v 5)),.false),((.le (.v 5) (.v 7)),.true),((.le (.c 0) (.v 7)),.true)],[1,0],[(4,(0,64)),(5,(0,20)),(6,(0,(-1))),(29,(0,(-1)))]⟩,[29]⟩
def lAnyB_T2:Tm:=⟨⟨135,19,[(8,(.it .i64 (.c 0))),(7,(.it .i64 (.c 0))),(0,.sn),(1,(.fn 151 [] [(.pt (.n 5) (.c 0))]))],[(.code (atC Try.f135 [1,0,1,0,0])),(.inLoop (atC Try.f135 [1,0,1,0,0])),(.inBlock 0),(.code (atC Try.f135 [1,1]))],[],.none⟩,[⟨84,9,[(6,(.fn 151 [] [(.pt (.n 5) (.c 0))])),(5,.sn)],[(.inRegion (opsC (atC Try.f84 [1,0])) [2,3,4]),(.code Code.ret)],[],.none⟩,⟨119,9,[(6,(.fn 151 [] [(.pt (.n 5) (.c 0))])),(5,.sn)],[(.inRegion (opsC (atC Try.f119 [1,0])) [2,3,4]),(.code Code.ret)],[],.none⟩,⟨66,33,[(12,.sn),(7,(.pt (.n 4) (.c 0))),(6,(.pt (.n 3) (.c 0))),(5,(.pt (.n 2) (.c 0))),(4,(.pt (.n 1) (.c 0))),(3,(.pt (.n 0) (.c 0)))],[(.inRegion (opsC (atC Try.f66 [1,0,0])) [1,2]),(.code (atC Try.f66 [1,0,1])),(.code (atC Try.f66 [1,1]))],[],.none⟩,⟨16,98,[(40,(.it .i64 (.v 4))),(39,.sn),(0,.sn),(1,(.it .i64 (.v 4))),(2,(.sl (.k 1) (.v 6) (.v 5) (.v 7)))],[(.inRegion (opsC (atC Try.f16 [1,1,0])) [2,3,4,5,6,7]),(.code (atC Try.f16 [1,1,1]))],[],.none⟩],
    ⟨[(0,(.cells [.sn] 76)),(1,(.cells [(.it .i64 (.v 4))] 3)),(2,(.cells [.sn] 31)),(3,(.cells [(.it .i64 (.c 0))] 3)),(4,(.cells [(.bo (.c .false))] 4)),(5,(.cells [(.fn 120 [] [])] 28))],6,0,0,[((.lt (.v 29) (.v 5)),.false),((.lt (.c 64) (.v 4)),.false),((.lt (.v 4) (.c 0)),.false),((.lt (.c 20) (.v 5)),.false),((.le (.v 5) (.v 7)),.true),((.le (.c 0) (.v 7)),.true)],[1,0],[(5,(0,20)),(29,(0,(-1))),(4,(0,64)),(5,(0,20)),(6,(0,(-1))),(29,(0,(-1)))]⟩,[]⟩
def lAnyB_T3:Tm:=⟨⟨135,19,[(8,(.it .i64 (.v 30))),(7,(.it .i64 (.v 5))),(0,(.sl (.k 1) (.v 6) (.v 5) (.v 7))),(1,(.fn 151 [] [(.pt (.n 17) (.c 0))]))],[(.code (atC Try.f135 [1,0,1,0,0])),(.inLoop (atC Try.f135 [1,0,1,0,0])),(.inBlock 0),(.code (atC Try.f135 [1,1]))],[],.none⟩,[⟨84,9,[(6,(.fn 151 [] [(.pt (.n 17) (.c 0))])),(5,(.sl (.k 1) (.v 6) (.v 5) (.v 7)))],[(.inRegion (opsC (atC Try.f84 [1,0])) [2,3,4]),(.code Code.ret)],[],.none⟩,⟨119,9,[(6,(.fn 151 [] [(.pt (.n 17) (.c 0))])),(5,(.sl (.k 1) (.v 6) (.v 5) (.v 7)))],[(.inRegion (opsC (atC Try.f119 [1,0])) [2,3,4]),(.code Code.ret)],[],.none⟩,⟨66,33,[(12,(.sl (.k 1) (.v 6) (.v 5) (.v 7))),(7,(.pt (.n 16) (.c 0))),(6,(.pt (.n 15) (.c 0))),(5,(.pt (.n 14) (.c 0))),(4,(.pt (.n 13) (.c 0))),(3,(.pt (.n 12) (.c 0)))],[(.inRegion (opsC (atC Try.f66 [1,0,0])) [1,2]),(.code (atC Try.f66 [1,0,1])),(.code (atC Try.f66 [1,1]))],[],.none⟩,⟨16,98,[(65,(.sl (.k 1) (.v 6) (.v 5) (.v 7))),(64,(.it .i64 (.v 4))),(63,.sn),(0,.sn),(2,(.sl (.k 1) (.v 6) (.v 5) (.v 7)))],[(.inRegion (opsC (atC Try.f16 [1,1,1,1,0])) [3,4,5,6,7,8]),(.code (atC Try.f16 [1,1,1,1,1]))],[],.none⟩],
    ⟨[(12,(.cells [.sn] 76)),(13,(.cells [(.it .i64 (.v 4))] 3)),(14,(.cells [(.sl (.k 1) (.v 6) (.v 5) (.v 7))] 31)),(15,(.cells [(.it .i64 (.c 0))] 3)),(16,(.cells [(.bo (.c .false))] 4)),(17,(.cells [(.fn 120 [] [])] 28))],18,0,0,[((.lt (.v 29) (.v 5)),.false),((.lt (.c 64) (.v 4)),.false),((.lt (.v 4) (.c 0)),.false),((.lt (.c 20) (.v 5)),.false),((.le (.v 5) (.v 7)),.true),((.le (.c 0) (.v 7)),.true)],[1,0],[(5,(0,20)),(4,(0,64)),(6,(0,(-1))),(30,(0,(-1)))]⟩,[30]⟩
def lAnyB_L0:List Lf:=
 let f0_:List (SB×Bool):=[((.le (.v 5) (.v 7)),.true),((.le (.c 0) (.v 7)),.true)]
 let f1_:List (SB×Bool):=((.lt (.c 20) (.v 5)),.false)::f0_
 let f2_:List (SB×Bool):=((.lt (.v 4) (.c 0)),.false)::f1_
 [(.fin (((.lt (.c 20) (.v 5)),.true)::f0_) 0 ⟨⟨[],[]⟩,[],[],[]⟩ [] []),
  (.fin (((.lt (.v 4) (.c 0)),.true)::f1_) 0 ⟨⟨[],[]⟩,[],[],[]⟩ [] []),
  (.fin (((.lt (.c 64) (.v 4)),.true)::f2_) 0 ⟨⟨[],[]⟩,[],[],[]⟩ [] []),
  (.cut (((.lt (.c 64) (.v 4)),.false)::f2_) 1 ⟨⟨[(29,(.c 0))],[]⟩,[],[],[]⟩ [] (shT lAnyB_T1 ⟨⟨[(29,(.c 0))],[]⟩,[],[],[]⟩))]
def lAnyB_L1:List Lf:=
 let x0_:SI:=(.ap 3 (.v 8) (.v 29) (.c 0) (.c 0) (.c 0) (.c 0))
 let f0_:List (SB×Bool):=[((.lt (.c 64) (.v 4)),.false),((.lt (.v 4) (.c 0)),.false),((.lt (.c 20) (.v 5)),.false),((.le (.v 5) (.v 7)),.true),((.le (.c 0) (.v 7)),.true)]
 let f1_:List (SB×Bool):=((.lt (.v 29) (.v 5)),.true)::f0_
 let f2_:List (SB×Bool):=((.le (.c 0) x0_),.true)::f1_
 [(.cut (((.le x0_ (.c 5)),.true)::f2_) 1 ⟨⟨[(29,(.op .add (.v 29) (.c 1)))],[]⟩,[],[],[]⟩ [] (shT lAnyB_T1 ⟨⟨[(29,(.op .add (.v 29) (.c 1)))],[]⟩,[],[],[]⟩)),
  (.fin (((.le x0_ (.c 5)),.false)::f2_) 0 ⟨⟨[],[]⟩,[],[],[]⟩ [] []),
  (.fin (((.le (.c 0) x0_),.false)::f1_) 0 ⟨⟨[],[]⟩,[],[],[]⟩ [] []),
  (let i_:In:=⟨⟨[],[]⟩,[(0,0),(1,1),(2,2),(3,3),(4,4),(5,5)],[],[]⟩;.cut (((.lt (.v 29) (.v 5)),.false)::f0_) 2 i_ [] (shT lAnyB_T2 i_))]
def lAnyB_L2:List Lf:=
 [(let i_:In:=⟨⟨[(30,(.c 0))],[]⟩,[(12,12),(13,13),(14,14),(15,15),(16,16),(17,17)],[],[]⟩;.cut ([((.lt (.v 29) (.v 5)),.false),((.lt (.c 64) (.v 4)),.false),((.lt (.v 4) (.c 0)),.false),((.lt (.c 20) (.v 5)),.false),((.le (.v 5) (.v 7)),.true),((.le (.c 0) (.v 7)),.true)]) 3 i_ [] (shT lAnyB_T3 i_))]
def lAnyB_L3:List Lf:=
 let x0_:SI:=(.ap 3 (.v 8) (.v 30) (.c 0) (.c 0) (.c 0) (.c 0))
 let f0_:List (SB×Bool):=[((.lt (.v 29) (.v 5)),.false),((.lt (.c 64) (.v 4)),.false),((.lt (.v 4) (.c 0)),.false),((.lt (.c 20) (.v 5)),.false),((.le (.v 5) (.v 7)),.true),((.le (.c 0) (.v 7)),.true)]
 let f1_:List (SB×Bool):=((.lt (.v 30) (.v 5)),.true)::f0_
 let f2_:List (SB×Bool):=((.le (.c 0) x0_),.true)::f1_
 [(let i_:In:=⟨⟨[(30,(.op .add (.v 30) (.c 1)))],[]⟩,[(12,12),(13,13),(14,14),(15,15),(16,16),(17,17)],[],[]⟩;.cut (((.lt x0_ (.c 6)),.true)::f2_) 3 i_ [] (shT lAnyB_T3 i_)),
  (.fin (((.lt x0_ (.c 6)),.false)::f2_) 0 ⟨⟨[],[]⟩,[],[],[]⟩ [] []),
  (.fin (((.le (.c 0) x0_),.false)::f1_) 0 ⟨⟨[],[]⟩,[],[],[]⟩ [] []),
  (.fin (((.lt (.v 30) (.v 5)),.false)::f0_) 0 ⟨⟨[],[]⟩,[],[],[]⟩ [] [])]
def lAnyB_run (T:Tm):=(ex (ccOf Try.prog BF [58,84] lAnyB) ((fun cc=>[wCheck.ent cc,qNxt.ent cc,qNxt0.ent cc,cWorksW.ent cc,rFits.ent cc]) (ccOf Try.prog BF [58,84] lAnyB)) (dw (ccOf Try.prog BF [58,84] lAnyB) ((fun cc=>[wCheck.ent cc,qNxt.ent cc,qNxt0.ent cc,cWorksW.ent cc,rFits.ent cc]) (ccOf Try.prog BF [58,84] lAnyB)) 1000 4) (stopX [0,1,2,3,4,5,6,7,8,9,10,11,12,13,14,15,16,17,18,19,20,21,22,23,24,25,26,27,28,30,31,32,33,34,35,36,37,38,39,40,41,42,43,44,45,46,47,48,49,50,51,52,53,54,55,56,57,58,59,60,61,62,63,64,65,66,67,68,69,70,71,72,73,74,75,76,77,78,79,80,81,82,83,84,85,86,87,88,89,90,91,92,93,94,95,96,97,98,99,100,101,102,103,104,105,106,107,108,109,110,111,112,113,114,115,116,117,118,119,120,121,122,123,124,125,126,127,128,129,130,131,132,133,134,136,137,138,139,140,141,142,143,144,145,146,147,148,149,150,151,152,153,154,155,156,157,158,159,160,161,162,163,164,165,166,167,168,169,170,171,172,173,174,175,176,177,178,179,180,181,182,183,184,185,186,187,188,189,190,191,192,193,194,195,196,197,198,199,200,201,202,203,204,205,206,207,208,209,210,211,212,213,214,215,216,217,218,219,220,221,222,223,224,225,226,227,228,229,230,231,232,233,234,235,236,237,238,239,240,241,242,243,244,245,246,247,248,249]) 4000 T.f T.fs T.H).lfs (ccOf Try.prog BF [58,84] lAnyB) ((tm0 lAnyB Try.f16 (Try.f16.body.getD .skip))::[lAnyB_T1,lAnyB_T2,lAnyB_T3]) lAnyB.os
theorem lAnyB_h0:lAnyB_run (tm0 lAnyB Try.f16 (Try.f16.body.getD .skip))=some lAnyB_L0:=by kernel_rfl
theorem lAnyB_h1:lAnyB_run lAnyB_T1=some lAnyB_L1:=by kernel_rfl
theorem lAnyB_h2:lAnyB_run lAnyB_T2=some lAnyB_L2:=by kernel_rfl
theorem lAnyB_h3:lAnyB_run lAnyB_T3=some lAnyB_L3:=by kernel_rfl
def lAnyB_inv:(Nat→Int)→(Nat→Bool)→Nat→(Nat→Int)→(Nat→Bool)→Prop:=fun iv0 _ k iv _=>match k with | 0=>True | 1=>0≤iv 29∧iv 29≤iv0 5 | 2=>True | _=>0≤iv 30∧iv 30≤iv0 5
def lAnyB_mu:(Nat→Int)→(Nat→Bool)→Nat→(Nat→Int)→(Nat→Bool)→Nat:=fun iv0 _ k iv _=>match k with | 0=>2 ^ 90 | 1=>2 ^ 80+(iv0 5 - iv 29).toNat | 2=>2 ^ 70 | _=>(iv0 5 - iv 30).toNat
theorem lAnyB_b {iv0:Nat→Int} (hin:InB lAnyB.B iv0):(0≤iv0 5∧iv0 5≤9223372036854775807)∧((-9223372036854775808)≤iv0 4∧iv0 4≤9223372036854775807):=by
 have b5:=hin 5 0 9223372036854775807 (by simp [lAnyB,bW,gW,fM,lW,ap3,pb3,pb4,ints,mayV,i64s,i64b,kW,two,b2,lmap,lapp,bFo,cap64,fnO,ap60,ap61,oNo,oOrd,kU,lH,gH,bH,fH,nxtH,nxt0,oNxt,bLHy,bL1y,bL5y,gHy,fHy])
 simp only [Int.reduceLE,reduceIte,Int.reduceNeg] at b5
 have b4:=hin 4 (-9223372036854775808) 9223372036854775807 (by simp [lAnyB,bW,gW,fM,lW,ap3,pb3,pb4,ints,mayV,i64s,i64b,kW,two,b2,lmap,lapp,bFo,cap64,fnO,ap60,ap61,oNo,oOrd,kU,lH,gH,bH,fH,nxtH,nxt0,oNxt,bLHy,bL1y,bL5y,gHy,fHy])
 simp only [Int.reduceLE,reduceIte,Int.reduceNeg] at b4
 exact ⟨b5,b4⟩
def lAnyB_ob (k:Nat) (l:List Lf):Prop:=∀ (kv:Kv) (iv0:Nat→Int) (bv0:Nat→Bool),InB lAnyB.B iv0→FT (sta FI FB kv iv0 bv0) (dlt dyn0) lAnyB.F→∀ (iv:Nat→Int) (bv:Nat→Bool),Agr 9 iv0 bv0 iv bv→lAnyB_inv iv0 bv0 k iv bv→∀ lf∈l,LfT (sta FI FB kv) lAnyB.os (lAnyB_inv iv0 bv0) (lAnyB_mu iv0 bv0) k iv bv lf
theorem lAnyB_o0:lAnyB_ob 0 lAnyB_L0:=by
 intro kv iv0 bv0 hin hF iv bv ha hi
 unfold lAnyB_L0
 refine List.forall_mem_cons.2 ⟨?_,List.forall_mem_cons.2 ⟨?_,List.forall_mem_cons.2 ⟨?_,List.forall_mem_cons.2 ⟨?_,List.forall_mem_nil _⟩⟩⟩⟩
 all_goals
  intro δ hf
 all_goals
  obtain ⟨b5,b4⟩:=lAnyB_b hin
 all_goals
  have a4:=ha.1 4 (by omega)
  have a5:=ha.1 5 (by omega)
  have a6:=ha.1 6 (by omega)
  have a7:=ha.1 7 (by omega)
  have a8:=ha.1 8 (by omega)
 all_goals
  simp only [FT,TP,SB.tp,SI.tv,sta,IB.eval,and_true,true_and,ObsT,Ob.Tv,rowT,kix,In.tiv,↓tbvT,In.tbv,get_cons,get_nil,reduceIte,Nat.reduceEqDiff,Int.reduceToNat,Int.reduceAdd,Int.reduceSub,Int.reduceLE,Int.reduceLT,Int.reduceEq,ne_eq,Bool.false_eq_true,not_true_eq_false,not_false_eq_true,true_iff,false_iff,iff_true,iff_false,false_implies,implies_true,decT,decide_true,decide_false,Bool.decide_eq_true,ap2,pb2,FI_3,FI_8,FI_9,FB_16,FI_3g,FI_8m,Int.toNat_natCast,Int.toNat_zero,lAnyB_inv,lAnyB_mu,lAnyB,o1,othT,bW,gW,fM,lW,ap3,pb3,pb4,ints,mayV,i64s,i64b,kW,two,b2,lmap,lapp,bFo,cap64,fnO,ap60,ap61,oNo,oOrd,kU,lH,gH,bH,fH,nxtH,nxt0,oNxt,bLHy,bL1y,bL5y,gHy,fHy,a4,a5,a6,a7,a8] at hf hi ⊢
 all_goals
  (repeat' (with_reducible apply And.intro))<;>first
  | omega
  | assumption
  | (unfold inM;omega)
  | exact trivial
  | (clear hin hF ha;grind)
theorem lAnyB_o1:lAnyB_ob 1 lAnyB_L1:=by
 intro kv iv0 bv0 hin hF iv bv ha hi
 unfold lAnyB_L1
 refine List.forall_mem_cons.2 ⟨?_,List.forall_mem_cons.2 ⟨?_,List.forall_mem_cons.2 ⟨?_,List.forall_mem_cons.2 ⟨?_,List.forall_mem_nil _⟩⟩⟩⟩
 all_goals
  intro δ hf
 all_goals
  obtain ⟨b5,b4⟩:=lAnyB_b hin
 all_goals
  have a4:=ha.1 4 (by omega)
  have a5:=ha.1 5 (by omega)
  have a6:=ha.1 6 (by omega)
  have a7:=ha.1 7 (by omega)
  have a8:=ha.1 8 (by omega)
 all_goals
  simp only [FT,TP,SB.tp,SI.tv,sta,IB.eval,and_true,true_and,ObsT,Ob.Tv,rowT,kix,In.tiv,↓tbvT,In.tbv,get_cons,get_nil,reduceIte,Nat.reduceEqDiff,Int.reduceToNat,Int.reduceAdd,Int.reduceSub,Int.reduceLE,Int.reduceLT,Int.reduceEq,ne_eq,Bool.false_eq_true,not_true_eq_false,not_false_eq_true,true_iff,false_iff,iff_true,iff_false,false_implies,implies_true,decT,decide_true,decide_false,Bool.decide_eq_true,ap2,pb2,FI_3,FI_8,FI_9,FB_16,FI_3g,FI_8m,Int.toNat_natCast,Int.toNat_zero,lAnyB_inv,lAnyB_mu,lAnyB,o1,othT,bW,gW,fM,lW,ap3,pb3,pb4,ints,mayV,i64s,i64b,kW,two,b2,lmap,lapp,bFo,cap64,fnO,ap60,ap61,oNo,oOrd,kU,lH,gH,bH,fH,nxtH,nxt0,oNxt,bLHy,bL1y,bL5y,gHy,fHy,a4,a5,a6,a7,a8] at hf hi ⊢
 all_goals
  (repeat' (with_reducible apply And.intro))<;>first
  | omega
  | assumption
  | (unfold inM;omega)
  | exact trivial
  | (clear hin hF ha;grind)
theorem lAnyB_o2:lAnyB_ob 2 lAnyB_L2:=by
 intro kv iv0 bv0 hin hF iv bv ha hi
 unfold lAnyB_L2
 refine List.forall_mem_cons.2 ⟨?_,List.forall_mem_nil _⟩
 all_goals
  intro δ hf
 all_goals
  obtain ⟨b5,b4⟩:=lAnyB_b hin
 all_goals
  have a4:=ha.1 4 (by omega)
  have a5:=ha.1 5 (by omega)
  have a6:=ha.1 6 (by omega)
  have a7:=ha.1 7 (by omega)
  have a8:=ha.1 8 (by omega)
 all_goals
  simp only [FT,TP,SB.tp,SI.tv,sta,IB.eval,and_true,true_and,ObsT,Ob.Tv,rowT,kix,In.tiv,↓tbvT,In.tbv,get_cons,get_nil,reduceIte,Nat.reduceEqDiff,Int.reduceToNat,Int.reduceAdd,Int.reduceSub,Int.reduceLE,Int.reduceLT,Int.reduceEq,ne_eq,Bool.false_eq_true,not_true_eq_false,not_false_eq_true,true_iff,false_iff,iff_true,iff_false,false_implies,implies_true,decT,decide_true,decide_false,Bool.decide_eq_true,ap2,pb2,FI_3,FI_8,FI_9,FB_16,FI_3g,FI_8m,Int.toNat_natCast,Int.toNat_zero,lAnyB_inv,lAnyB_mu,lAnyB,o1,othT,bW,gW,fM,lW,ap3,pb3,pb4,ints,mayV,i64s,i64b,kW,two,b2,lmap,lapp,bFo,cap64,fnO,ap60,ap61,oNo,oOrd,kU,lH,gH,bH,fH,nxtH,nxt0,oNxt,bLHy,bL1y,bL5y,gHy,fHy,a4,a5,a6,a7,a8] at hf hi ⊢
 all_goals
  (repeat' (with_reducible apply And.intro))<;>first
  | omega
  | assumption
  | (unfold inM;omega)
  | exact trivial
  | (clear hin hF ha;grind)
theorem lAnyB_o3:lAnyB_ob 3 lAnyB_L3:=by
 intro kv iv0 bv0 hin hF iv bv ha hi
 unfold lAnyB_L3
 refine List.forall_mem_cons.2 ⟨?_,List.forall_mem_cons.2 ⟨?_,List.forall_mem_cons.2 ⟨?_,List.forall_mem_cons.2 ⟨?_,List.forall_mem_nil _⟩⟩⟩⟩
 all_goals
  intro δ hf
 all_goals
  obtain ⟨b5,b4⟩:=lAnyB_b hin
 all_goals
  have a4:=ha.1 4 (by omega)
  have a5:=ha.1 5 (by omega)
  have a6:=ha.1 6 (by omega)
  have a7:=ha.1 7 (by omega)
  have a8:=ha.1 8 (by omega)
 all_goals
  simp only [FT,TP,SB.tp,SI.tv,sta,IB.eval,and_true,true_and,ObsT,Ob.Tv,rowT,kix,In.tiv,↓tbvT,In.tbv,get_cons,get_nil,reduceIte,Nat.reduceEqDiff,Int.reduceToNat,Int.reduceAdd,Int.reduceSub,Int.reduceLE,Int.reduceLT,Int.reduceEq,ne_eq,Bool.false_eq_true,not_true_eq_false,not_false_eq_true,true_iff,false_iff,iff_true,iff_false,false_implies,implies_true,decT,decide_true,decide_false,Bool.decide_eq_true,ap2,pb2,FI_3,FI_8,FI_9,FB_16,FI_3g,FI_8m,Int.toNat_natCast,Int.toNat_zero,lAnyB_inv,lAnyB_mu,lAnyB,o1,othT,bW,gW,fM,lW,ap3,pb3,pb4,ints,mayV,i64s,i64b,kW,two,b2,lmap,lapp,bFo,cap64,fnO,ap60,ap61,oNo,oOrd,kU,lH,gH,bH,fH,nxtH,nxt0,oNxt,bLHy,bL1y,bL5y,gHy,fHy,a4,a5,a6,a7,a8] at hf hi ⊢
 all_goals
  (repeat' (with_reducible apply And.intro))<;>first
  | omega
  | assumption
  | (unfold inM;omega)
  | exact trivial
  | (clear hin hF ha;grind)
theorem lAnyB_c:LsC ((tm0 lAnyB Try.f16 (Try.f16.body.getD .skip))::[lAnyB_T1,lAnyB_T2,lAnyB_T3]) lAnyB.os [lAnyB_L0,lAnyB_L1,lAnyB_L2,lAnyB_L3]:=by
 unfold lAnyB_L0 lAnyB_L1 lAnyB_L2 lAnyB_L3
 exact ⟨List.forall_mem_cons.2 ⟨⟨⟨_,rfl,rfl⟩,by kernel_rfl⟩,List.forall_mem_cons.2 ⟨⟨⟨_,rfl,rfl⟩,by kernel_rfl⟩,List.forall_mem_cons.2 ⟨⟨⟨_,rfl,rfl⟩,by kernel_rfl⟩,List.forall_mem_cons.2 ⟨⟨⟨_,rfl,rfl⟩,by kernel_rfl⟩,List.forall_mem_nil _⟩⟩⟩⟩,List.forall_mem_cons.2 ⟨⟨⟨_,rfl,rfl⟩,by kernel_rfl⟩,List.forall_mem_cons.2 ⟨⟨⟨_,rfl,rfl⟩,by kernel_rfl⟩,List.forall_mem_cons.2 ⟨⟨⟨_,rfl,rfl⟩,by kernel_rfl⟩,List.forall_mem_cons.2 ⟨⟨⟨_,rfl,rfl⟩,by kernel_rfl⟩,List.forall_mem_nil _⟩⟩⟩⟩,List.forall_mem_cons.2 ⟨⟨⟨_,rfl,rfl⟩,by kernel_rfl⟩,List.forall_mem_nil _⟩,List.forall_mem_cons.2 ⟨⟨⟨_,rfl,rfl⟩,by kernel_rfl⟩,List.forall_mem_cons.2 ⟨⟨⟨_,rfl,rfl⟩,by kernel_rfl⟩,List.forall_mem_cons.2 ⟨⟨⟨_,rfl,rfl⟩,by kernel_rfl⟩,List.forall_mem_cons.2 ⟨⟨⟨_,rfl,rfl⟩,by kernel_rfl⟩,List.forall_mem_nil _⟩⟩⟩⟩,trivial⟩
theorem lAnyB_ok:lAnyB.Ok Try.prog FI FB:=
 Con.of_plain (body:=Try.f16.body.getD .skip) pok fiok (EntsFor.cons wCheck_ok (EntsFor.cons qNxt_ok (EntsFor.cons qNxt0_ok (EntsFor.cons cWorksW_ok (EntsFor.cons rFits_ok EntsFor.nil))))) lAnyB Try.func16 (by kernel_rfl) 9 [lAnyB_T1,lAnyB_T2,lAnyB_T3] (by kernel_rfl) [lAnyB_L0,lAnyB_L1,lAnyB_L2,lAnyB_L3] ⟨lAnyB_h0,lAnyB_h1,lAnyB_h2,lAnyB_h3,trivial⟩ lAnyB_c
  lAnyB_inv lAnyB_mu (fun _ _ _=>trivial) fun kv iv0 bv0 hin hF k l iv bv hk ha hi=>match k,hk,hi with
  | 0,hk,hi=>by
    cases hk
    exact lAnyB_o0 kv iv0 bv0 hin hF iv bv ha hi
  | 1,hk,hi=>by
    cases hk
    exact lAnyB_o1 kv iv0 bv0 hin hF iv bv ha hi
  | 2,hk,hi=>by
    cases hk
    exact lAnyB_o2 kv iv0 bv0 hin hF iv bv ha hi
  | 3,hk,hi=>by
    cases hk
    exact lAnyB_o3 kv iv0 bv0 hin hF iv bv ha hi
  | k+4,hk,_=>by simp at hk
def lAnyC_L0:List Lf:=
 [(.fin ([((.lt (.v 4) (.c 0)),.true)]) 0 ⟨⟨[],[]⟩,[],[],[]⟩ [] []),
  (.fin ([((.lt (.c 64) (.v 4)),.true),((.lt (.v 4) (.c 0)),.false)]) 0 ⟨⟨[],[]⟩,[],[],[]⟩ [] []),
  (.fin ([((.lt (.c 64) (.v 4)),.false),((.lt (.v 4) (.c 0)),.false)]) 0 ⟨⟨[],[]⟩,[],[],[]⟩ [] [])]
def lAnyC_run (T:Tm):=(ex (ccOf Try.prog BF [58,84] lAnyC) ((fun cc=>[wCheck.ent cc,qNxt.ent cc,qNxt0.ent cc,cWorksW.ent cc,rFits.ent cc]) (ccOf Try.prog BF [58,84] lAnyC)) (dw (ccOf Try.prog BF [58,84] lAnyC) ((fun cc=>[wCheck.ent cc,qNxt.ent cc,qNxt0.ent cc,cWorksW.ent cc,rFits.ent cc]) (ccOf Try.prog BF [58,84] lAnyC)) 1000 4) (stopX [0,1,2,3,4,5,6,7,8,9,10,11,12,13,14,15,16,17,18,19,20,21,22,23,24,25,26,27,28,29,30,31,32,33,34,35,36,37,38,39,40,41,42,43,44,45,46,47,48,49,50,51,52,53,54,55,56,57,58,59,60,61,62,63,64,65,66,67,68,69,70,71,72,73,74,75,76,77,78,79,80,81,82,83,84,85,86,87,88,89,90,91,92,93,94,95,96,97,98,99,100,101,102,103,104,105,106,107,108,109,110,111,112,113,114,115,116,117,118,119,120,121,122,123,124,125,126,127,128,129,130,131,132,133,134,135,136,137,138,139,140,141,142,143,144,145,146,147,148,149,150,151,152,153,154,155,156,157,158,159,160,161,162,163,164,165,166,167,168,169,170,171,172,173,174,175,176,177,178,179,180,181,182,183,184,185,186,187,188,189,190,191,192,193,194,195,196,197,198,199,200,201,202,203,204,205,206,207,208,209,210,211,212,213,214,215,216,217,218,219,220,221,222,223,224,225,226,227,228,229,230,231,232,233,234,235,236,237,238,239,240,241,242,243,244,245,246,247,248,249]) 4000 T.f T.fs T.H).lfs (ccOf Try.prog BF [58,84] lAnyC) ((tm0 lAnyC Try.f16 (Try.f16.body.getD .skip))::[]) lAnyC.os
theorem lAnyC_h0:lAnyC_run (tm0 lAnyC Try.f16 (Try.f16.body.getD .skip))=some lAnyC_L0:=by kernel_rfl
def lAnyC_inv:(Nat→Int)→(Nat→Bool)→Nat→(Nat→Int)→(Nat→Bool)→Prop:=fun _ _ _ _ _=>True
def lAnyC_mu:(Nat→Int)→(Nat→Bool)→Nat→(Nat→Int)→(Nat→Bool)→Nat:=fun _ _ _ _ _=>0
theorem lAnyC_b {iv0:Nat→Int} (hin:InB lAnyC.B iv0):((-9223372036854775808)≤iv0 4∧iv0 4≤9223372036854775807):=by
 have b4:=hin 4 (-9223372036854775808) 9223372036854775807 (by simp [lAnyC,bW,gW,fM,lW,ap3,pb3,pb4,ints,mayV,i64s,i64b,kW,two,b2,lmap,lapp,bFo,cap64,fnO,ap60,ap61,oNo,oOrd,kU,lH,gH,bH,fH,nxtH,nxt0,oNxt,bLHy,bL1y,bL5y,gHy,fHy])
 simp only [Int.reduceLE,reduceIte,Int.reduceNeg] at b4
 exact b4
def lAnyC_ob (k:Nat) (l:List Lf):Prop:=∀ (kv:Kv) (iv0:Nat→Int) (bv0:Nat→Bool),InB lAnyC.B iv0→FT (sta FI FB kv iv0 bv0) (dlt dyn0) lAnyC.F→∀ (iv:Nat→Int) (bv:Nat→Bool),Agr 5 iv0 bv0 iv bv→lAnyC_inv iv0 bv0 k iv bv→∀ lf∈l,LfT (sta FI FB kv) lAnyC.os (lAnyC_inv iv0 bv0) (lAnyC_mu iv0 bv0) k iv bv lf
theorem lAnyC_o0:lAnyC_ob 0 lAnyC_L0:=by
 intro kv iv0 bv0 hin hF iv bv ha hi
 unfold lAnyC_L0
 refine List.forall_mem_cons.2 ⟨?_,List.forall_mem_cons.2 ⟨?_,List.forall_mem_cons.2 ⟨?_,List.forall_mem_nil _⟩⟩⟩
 all_goals
  intro δ hf
 all_goals
  have b4:=lAnyC_b hin
 all_goals
  have a4:=ha.1 4 (by omega)
 all_goals
  simp only [FT,TP,SB.tp,SI.tv,sta,IB.eval,and_true,true_and,ObsT,Ob.Tv,rowT,kix,In.tiv,↓tbvT,In.tbv,get_cons,get_nil,reduceIte,Nat.reduceEqDiff,Int.reduceToNat,Int.reduceAdd,Int.reduceSub,Int.reduceLE,Int.reduceLT,Int.reduceEq,ne_eq,Bool.false_eq_true,not_true_eq_false,not_false_eq_true,true_iff,false_iff,iff_true,iff_false,false_implies,implies_true,decT,decide_true,decide_false,Bool.decide_eq_true,ap2,pb2,FI_3,FI_8,FI_9,FB_16,FI_3g,FI_8m,Int.toNat_natCast,Int.toNat_zero,lAnyC_inv,lAnyC_mu,lAnyC,o1,othT,bW,gW,fM,lW,ap3,pb3,pb4,ints,mayV,i64s,i64b,kW,two,b2,lmap,lapp,bFo,cap64,fnO,ap60,ap61,oNo,oOrd,kU,lH,gH,bH,fH,nxtH,nxt0,oNxt,bLHy,bL1y,bL5y,gHy,fHy,a4] at hf hi ⊢
 all_goals
  (repeat' (with_reducible apply And.intro))<;>first
  | omega
  | assumption
  | (unfold inM;omega)
  | exact trivial
  | (clear hin hF ha;grind)
theorem lAnyC_c:LsC ((tm0 lAnyC Try.f16 (Try.f16.body.getD .skip))::[]) lAnyC.os [lAnyC_L0]:=by
 unfold lAnyC_L0
 exact ⟨List.forall_mem_cons.2 ⟨⟨⟨_,rfl,rfl⟩,by kernel_rfl⟩,List.forall_mem_cons.2 ⟨⟨⟨_,rfl,rfl⟩,by kernel_rfl⟩,List.forall_mem_cons.2 ⟨⟨⟨_,rfl,rfl⟩,by kernel_rfl⟩,List.forall_mem_nil _⟩⟩⟩,trivial⟩
theorem lAnyC_ok:lAnyC.Ok Try.prog FI FB:=
 Con.of_plain (body:=Try.f16.body.getD .skip) pok fiok (EntsFor.cons wCheck_ok (EntsFor.cons qNxt_ok (EntsFor.cons qNxt0_ok (EntsFor.cons cWorksW_ok (EntsFor.cons rFits_ok EntsFor.nil))))) lAnyC Try.func16 (by kernel_rfl) 5 [] (by kernel_rfl) [lAnyC_L0] ⟨lAnyC_h0,trivial⟩ lAnyC_c
  lAnyC_inv lAnyC_mu (fun _ _ _=>trivial) fun kv iv0 bv0 hin hF k l iv bv hk ha hi=>match k,hk,hi with
  | 0,hk,hi=>by
    cases hk
    exact lAnyC_o0 kv iv0 bv0 hin hF iv bv ha hi
  | k+1,hk,_=>by simp at hk
end
end Go.Sx.Mhw
