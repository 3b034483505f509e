/- Slots: the first that is free, by contract. -/
import Derived.Test.YtobmggabgicpgaaGreatSlA
namespace Go.Sx.Sl
set_option linter.unusedVariables false
set_option linter.unusedSimpArgs false
set_option maxRecDepth 100000
set_option maxHeartbeats 0
noncomputable section
open Go Go.Sx Go.Sx.Ti Go.Proofs
def frS:SI:=.ap 21 (.v 0) (.v 1) (.c 0) (.c 0) (.c 0) (.c 0)
def sFre:Con:=⟨33,[0,1,2,3],[lS,.fn 34 [] []],gS,bS,fS,[⟨[],.it .i64 frS,[],0,0,[(.lt frS (.v 1),true),(.le (.c (-1)) frS,true)]⟩]⟩
def stS (c i f x:SI):SI:=.ap 8 c i f x (.c 0) (.c 0)
def chS:SB×Bool:=(.eq (.ap 22 (.v 0) (.v 1) (.v 4) (.v 5) (.v 6) (.c 0)) (.c 0),true)
def mAS:SB:=.ap 20 (.c 1) (.c 1) (.v 7) (.v 8) (.v 9) (.c 0)
def usS:SI:=.wk .i64 (.op .add (.ap 3 (.v 0) frS (.c 0) (.c 0) (.c 0) (.c 0)) (.c 1))
def acS:SI:=stS (stS (stS (stS (stS (stS (stS (stS (.v 0) frS (.c 0) usS) frS (.c 1) (.c 1)) frS (.c 2) (.v 7)) frS (.c 3) (.v 8)) frS (.c 4) (.v 9)) frS (.c 5) (.c 0)) frS (.c 6) (.c 0)) frS (.c 7) (.c 0)
def erS (cs:List (SB×Bool)) (n:Int):Out:=⟨cs,.tp [.sn,.it .i64 (.c 0),.it .i64 (.c n)],[],0,0,[]⟩
def sAcq:Con:=⟨9,[0,1,2,3,4,5,6,7,8,9],[shV,lS,.it .i64 (.v 7),.it .i64 (.v 8),.it .i64 (.v 9)],gS,i64b 4::i64b 5::i64b 6::i64b 7::i64b 8::i64b 9::bS,fS,
 [erS [(.and chS.1 mAS,false)] 2,erS [(.and chS.1 mAS,true),(.le (.c 0) frS,false)] 300,
  ⟨[(.and chS.1 mAS,true),(.le (.c 0) frS,true)],.tp [.sl (.n 0) (.c 0) (.v 1) (.d 0),.it .i64 frS,.it .i64 (.c 0)],[(0,.arr kS acS (.v 1) 55 (.d 0))],1,1,[(.le (.v 1) (.d 0),true),(.lt frS (.v 1),true)]⟩]⟩
theorem fre_some {c n i:Int} (hn:n≤64) (h0:0≤i) (hi:i < n) (hp:fl c i.toNat 1≠1∧fl c i.toNat 1≠2∧fl c i.toNat 0 < 1099511627776) (h:∀ j:Nat,(j:Int) < i→¬ (fl c j 1≠1∧fl c j 1≠2∧fl c j 0 < 1099511627776)):freI c n=i:=by
 unfold freI;rw [Int.min_eq_left hn];exact fstI_some h0 hi hp h
theorem fre_none {c n:Int} (hn:n≤64) (h:∀ j:Nat,(j:Int) < n→¬ (fl c j 1≠1∧fl c j 1≠2∧fl c j 0 < 1099511627776)):freI c n=-1:=by
 unfold freI;rw [Int.min_eq_left hn];exact fstI_none h
theorem nfr_suc {c i:Int} (h:∀ j:Nat,(j:Int) < i→¬ (fl c j 1≠1∧fl c j 1≠2∧fl c j 0 < 1099511627776)) (h0:0≤i) (e:¬ (fl c i.toNat 1≠1∧fl c i.toNat 1≠2∧fl c i.toNat 0 < 1099511627776)):∀ j:Nat,(j:Int) < i+1→¬ (fl c j 1≠1∧fl c j 1≠2∧fl c j 0 < 1099511627776):=fun j hj=>by
 by_cases hj':(j:Int) < i
 ·exact h j hj'
 ·have:j=i.toNat:=by omega
  subst this;exact e
theorem mayB_1:mayB 1 0 0 0:=⟨fun h=>by omega,fun _=>⟨rfl,rfl,rfl⟩⟩
def sFre_T1:Tm:=⟨⟨33,19,[(8,(.it .i64 (.v 24))),(7,(.it .i64 (.v 1))),(0,(.sl (.k 0) (.v 2) (.v 1) (.v 3))),(1,(.fn 34 [] []))],[(.code (atC Tryz.f33 [1,0,1,0,0])),(.inLoop (atC Tryz.f33 [1,0,1,0,0])),(.inBlock 0),(.code (atC Tryz.f33 [1,1]))],[],.none⟩,[],
    ⟨[],0,0,0,[((.le (.v 1) (.v 3)),.true),((.le (.c 0) (.v 3)),.true)],[1,0],[(1,(0,64)),(2,(0,(-1))),(24,(0,(-1)))]⟩,[24]⟩
def sFre_L0:List Lf:=
 [(.cut ([((.le (.v 1) (.v 3)),.true),((.le (.c 0) (.v 3)),.true)]) 1 ⟨⟨[(24,(.c 0))],[]⟩,[],[],[]⟩ [] (shT sFre_T1 ⟨⟨[(24,(.c 0))],[]⟩,[],[],[]⟩))]
def sFre_L1:List Lf:=
 let x0_:SI:=(.ap 3 (.v 0) (.v 24) (.c 1) (.c 0) (.c 0) (.c 0))
 let x1_:SI:=(.ap 3 (.v 0) (.v 24) (.c 0) (.c 0) (.c 0) (.c 0))
 let x2_:SI:=(.ap 21 (.v 0) (.v 1) (.c 0) (.c 0) (.c 0) (.c 0))
 let f0_:List (SB×Bool):=[((.le (.v 1) (.v 3)),.true),((.le (.c 0) (.v 3)),.true)]
 let f1_:List (SB×Bool):=((.lt (.v 24) (.v 1)),.true)::f0_
 let f2_:List (SB×Bool):=((.eq x0_ (.c 1)),.false)::f1_
 let f3_:List (SB×Bool):=((.eq x0_ (.c 2)),.false)::f2_
 [(.cut (((.eq x0_ (.c 1)),.true)::f1_) 1 ⟨⟨[(24,(.op .add (.v 24) (.c 1)))],[]⟩,[],[],[]⟩ [] (shT sFre_T1 ⟨⟨[(24,(.op .add (.v 24) (.c 1)))],[]⟩,[],[],[]⟩)),
  (.cut (((.eq x0_ (.c 2)),.true)::f2_) 1 ⟨⟨[(24,(.op .add (.v 24) (.c 1)))],[]⟩,[],[],[]⟩ [] (shT sFre_T1 ⟨⟨[(24,(.op .add (.v 24) (.c 1)))],[]⟩,[],[],[]⟩)),
  (.fin (((.lt x1_ (.c 1099511627776)),.true)::f3_) 0 ⟨⟨[],[]⟩,[],[],[]⟩ [(.ei (.ap 21 (.v 0) (.v 1) (.c 0) (.c 0) (.c 0) (.c 0)) (.v 24)),(.fa (.lt x2_ (.v 1)) .true)] []),
  (.cut (((.lt x1_ (.c 1099511627776)),.false)::f3_) 1 ⟨⟨[(24,(.op .add (.v 24) (.c 1)))],[]⟩,[],[],[]⟩ [] (shT sFre_T1 ⟨⟨[(24,(.op .add (.v 24) (.c 1)))],[]⟩,[],[],[]⟩)),
  (.fin (((.lt (.v 24) (.v 1)),.false)::f0_) 0 ⟨⟨[],[]⟩,[],[],[]⟩ [(.ei (.ap 21 (.v 0) (.v 1) (.c 0) (.c 0) (.c 0) (.c 0)) (.c (-1))),(.fa (.lt x2_ (.v 1)) .true)] [])]
def sFre_run (T:Tm):=(ex (ccOf Tryz.prog BF [55,53,52,54] sFre) ((fun _=>[]) (ccOf Tryz.prog BF [55,53,52,54] sFre)) (dw (ccOf Tryz.prog BF [55,53,52,54] sFre) ((fun _=>[]) (ccOf Tryz.prog BF [55,53,52,54] sFre)) 1000 4) (stopX []) 4000 T.f T.fs T.H).lfs (ccOf Tryz.prog BF [55,53,52,54] sFre) ((tm0 sFre Tryz.f33 (Tryz.f33.body.getD .skip))::[sFre_T1]) sFre.os
theorem sFre_h0:sFre_run (tm0 sFre Tryz.f33 (Tryz.f33.body.getD .skip))=some sFre_L0:=by kernel_rfl
theorem sFre_h1:sFre_run sFre_T1=some sFre_L1:=by kernel_rfl
def sFre_inv:(Nat→Int)→(Nat→Bool)→Nat→(Nat→Int)→(Nat→Bool)→Prop:=fun iv0 _ k iv _=>match k with | 0=>True | _=>0≤iv 24∧iv 24≤iv0 1∧∀ j:Nat,(j:Int) < iv 24→¬ (fl (iv0 0) j 1≠1∧fl (iv0 0) j 1≠2∧fl (iv0 0) j 0 < 1099511627776)
def sFre_mu:(Nat→Int)→(Nat→Bool)→Nat→(Nat→Int)→(Nat→Bool)→Nat:=fun iv0 _ k iv _=>match k with | 0=>2 ^ 90 | _=>(iv0 1 - iv 24).toNat
theorem sFre_b {iv0:Nat→Int} (hin:InB sFre.B iv0):(0≤iv0 1∧iv0 1≤64)∧0≤iv0 2:=by
 have b1:=hin 1 0 64 (by simp [sFre,kS,slV,mayV,i64s,i64b,lmap,lS,gS,bS,fS,bdS,shV,o1,frS,stS,chS,mAS,usS,acS,erS])
 simp only [Int.reduceLE,reduceIte,Int.reduceNeg] at b1
 have b2:=hin 2 0 (-1) (by simp [sFre,kS,slV,mayV,i64s,i64b,lmap,lS,gS,bS,fS,bdS,shV,o1,frS,stS,chS,mAS,usS,acS,erS])
 simp only [Int.reduceLE,reduceIte,Int.reduceNeg] at b2
 exact ⟨b1,b2.1⟩
def sFre_ob (k:Nat) (l:List Lf):Prop:=∀ (kv:Kv) (iv0:Nat→Int) (bv0:Nat→Bool),InB sFre.B iv0→FT (sta FI FB kv iv0 bv0) (dlt dyn0) sFre.F→∀ (iv:Nat→Int) (bv:Nat→Bool),Agr 4 iv0 bv0 iv bv→sFre_inv iv0 bv0 k iv bv→∀ lf∈l,LfT (sta FI FB kv) sFre.os (sFre_inv iv0 bv0) (sFre_mu iv0 bv0) k iv bv lf
theorem sFre_o0:sFre_ob 0 sFre_L0:=by
 intro kv iv0 bv0 hin hF iv bv ha hi
 unfold sFre_L0
 refine List.forall_mem_cons.2 ⟨?_,List.forall_mem_nil _⟩
 all_goals
  intro δ hf
 all_goals
  obtain ⟨b1,b2⟩:=sFre_b hin
 all_goals
  have a0:=ha.1 0 (by omega)
  have a1:=ha.1 1 (by omega)
  have a2:=ha.1 2 (by omega)
  have a3:=ha.1 3 (by omega)
 all_goals
  simp only [FT,TP,SB.tp,SI.tv,sta,IB.eval,and_true,true_and,ObsT,Ob.Tv,rowT,kix,In.tiv,↓tbvT,In.tbv,get_cons,get_nil,reduceIte,Nat.reduceEqDiff,Int.reduceToNat,Int.reduceAdd,Int.reduceSub,Int.reduceLE,Int.reduceLT,Int.reduceEq,ne_eq,Bool.false_eq_true,not_true_eq_false,not_false_eq_true,true_iff,false_iff,iff_true,iff_false,false_implies,implies_true,decT,decide_true,decide_false,Bool.decide_eq_true,ap2,pb2,FI_3,FI_3u,FI_8,FI_9,FI_3g,FI_3k,FI_8s,FI_8l,FI_8d,FB_1h,FB_1a,Int.toNat_natCast,Int.toNat_zero,FI_21,FB_21,sFre_inv,sFre_mu,sFre,o1,othT,kS,slV,mayV,i64s,i64b,lmap,lS,gS,bS,fS,bdS,shV,o1,frS,stS,chS,mAS,usS,acS,erS,a0,a1,a2,a3] at hf hi ⊢
 all_goals
  (repeat' (with_reducible apply And.intro))<;>first
  | omega
  | assumption
  | (unfold inM;omega)
  | exact trivial
  | (intro j hj;omega)
  | (clear hin hF ha;grind)
theorem sFre_o1:sFre_ob 1 sFre_L1:=by
 intro kv iv0 bv0 hin hF iv bv ha hi
 unfold sFre_L1
 refine List.forall_mem_cons.2 ⟨?_,List.forall_mem_cons.2 ⟨?_,List.forall_mem_cons.2 ⟨?_,List.forall_mem_cons.2 ⟨?_,List.forall_mem_cons.2 ⟨?_,List.forall_mem_nil _⟩⟩⟩⟩⟩
 all_goals
  intro δ hf
 all_goals
  obtain ⟨b1,b2⟩:=sFre_b hin
 all_goals
  have a0:=ha.1 0 (by omega)
  have a1:=ha.1 1 (by omega)
  have a2:=ha.1 2 (by omega)
  have a3:=ha.1 3 (by omega)
 all_goals
  simp only [FT,TP,SB.tp,SI.tv,sta,IB.eval,and_true,true_and,ObsT,Ob.Tv,rowT,kix,In.tiv,↓tbvT,In.tbv,get_cons,get_nil,reduceIte,Nat.reduceEqDiff,Int.reduceToNat,Int.reduceAdd,Int.reduceSub,Int.reduceLE,Int.reduceLT,Int.reduceEq,ne_eq,Bool.false_eq_true,not_true_eq_false,not_false_eq_true,true_iff,false_iff,iff_true,iff_false,false_implies,implies_true,decT,decide_true,decide_false,Bool.decide_eq_true,ap2,pb2,FI_3,FI_3u,FI_8,FI_9,FI_3g,FI_3k,FI_8s,FI_8l,FI_8d,FB_1h,FB_1a,Int.toNat_natCast,Int.toNat_zero,FI_21,FB_21,sFre_inv,sFre_mu,sFre,o1,othT,kS,slV,mayV,i64s,i64b,lmap,lS,gS,bS,fS,bdS,shV,o1,frS,stS,chS,mAS,usS,acS,erS,a0,a1,a2,a3] at hf hi ⊢
 all_goals
  obtain ⟨g0,g1,g2⟩:=hi
 all_goals
  have e1:=fun h1 h2=>fre_some (c:=iv0 0) (n:=iv0 1) (by omega) g0 h1 h2 g2
 all_goals
  have e2:=fun h=>fre_none (c:=iv0 0) (n:=iv0 1) (by omega) h
 all_goals
  have e3:=nfr_suc g2 g0
 all_goals
  (repeat' (with_reducible apply And.intro))<;>first
  | omega
  | assumption
  | (unfold inM;omega)
  | (exact e3 (by omega))
  | (have:=e1 (by omega) (by omega);omega)
  | (have:=e2 (fun j hj=>g2 j (by omega));omega)
theorem sFre_c:LsC ((tm0 sFre Tryz.f33 (Tryz.f33.body.getD .skip))::[sFre_T1]) sFre.os [sFre_L0,sFre_L1]:=by
 unfold sFre_L0 sFre_L1
 exact ⟨List.forall_mem_cons.2 ⟨⟨⟨_,rfl,rfl⟩,by kernel_rfl⟩,List.forall_mem_nil _⟩,List.forall_mem_cons.2 ⟨⟨⟨_,rfl,rfl⟩,by kernel_rfl⟩,List.forall_mem_cons.2 ⟨⟨⟨_,rfl,rfl⟩,by kernel_rfl⟩,List.forall_mem_cons.2 ⟨⟨⟨_,rfl,rfl⟩,by kernel_rfl⟩,List.forall_mem_cons.2 ⟨⟨⟨_,rfl,rfl⟩,by kernel_rfl⟩,List.forall_mem_cons.2 ⟨⟨⟨_,rfl,rfl⟩,by kernel_rfl⟩,List.forall_mem_nil _⟩⟩⟩⟩⟩,trivial⟩
theorem sFre_ok:sFre.Ok Tryz.prog FI FB:=
 Con.of_plain (body:=Tryz.f33.body.getD .skip) pok fiok EntsFor.nil sFre Tryz.func33 (by kernel_rfl) 4 [sFre_T1] (by kernel_rfl) [sFre_L0,sFre_L1] ⟨sFre_h0,sFre_h1,trivial⟩ sFre_c
  sFre_inv sFre_mu (fun _ _ _=>trivial) fun kv iv0 bv0 hin hF k l iv bv hk ha hi=>match k,hk,hi with
  | 0,hk,hi=>by
    cases hk
    exact sFre_o0 kv iv0 bv0 hin hF iv bv ha hi
  | 1,hk,hi=>by
    cases hk
    exact sFre_o1 kv iv0 bv0 hin hF iv bv ha hi
  | k+2,hk,_=>by simp at hk
def sAcq_L0:List Lf:=
 let x0_:SI:=(.ap 20 (.v 0) (.v 1) (.c 0) (.c 0) (.c 0) (.c 0))
 let x1_:SI:=(.ap 21 (.v 0) (.v 1) (.c 0) (.c 0) (.c 0) (.c 0))
 let p2_:SB×Bool:=((.lt x0_ (.v 1)),.true)
 let p3_:SB×Bool:=((.le (.c (-1)) x0_),.true)
 let f0_:List (SB×Bool):=[((.le (.v 1) (.v 3)),.true),((.le (.c 0) (.v 3)),.true)]
 let f1_:List (SB×Bool):=((.le (.c 1) (.v 4)),.true)::f0_
 let f2_:List (SB×Bool):=((.le (.v 4) (.c 64)),.true)::f1_
 let f3_:List (SB×Bool):=((.le (.c 1) (.v 5)),.true)::f2_
 let f4_:List (SB×Bool):=((.le (.v 5) (.c 8)),.true)::f3_
 let f5_:List (SB×Bool):=((.le (.c 1) (.v 6)),.true)::f4_
 let f6_:List (SB×Bool):=((.le (.v 6) (.c 4)),.true)::f5_
 let f7_:List (SB×Bool):=((.eq (.v 1) (.v 6)),.true)::f6_
 let f8_:List (SB×Bool):=((.le (.c 0) x0_),.false)::f7_
 let f9_:List (SB×Bool):=((.ap 20 (.c 1) (.c 1) (.v 7) (.v 8) (.v 9) (.c 0)),.true)::f8_
 let f10_:List (SB×Bool):=((.lt x1_ (.v 1)),.true)::((.le (.c (-1)) x1_),.true)::p2_::p3_::((.ap 21 (.c 1) (.c 0) (.c 0) (.c 0) (.c 0) (.c 0)),.true)::f9_
 [(.fin (p2_::p3_::((.le (.c 0) x0_),.true)::f7_) 0 ⟨⟨[],[]⟩,[],[],[]⟩ [] []),
  (.fin (((.le (.v 1) (.d 0)),.true)::((.le (.c 0) x1_),.true)::f10_) 2 ⟨⟨[],[]⟩,[(0,12)],[(0,(.d 0))],[]⟩ [] [.none]),
  (.fin (((.le (.c 0) x1_),.false)::f10_) 1 ⟨⟨[],[]⟩,[],[],[]⟩ [] []),
  (.fin (p2_::p3_::((.ap 21 (.c 1) (.c 0) (.c 0) (.c 0) (.c 0) (.c 0)),.false)::f9_) 0 ⟨⟨[],[]⟩,[],[],[]⟩ [] []),
  (.fin (p2_::p3_::((.ap 20 (.c 1) (.c 1) (.v 7) (.v 8) (.v 9) (.c 0)),.false)::f8_) 0 ⟨⟨[],[]⟩,[],[],[]⟩ [] []),
  (.fin (((.eq (.v 1) (.v 6)),.false)::f6_) 0 ⟨⟨[],[]⟩,[],[],[]⟩ [] []),
  (.fin (((.le (.v 6) (.c 4)),.false)::f5_) 0 ⟨⟨[],[]⟩,[],[],[]⟩ [] []),
  (.fin (((.le (.c 1) (.v 6)),.false)::f4_) 0 ⟨⟨[],[]⟩,[],[],[]⟩ [] []),
  (.fin (((.le (.v 5) (.c 8)),.false)::f3_) 0 ⟨⟨[],[]⟩,[],[],[]⟩ [] []),
  (.fin (((.le (.c 1) (.v 5)),.false)::f2_) 0 ⟨⟨[],[]⟩,[],[],[]⟩ [] []),
  (.fin (((.le (.v 4) (.c 64)),.false)::f1_) 0 ⟨⟨[],[]⟩,[],[],[]⟩ [] []),
  (.fin (((.le (.c 1) (.v 4)),.false)::f0_) 0 ⟨⟨[],[]⟩,[],[],[]⟩ [] [])]
def sAcq_run (T:Tm):=(ex (ccOf Tryz.prog BF [55,53,52,54] sAcq) ((fun cc=>[sMay.ent cc,sBad.ent cc,sFre.ent cc]) (ccOf Tryz.prog BF [55,53,52,54] sAcq)) (dw (ccOf Tryz.prog BF [55,53,52,54] sAcq) ((fun cc=>[sMay.ent cc,sBad.ent cc,sFre.ent cc]) (ccOf Tryz.prog BF [55,53,52,54] sAcq)) 1000 4) (stopX [60,66,89,91,58]) 20000 T.f T.fs T.H).lfs (ccOf Tryz.prog BF [55,53,52,54] sAcq) ((tm0 sAcq Tryz.f9 (Tryz.f9.body.getD .skip))::[]) sAcq.os
theorem sAcq_h0:sAcq_run (tm0 sAcq Tryz.f9 (Tryz.f9.body.getD .skip))=some sAcq_L0:=by kernel_rfl
def sAcq_inv:(Nat→Int)→(Nat→Bool)→Nat→(Nat→Int)→(Nat→Bool)→Prop:=fun _ _ _ _ _=>True
def sAcq_mu:(Nat→Int)→(Nat→Bool)→Nat→(Nat→Int)→(Nat→Bool)→Nat:=fun _ _ _ _ _=>0
theorem sAcq_b {iv0:Nat→Int} (hin:InB sAcq.B iv0):(0≤iv0 1∧iv0 1≤64)∧0≤iv0 2∧((-9223372036854775808)≤iv0 4∧iv0 4≤9223372036854775807)∧((-9223372036854775808)≤iv0 5∧iv0 5≤9223372036854775807)∧((-9223372036854775808)≤iv0 6∧iv0 6≤9223372036854775807)∧((-9223372036854775808)≤iv0 7∧iv0 7≤9223372036854775807)∧((-9223372036854775808)≤iv0 8∧iv0 8≤9223372036854775807)∧((-9223372036854775808)≤iv0 9∧iv0 9≤9223372036854775807):=by
 have b1:=hin 1 0 64 (by simp [sAcq,kS,slV,mayV,i64s,i64b,lmap,lS,gS,bS,fS,bdS,shV,o1,frS,stS,chS,mAS,usS,acS,erS])
 simp only [Int.reduceLE,reduceIte,Int.reduceNeg] at b1
 have b2:=hin 2 0 (-1) (by simp [sAcq,kS,slV,mayV,i64s,i64b,lmap,lS,gS,bS,fS,bdS,shV,o1,frS,stS,chS,mAS,usS,acS,erS])
 simp only [Int.reduceLE,reduceIte,Int.reduceNeg] at b2
 have b4:=hin 4 (-9223372036854775808) 9223372036854775807 (by simp [sAcq,kS,slV,mayV,i64s,i64b,lmap,lS,gS,bS,fS,bdS,shV,o1,frS,stS,chS,mAS,usS,acS,erS])
 simp only [Int.reduceLE,reduceIte,Int.reduceNeg] at b4
 have b5:=hin 5 (-9223372036854775808) 9223372036854775807 (by simp [sAcq,kS,slV,mayV,i64s,i64b,lmap,lS,gS,bS,fS,bdS,shV,o1,frS,stS,chS,mAS,usS,acS,erS])
 simp only [Int.reduceLE,reduceIte,Int.reduceNeg] at b5
 have b6:=hin 6 (-9223372036854775808) 9223372036854775807 (by simp [sAcq,kS,slV,mayV,i64s,i64b,lmap,lS,gS,bS,fS,bdS,shV,o1,frS,stS,chS,mAS,usS,acS,erS])
 simp only [Int.reduceLE,reduceIte,Int.reduceNeg] at b6
 have b7:=hin 7 (-9223372036854775808) 9223372036854775807 (by simp [sAcq,kS,slV,mayV,i64s,i64b,lmap,lS,gS,bS,fS,bdS,shV,o1,frS,stS,chS,mAS,usS,acS,erS])
 simp only [Int.reduceLE,reduceIte,Int.reduceNeg] at b7
 have b8:=hin 8 (-9223372036854775808) 9223372036854775807 (by simp [sAcq,kS,slV,mayV,i64s,i64b,lmap,lS,gS,bS,fS,bdS,shV,o1,frS,stS,chS,mAS,usS,acS,erS])
 simp only [Int.reduceLE,reduceIte,Int.reduceNeg] at b8
 have b9:=hin 9 (-9223372036854775808) 9223372036854775807 (by simp [sAcq,kS,slV,mayV,i64s,i64b,lmap,lS,gS,bS,fS,bdS,shV,o1,frS,stS,chS,mAS,usS,acS,erS])
 simp only [Int.reduceLE,reduceIte,Int.reduceNeg] at b9
 exact ⟨b1,b2.1,b4,b5,b6,b7,b8,b9⟩
def sAcq_ob (k:Nat) (l:List Lf):Prop:=∀ (kv:Kv) (iv0:Nat→Int) (bv0:Nat→Bool),InB sAcq.B iv0→FT (sta FI FB kv iv0 bv0) (dlt dyn0) sAcq.F→∀ (iv:Nat→Int) (bv:Nat→Bool),Agr 10 iv0 bv0 iv bv→sAcq_inv iv0 bv0 k iv bv→∀ lf∈l,LfT (sta FI FB kv) sAcq.os (sAcq_inv iv0 bv0) (sAcq_mu iv0 bv0) k iv bv lf
theorem sAcq_o0:sAcq_ob 0 sAcq_L0:=by
 intro kv iv0 bv0 hin hF iv bv ha hi
 unfold sAcq_L0
 refine List.forall_mem_cons.2 ⟨?_,List.forall_mem_cons.2 ⟨?_,List.forall_mem_cons.2 ⟨?_,List.forall_mem_cons.2 ⟨?_,List.forall_mem_cons.2 ⟨?_,List.forall_mem_cons.2 ⟨?_,List.forall_mem_cons.2 ⟨?_,List.forall_mem_cons.2 ⟨?_,List.forall_mem_cons.2 ⟨?_,List.forall_mem_cons.2 ⟨?_,List.forall_mem_cons.2 ⟨?_,List.forall_mem_cons.2 ⟨?_,List.forall_mem_nil _⟩⟩⟩⟩⟩⟩⟩⟩⟩⟩⟩⟩
 all_goals
  intro δ hf
 all_goals
  obtain ⟨b1,b2,b4,b5,b6,b7,b8,b9⟩:=sAcq_b hin
 all_goals
  have a0:=ha.1 0 (by omega)
  have a1:=ha.1 1 (by omega)
  have a2:=ha.1 2 (by omega)
  have a3:=ha.1 3 (by omega)
  have a4:=ha.1 4 (by omega)
  have a5:=ha.1 5 (by omega)
  have a6:=ha.1 6 (by omega)
  have a7:=ha.1 7 (by omega)
  have a8:=ha.1 8 (by omega)
  have a9:=ha.1 9 (by omega)
 all_goals
  simp only [FT,TP,SB.tp,SI.tv,sta,IB.eval,and_true,true_and,ObsT,Ob.Tv,rowT,kix,In.tiv,↓tbvT,In.tbv,get_cons,get_nil,reduceIte,Nat.reduceEqDiff,Int.reduceToNat,Int.reduceAdd,Int.reduceSub,Int.reduceLE,Int.reduceLT,Int.reduceEq,ne_eq,Bool.false_eq_true,not_true_eq_false,not_false_eq_true,true_iff,false_iff,iff_true,iff_false,false_implies,implies_true,decT,decide_true,decide_false,Bool.decide_eq_true,ap2,pb2,FI_3,FI_3u,FI_8,FI_9,FI_3g,FI_3k,FI_8s,FI_8l,FI_8d,FB_1h,FB_1a,Int.toNat_natCast,Int.toNat_zero,FI_20,FI_21,FI_22,FB_20,FB_21,FB_22,sAcq_inv,sAcq_mu,sAcq,o1,othT,kS,slV,mayV,i64s,i64b,lmap,lS,gS,bS,fS,bdS,shV,o1,frS,stS,chS,mAS,usS,acS,erS,a0,a1,a2,a3,a4,a5,a6,a7,a8,a9] at hf hi ⊢
 all_goals
  have e1:=@chk_0 (iv0 0) (iv0 1) (iv0 4) (iv0 5) (iv0 6)
 all_goals
  have e2:=@chk_2 (iv0 0) (iv0 1) (iv0 4) (iv0 5) (iv0 6)
 all_goals
  unfold shpS at e1 e2
 all_goals
  have e3:=mayB_1
 all_goals
  (repeat' (with_reducible apply And.intro))<;>first
  | omega
  | assumption
  | (unfold inM;omega)
  | exact trivial
  | (clear hin hF ha;grind)
theorem sAcq_c:LsC ((tm0 sAcq Tryz.f9 (Tryz.f9.body.getD .skip))::[]) sAcq.os [sAcq_L0]:=by
 unfold sAcq_L0
 exact ⟨List.forall_mem_cons.2 ⟨⟨⟨_,rfl,rfl⟩,by kernel_rfl⟩,List.forall_mem_cons.2 ⟨⟨⟨_,rfl,rfl⟩,by kernel_rfl⟩,List.forall_mem_cons.2 ⟨⟨⟨_,rfl,rfl⟩,by kernel_rfl⟩,List.forall_mem_cons.2 ⟨⟨⟨_,rfl,rfl⟩,by kernel_rfl⟩,List.forall_mem_cons.2 ⟨⟨⟨_,rfl,rfl⟩,by kernel_rfl⟩,List.forall_mem_cons.2 ⟨⟨⟨_,rfl,rfl⟩,by kernel_rfl⟩,List.forall_mem_cons.2 ⟨⟨⟨_,rfl,rfl⟩,by kernel_rfl⟩,List.forall_mem_cons.2 ⟨⟨⟨_,rfl,rfl⟩,by kernel_rfl⟩,List.forall_mem_cons.2 ⟨⟨⟨_,rfl,rfl⟩,by kernel_rfl⟩,List.forall_mem_cons.2 ⟨⟨⟨_,rfl,rfl⟩,by kernel_rfl⟩,List.forall_mem_cons.2 ⟨⟨⟨_,rfl,rfl⟩,by kernel_rfl⟩,List.forall_mem_cons.2 ⟨⟨⟨_,rfl,rfl⟩,by kernel_rfl⟩,List.forall_mem_nil _⟩⟩⟩⟩⟩⟩⟩⟩⟩⟩⟩⟩,trivial⟩
theorem sAcq_ok:sAcq.Ok Tryz.prog FI FB:=
 Con.of_plain (body:=Tryz.f9.body.getD .skip) pok fiok (EntsFor.cons sMay_ok (EntsFor.cons sBad_ok (EntsFor.cons sFre_ok EntsFor.nil))) sAcq Tryz.func9 (by kernel_rfl) 10 [] (by kernel_rfl) [sAcq_L0] ⟨sAcq_h0,trivial⟩ sAcq_c
  sAcq_inv sAcq_mu (fun _ _ _=>trivial) fun kv iv0 bv0 hin hF k l iv bv hk ha hi=>match k,hk,hi with
  | 0,hk,hi=>by
    cases hk
    exact sAcq_o0 kv iv0 bv0 hin hF iv bv ha hi
  | k+1,hk,_=>by simp at hk
end
end Go.Sx.Sl
