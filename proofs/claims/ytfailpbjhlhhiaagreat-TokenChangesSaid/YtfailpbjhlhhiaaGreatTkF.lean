/- Tokens: sites, lists, copies, by contract. -/
import Derived.Test.YtfailpbjhlhhiaaGreatTkC
namespace Go.Sx.Tk
set_option linter.unusedVariables false
set_option linter.unusedSimpArgs false
set_option maxRecDepth 100000
set_option maxHeartbeats 0
noncomputable section
open Go Go.Sx Go.Proofs
def sSites:Con:=⟨59,[0,1,2],[.ag (ints [0,1,2])],[],i64s [0,1,2],[],[⟨[((.ap 40 (.v 0) (.v 1) (.v 2) (.c 0) (.c 0) (.c 0)),true)],.tp [.it .i64 (.op .mul (.v 0) (.v 2)),.it .i64 (.c 0)],[],0,0,(.le (.c 1) (.v 0),true)::(.le (.v 0) (.c 64),true)::(.le (.c 1) (.v 1),true)::(.le (.v 1) (.c 8),true)::(.le (.c 1) (.v 2),true)::(.le (.v 2) (.c 4),true)::[]⟩,⟨[((.ap 40 (.v 0) (.v 1) (.v 2) (.c 0) (.c 0) (.c 0)),false)],.tp [.it .i64 (.c 0),.it .i64 (.c 2)],[],0,0,[]⟩],[]⟩
def cC1:Con:=⟨172,[0],[.fs 1 (.v 0)],[],[],[flF 0 300],o1 (.fs 1 (.v 0)),[]⟩
def cC3:Con:=⟨120,[0],[.fs 3 (.v 0)],[],[],[flF 0 300],o1 (.fs 3 (.v 0)),[]⟩
def cC4:Con:=⟨166,[0],[.fs 4 (.v 0)],[],[],[flF 0 300],o1 (.fs 4 (.v 0)),[]⟩
def tSites:Con:=⟨141,[0,1,2,3,4,5,6,7,8,9],[.ag [.it .i64 (.v 0),.fs 1 (.v 1),.fs 3 (.v 2),.fs 4 (.v 3),.it .i64 (.v 4),.it .i64 (.v 5),.it .u64 (.v 6),.it .i64 (.v 7),.it .i64 (.v 8),.it .i64 (.v 9)]],[],i64b 0::i64b 4::i64b 5::u64b 6::i64b 7::i64b 8::i64b 9::[],flF 1 300::flF 2 300::flF 3 300::[],[⟨[((.ap 42 (.v 7) (.v 8) (.v 9) (.v 1) (.v 0) (.c 0)),true)],.bo (.c true),[],0,0,(.le (.c 1) (.v 7),true)::(.le (.v 7) (.c 64),true)::(.le (.c 1) (.v 8),true)::(.le (.v 8) (.c 8),true)::(.le (.c 1) (.v 9),true)::(.le (.v 9) (.c 4),true)::(.eq (SI.fl (.v 1)) (.op .mul (.v 7) (.v 9)),true)::(.le (.c 0) (.v 0),true)::(.le (.v 0) (.c 1099511627776),true)::[]⟩,⟨[((.ap 42 (.v 7) (.v 8) (.v 9) (.v 1) (.v 0) (.c 0)),false)],.bo (.c false),[],0,0,[]⟩],[]⟩
def liF:List (SB×Bool):=((.ap 30 (.v 2) (SI.fl (.v 2)) (.c 0) (.c 0) (.c 0) (.c 0)),true)::((.ap 20 (.v 3) (SI.fl (.v 3)) (.c 0) (.c 0) (.c 0) (.c 0)),true)::flF 2 256::flF 3 256::[]
def tLists:Con:=⟨143,[0,1,2,3,4,5,6,7,8,9],[.ag [.it .i64 (.v 0),.fs 1 (.v 1),.fs 3 (.v 2),.fs 4 (.v 3),.it .i64 (.v 4),.it .i64 (.v 5),.it .u64 (.v 6),.it .i64 (.v 7),.it .i64 (.v 8),.it .i64 (.v 9)]],[],i64b 0::i64b 4::i64b 5::u64b 6::i64b 7::i64b 8::i64b 9::[],flF 1 300::flF 2 300::flF 3 300::[],[⟨[((.ap 43 (.v 1) (.v 2) (.v 3) (.c 0) (.c 0) (.c 0)),true)],.bo (.c true),[],0,0,liF⟩,⟨[((.ap 43 (.v 1) (.v 2) (.v 3) (.c 0) (.c 0) (.c 0)),false)],.bo (.c false),[],0,0,[]⟩],[]⟩
def sSites_T1:Tm:=⟨⟨232,19,[(8,(.it .i64 (.c 0))),(7,(.it .i64 (.c 0))),(0,.sn),(1,(.fn 199 [] []))],[(.code (atC Tryz.f232 [1,0,1,0,0])),(.inLoop (atC Tryz.f232 [1,0,1,0,0])),(.inBlock 0),(.code (atC Tryz.f232 [1,1]))],[],.none⟩,[⟨198,9,[(6,(.fn 199 [] [])),(5,.sn)],[(.inRegion (opsC (atC Tryz.f198 [1,0])) [2,3,4]),(.code Code.ret)],[],.none⟩,⟨132,12,[(9,.sn),(4,(.it .i64 (.c 4))),(8,(.bo (.not (.le (.v 2) (.c 4))))),(7,(.bo (.le (.v 2) (.c 4)))),(6,(.ag [(.it .i64 (.v 0)),(.it .i64 (.v 1)),(.it .i64 (.v 2))])),(5,(.ag [(.it .i64 (.v 0)),(.it .i64 (.v 1)),(.it .i64 (.v 2))])),(2,(.pt (.n 6) (.c 0))),(0,(.ag [(.it .i64 (.v 0)),(.it .i64 (.v 1)),(.it .i64 (.v 2))])),(1,.sn)],[(.inRegion (opsC (atC Tryz.f132 [1,0,1,0,1,0])) [1]),(.code (atC Tryz.f132 [1,0,1,0,1,1])),(.code (atC Tryz.f132 [1,0,1,1])),(.inScope (atC Tryz.f132 [1,0]))],[],.none⟩,⟨195,5,[(3,(.ag [(.it .i64 (.v 0)),(.it .i64 (.v 1)),(.it .i64 (.v 2))]))],[(.inRegion (opsC (atC Tryz.f195 [1,0])) [1,2]),(.code Code.ret)],[],.none⟩,⟨194,26,[(6,(.ag [(.it .i64 (.v 0)),(.it .i64 (.v 1)),(.it .i64 (.v 2))])),(0,(.yl 4)),(1,(.pt (.n 2) (.c 0)))],[(.inRegion (opsC (atC Tryz.f194 [0,0,0])) [1,2]),(.code (atC Tryz.f194 [0,0,1])),(.code (atC Tryz.f194 [0,1])),(.inScope (atC Tryz.f194 [0]))],[],.none⟩,⟨59,13,[(2,(.pt (.n 1) (.c 0))),(1,(.pt (.n 0) (.c 0)))],[(.inRangeFunc 4),(.inBlock 0),(.code (atC Tryz.f59 [1,1]))],[3],.none⟩],
    ⟨[(0,(.cells [(.it .i64 (.v 0)),(.it .i64 (.v 1)),(.it .i64 (.v 2))] 23)),(1,(.cells [(.it .i64 (.c 0))] 3)),(2,(.cells [(.it .i64 (.v 0)),(.it .i64 (.v 1)),(.it .i64 (.v 2))] 23)),(3,.dfr),(4,(.loop .ready .none 59 13 [(2,(.pt (.n 1) (.c 0)))] #[6,7] Code.skip (atC Tryz.f59 [1,0,1,0,1]) 3)),(6,(.cells [(.it .i64 (.v 0)),(.it .i64 (.v 1)),(.it .i64 (.v 2))] 23))],7,0,0,[((.le (.v 2) (.c 4)),.true),((.le (.c 1) (.v 2)),.true),((.le (.v 1) (.c 8)),.true),((.le (.c 1) (.v 1)),.true),((.le (.v 0) (.c 64)),.true),((.le (.c 1) (.v 0)),.true)],[0],[(2,(1,4)),(2,(1,9223372036854775807)),(1,(1,8)),(1,(1,9223372036854775807)),(0,(1,64)),(0,(1,9223372036854775807)),(0,((-9223372036854775808),9223372036854775807)),(1,((-9223372036854775808),9223372036854775807)),(2,((-9223372036854775808),9223372036854775807))]⟩,[]⟩
def sSites_T2:Tm:=⟨⟨194,26,[(15,(.it .i64 (.v 23))),(14,(.it .i64 (.op .mul (.v 0) (.v 2)))),(4,(.fn 196 [(.ag [(.it .i64 (.v 0)),(.it .i64 (.v 1)),(.it .i64 (.v 2))])] [])),(0,(.yl 4))],[(.code (atC Tryz.f194 [0,1,1,1,1,1,0,0])),(.inLoop (atC Tryz.f194 [0,1,1,1,1,1,0,0])),(.inBlock 0),(.inScope (atC Tryz.f194 [0]))],[],.none⟩,[⟨59,13,[(2,(.pt (.n 1) (.c 0))),(1,(.pt (.n 0) (.c 0)))],[(.inRangeFunc 4),(.inBlock 0),(.code (atC Tryz.f59 [1,1]))],[3],.none⟩],
    ⟨[(0,(.cells [(.it .i64 (.v 0)),(.it .i64 (.v 1)),(.it .i64 (.v 2))] 23)),(1,(.cells [(.it .i64 (.v 23))] 3)),(3,.dfr),(4,(.loop .ready .none 59 13 [(2,(.pt (.n 1) (.c 0)))] #[6,7] Code.skip (atC Tryz.f59 [1,0,1,0,1]) 3))],5,0,0,[((.le (.v 2) (.c 4)),.true),((.le (.c 1) (.v 2)),.true),((.le (.v 1) (.c 8)),.true),((.le (.c 1) (.v 1)),.true),((.le (.v 0) (.c 64)),.true),((.le (.c 1) (.v 0)),.true)],[0],[(2,(1,4)),(1,(1,8)),(0,(1,64)),(23,(0,(-1)))]⟩,[23]⟩
def sSites_L0:List Lf:=
 let f0_:List (SB×Bool):=[((.le (.v 0) (.c 64)),.true),((.le (.c 1) (.v 0)),.true)]
 let f1_:List (SB×Bool):=((.le (.c 1) (.v 1)),.true)::f0_
 let f2_:List (SB×Bool):=((.le (.v 1) (.c 8)),.true)::f1_
 let f3_:List (SB×Bool):=((.le (.c 1) (.v 2)),.true)::f2_
 [(let i_:In:=⟨⟨[],[]⟩,[(3,3),(0,0),(1,1),(2,2),(4,4),(6,6)],[],[]⟩;.cut (((.le (.v 2) (.c 4)),.true)::f3_) 1 i_ [] (shT sSites_T1 i_)),
  (.fin (((.le (.v 2) (.c 4)),.false)::f3_) 1 ⟨⟨[],[]⟩,[],[],[]⟩ [] []),
  (.fin (((.le (.c 1) (.v 2)),.false)::f2_) 1 ⟨⟨[],[]⟩,[],[],[]⟩ [] []),
  (.fin (((.le (.v 1) (.c 8)),.false)::f1_) 1 ⟨⟨[],[]⟩,[],[],[]⟩ [] []),
  (.fin (((.le (.c 1) (.v 1)),.false)::f0_) 1 ⟨⟨[],[]⟩,[],[],[]⟩ [] []),
  (.fin ([((.le (.v 0) (.c 64)),.false),((.le (.c 1) (.v 0)),.true)]) 1 ⟨⟨[],[]⟩,[],[],[]⟩ [] []),
  (.fin ([((.le (.c 1) (.v 0)),.false)]) 1 ⟨⟨[],[]⟩,[],[],[]⟩ [] [])]
def sSites_L1:List Lf:=
 [(let i_:In:=⟨⟨[(23,(.c 0))],[]⟩,[(3,3),(0,0),(1,1),(4,4)],[],[]⟩;.cut ([((.le (.v 2) (.c 4)),.true),((.le (.c 1) (.v 2)),.true),((.le (.v 1) (.c 8)),.true),((.le (.c 1) (.v 1)),.true),((.le (.v 0) (.c 64)),.true),((.le (.c 1) (.v 0)),.true)]) 2 i_ [] (shT sSites_T2 i_))]
def sSites_L2:List Lf:=
 let f0_:List (SB×Bool):=[((.le (.v 2) (.c 4)),.true),((.le (.c 1) (.v 2)),.true),((.le (.v 1) (.c 8)),.true),((.le (.c 1) (.v 1)),.true),((.le (.v 0) (.c 64)),.true),((.le (.c 1) (.v 0)),.true)]
 [(let i_:In:=⟨⟨[(23,(.op .add (.v 23) (.c 1)))],[]⟩,[(3,3),(0,0),(1,1),(4,4)],[],[]⟩;.cut (((.lt (.v 23) (.op .mul (.v 0) (.v 2))),.true)::f0_) 2 i_ [] (shT sSites_T2 i_)),
  (.fin (((.lt (.v 23) (.op .mul (.v 0) (.v 2))),.false)::f0_) 0 ⟨⟨[],[]⟩,[],[],[]⟩ [(.ei (.op .mul (.v 0) (.v 2)) (.v 23))] [])]
def sSites_run (T:Tm):=(ex (ccOf Tryz.prog BF [29,73,75,100] sSites) ((fun _=>[]) (ccOf Tryz.prog BF [29,73,75,100] sSites)) (dw (ccOf Tryz.prog BF [29,73,75,100] sSites) ((fun _=>[]) (ccOf Tryz.prog BF [29,73,75,100] sSites)) 1000 4) (stopX []) 4000 T.f T.fs T.H).lfs (ccOf Tryz.prog BF [29,73,75,100] sSites) ((tm0 sSites Tryz.f59 (Tryz.f59.body.getD .skip))::[sSites_T1,sSites_T2]) sSites.os
theorem sSites_h0:sSites_run (tm0 sSites Tryz.f59 (Tryz.f59.body.getD .skip))=some sSites_L0:=by kernel_rfl
theorem sSites_h1:sSites_run sSites_T1=some sSites_L1:=by kernel_rfl
theorem sSites_h2:sSites_run sSites_T2=some sSites_L2:=by kernel_rfl
def sSites_inv:(Nat→Int)→(Nat→Bool)→Nat→(Nat→Int)→(Nat→Bool)→Prop:=fun iv0 _ k iv _=>match k with | 0=>True | 1=>True | _=>0≤iv 23∧iv 23≤iv0 0 * iv0 2
def sSites_mu:(Nat→Int)→(Nat→Bool)→Nat→(Nat→Int)→(Nat→Bool)→Nat:=fun iv0 _ k iv _=>match k with | 0=>2 ^ 90 | 1=>2 ^ 80 | _=>(iv0 0 * iv0 2 - iv 23).toNat
theorem sSites_b {iv0:Nat→Int} (hin:InB sSites.B iv0):((-9223372036854775808)≤iv0 0∧iv0 0≤9223372036854775807)∧((-9223372036854775808)≤iv0 1∧iv0 1≤9223372036854775807)∧((-9223372036854775808)≤iv0 2∧iv0 2≤9223372036854775807):=by
 have b0:=hin 0 (-9223372036854775808) 9223372036854775807 (by simp [sSites,o1,u64b,liF,flF,fH,lH,apN,pbN,apM,pbM,oMo,rowV,zeroV,i64b,SI.fl,flay,flayL,lW,mayV,ints,i64s,lmap])
 simp only [Int.reduceLE,reduceIte,Int.reduceNeg] at b0
 have b1:=hin 1 (-9223372036854775808) 9223372036854775807 (by simp [sSites,o1,u64b,liF,flF,fH,lH,apN,pbN,apM,pbM,oMo,rowV,zeroV,i64b,SI.fl,flay,flayL,lW,mayV,ints,i64s,lmap])
 simp only [Int.reduceLE,reduceIte,Int.reduceNeg] at b1
 have b2:=hin 2 (-9223372036854775808) 9223372036854775807 (by simp [sSites,o1,u64b,liF,flF,fH,lH,apN,pbN,apM,pbM,oMo,rowV,zeroV,i64b,SI.fl,flay,flayL,lW,mayV,ints,i64s,lmap])
 simp only [Int.reduceLE,reduceIte,Int.reduceNeg] at b2
 exact ⟨b0,b1,b2⟩
def sSites_ob (k:Nat) (l:List Lf):Prop:=∀ (kv:Kv) (iv0:Nat→Int) (bv0:Nat→Bool),InB sSites.B iv0→FT (sta FI FB kv iv0 bv0) (dlt dyn0) sSites.F→∀ (iv:Nat→Int) (bv:Nat→Bool),Agr 3 iv0 bv0 iv bv→sSites_inv iv0 bv0 k iv bv→∀ lf∈l,LfT (sta FI FB kv) sSites.os (sSites_inv iv0 bv0) (sSites_mu iv0 bv0) k iv bv lf
theorem sSites_o0:sSites_ob 0 sSites_L0:=by
 intro kv iv0 bv0 hin hF iv bv ha hi
 unfold sSites_L0
 refine List.forall_mem_cons.2 ⟨?_,List.forall_mem_cons.2 ⟨?_,List.forall_mem_cons.2 ⟨?_,List.forall_mem_cons.2 ⟨?_,List.forall_mem_cons.2 ⟨?_,List.forall_mem_cons.2 ⟨?_,List.forall_mem_cons.2 ⟨?_,List.forall_mem_nil _⟩⟩⟩⟩⟩⟩⟩
 all_goals
  intro δ hf
 all_goals
  obtain ⟨b0,b1,b2⟩:=sSites_b hin
 all_goals
  have a0:=ha.1 0 (by omega)
  have a1:=ha.1 1 (by omega)
  have a2:=ha.1 2 (by omega)
 all_goals
  simp only [FT,TP,SB.tp,SI.tv,sta,IB.eval,and_true,true_and,ObsT,Ob.Tv,rowT,kix,In.tiv,↓tbvT,In.tbv,get_cons,get_nil,reduceIte,Nat.reduceEqDiff,Int.reduceToNat,Int.reduceAdd,Int.reduceSub,Int.reduceLE,Int.reduceLT,Int.reduceEq,ne_eq,Bool.false_eq_true,not_true_eq_false,not_false_eq_true,true_iff,false_iff,iff_true,iff_false,false_implies,implies_true,decT,decide_true,decide_false,Bool.decide_eq_true,ap2,pb2,FI_3,FI_3g,FI_4,FI_8,FI_8m,FI_9,FI_8c,FI_8z,FB_0,FB_2,Int.toNat_natCast,Int.toNat_zero,FI_64,FB_40,sSites_inv,sSites_mu,sSites,o1,othT,o1,u64b,liF,flF,fH,lH,apN,pbN,apM,pbM,oMo,rowV,zeroV,i64b,SI.fl,flay,flayL,lW,mayV,ints,i64s,lmap,a0,a1,a2] at hf hi ⊢
 all_goals
  try simp only [shpR]
 all_goals
  (repeat' (with_reducible apply And.intro))<;>first
  | omega
  | assumption
  | (unfold inM;omega)
  | exact trivial
  | (clear hin hF ha;grind)
theorem sSites_o1:sSites_ob 1 sSites_L1:=by
 intro kv iv0 bv0 hin hF iv bv ha hi
 unfold sSites_L1
 refine List.forall_mem_cons.2 ⟨?_,List.forall_mem_nil _⟩
 all_goals
  intro δ hf
 all_goals
  obtain ⟨b0,b1,b2⟩:=sSites_b hin
 all_goals
  have a0:=ha.1 0 (by omega)
  have a1:=ha.1 1 (by omega)
  have a2:=ha.1 2 (by omega)
 all_goals
  simp only [FT,TP,SB.tp,SI.tv,sta,IB.eval,and_true,true_and,ObsT,Ob.Tv,rowT,kix,In.tiv,↓tbvT,In.tbv,get_cons,get_nil,reduceIte,Nat.reduceEqDiff,Int.reduceToNat,Int.reduceAdd,Int.reduceSub,Int.reduceLE,Int.reduceLT,Int.reduceEq,ne_eq,Bool.false_eq_true,not_true_eq_false,not_false_eq_true,true_iff,false_iff,iff_true,iff_false,false_implies,implies_true,decT,decide_true,decide_false,Bool.decide_eq_true,ap2,pb2,FI_3,FI_3g,FI_4,FI_8,FI_8m,FI_9,FI_8c,FI_8z,FB_0,FB_2,Int.toNat_natCast,Int.toNat_zero,FI_64,FB_40,sSites_inv,sSites_mu,sSites,o1,othT,o1,u64b,liF,flF,fH,lH,apN,pbN,apM,pbM,oMo,rowV,zeroV,i64b,SI.fl,flay,flayL,lW,mayV,ints,i64s,lmap,a0,a1,a2] at hf hi ⊢
 all_goals
  have p0:0≤iv0 0 * iv0 2∧iv0 0 * iv0 2≤256:=mul_sp (by omega) (by omega) (by omega) (by omega)
 all_goals
  (repeat' (with_reducible apply And.intro))<;>first
  | omega
  | assumption
  | (unfold inM;omega)
  | exact trivial
  | (clear hin hF ha;grind)
theorem sSites_o2:sSites_ob 2 sSites_L2:=by
 intro kv iv0 bv0 hin hF iv bv ha hi
 unfold sSites_L2
 refine List.forall_mem_cons.2 ⟨?_,List.forall_mem_cons.2 ⟨?_,List.forall_mem_nil _⟩⟩
 all_goals
  intro δ hf
 all_goals
  obtain ⟨b0,b1,b2⟩:=sSites_b hin
 all_goals
  have a0:=ha.1 0 (by omega)
  have a1:=ha.1 1 (by omega)
  have a2:=ha.1 2 (by omega)
 all_goals
  simp only [FT,TP,SB.tp,SI.tv,sta,IB.eval,and_true,true_and,ObsT,Ob.Tv,rowT,kix,In.tiv,↓tbvT,In.tbv,get_cons,get_nil,reduceIte,Nat.reduceEqDiff,Int.reduceToNat,Int.reduceAdd,Int.reduceSub,Int.reduceLE,Int.reduceLT,Int.reduceEq,ne_eq,Bool.false_eq_true,not_true_eq_false,not_false_eq_true,true_iff,false_iff,iff_true,iff_false,false_implies,implies_true,decT,decide_true,decide_false,Bool.decide_eq_true,ap2,pb2,FI_3,FI_3g,FI_4,FI_8,FI_8m,FI_9,FI_8c,FI_8z,FB_0,FB_2,Int.toNat_natCast,Int.toNat_zero,FI_64,FB_40,sSites_inv,sSites_mu,sSites,o1,othT,o1,u64b,liF,flF,fH,lH,apN,pbN,apM,pbM,oMo,rowV,zeroV,i64b,SI.fl,flay,flayL,lW,mayV,ints,i64s,lmap,a0,a1,a2] at hf hi ⊢
 all_goals
  try simp only [shpR]
 all_goals
  have p0:0≤iv0 0 * iv0 2∧iv0 0 * iv0 2≤256:=mul_sp (by omega) (by omega) (by omega) (by omega)
 all_goals
  (repeat' (with_reducible apply And.intro))<;>first
  | omega
  | assumption
  | (unfold inM;omega)
  | exact trivial
  | (clear hin hF ha;grind)
theorem sSites_c:LsC ((tm0 sSites Tryz.f59 (Tryz.f59.body.getD .skip))::[sSites_T1,sSites_T2]) sSites.os [sSites_L0,sSites_L1,sSites_L2]:=by
 unfold sSites_L0 sSites_L1 sSites_L2
 exact ⟨List.forall_mem_cons.2 ⟨⟨⟨_,rfl,rfl⟩,by kernel_rfl⟩,List.forall_mem_cons.2 ⟨⟨⟨_,rfl,rfl⟩,by kernel_rfl⟩,List.forall_mem_cons.2 ⟨⟨⟨_,rfl,rfl⟩,by kernel_rfl⟩,List.forall_mem_cons.2 ⟨⟨⟨_,rfl,rfl⟩,by kernel_rfl⟩,List.forall_mem_cons.2 ⟨⟨⟨_,rfl,rfl⟩,by kernel_rfl⟩,List.forall_mem_cons.2 ⟨⟨⟨_,rfl,rfl⟩,by kernel_rfl⟩,List.forall_mem_cons.2 ⟨⟨⟨_,rfl,rfl⟩,by kernel_rfl⟩,List.forall_mem_nil _⟩⟩⟩⟩⟩⟩⟩,List.forall_mem_cons.2 ⟨⟨⟨_,rfl,rfl⟩,by kernel_rfl⟩,List.forall_mem_nil _⟩,List.forall_mem_cons.2 ⟨⟨⟨_,rfl,rfl⟩,by kernel_rfl⟩,List.forall_mem_cons.2 ⟨⟨⟨_,rfl,rfl⟩,by kernel_rfl⟩,List.forall_mem_nil _⟩⟩,trivial⟩
theorem sSites_ok:sSites.Ok Tryz.prog FI FB:=
 Con.of_plain (body:=Tryz.f59.body.getD .skip) pok fiok EntsFor.nil sSites Tryz.func59 (by kernel_rfl) 3 [sSites_T1,sSites_T2] (by kernel_rfl) [sSites_L0,sSites_L1,sSites_L2] ⟨sSites_h0,sSites_h1,sSites_h2,trivial⟩ sSites_c
  sSites_inv sSites_mu (fun _ _ _=>trivial) fun kv iv0 bv0 hin hF k l iv bv hk ha hi=>match k,hk,hi with
  | 0,hk,hi=>by
    cases hk
    exact sSites_o0 kv iv0 bv0 hin hF iv bv ha hi
  | 1,hk,hi=>by
    cases hk
    exact sSites_o1 kv iv0 bv0 hin hF iv bv ha hi
  | 2,hk,hi=>by
    cases hk
    exact sSites_o2 kv iv0 bv0 hin hF iv bv ha hi
  | k+3,hk,_=>by simp at hk
def cC1_L0:List Lf:=
 let x0_:SI:=(.ap 200 (.v 0) (.c 0) (.c 0) (.c 0) (.c 0) (.c 0))
 let f0_:List (SB×Bool):=[((.le (.c 0) (.d 0)),.true),((.eq x0_ (.c 0)),.true),((.le x0_ (.c 300)),.true)]
 [(.fin (((.eq (.d 0) (.c 0)),.true)::f0_) 0 ⟨⟨[],[]⟩,[],[],[]⟩ [(.fa (.eq x0_ (.c 0)) .true)] []),
  (.fin (((.eq (.d 0) (.c 0)),.false)::f0_) 0 ⟨⟨[],[]⟩,[],[],[]⟩ [] []),
  (.fin ([((.eq x0_ (.c 0)),.false),((.le x0_ (.c 300)),.true)]) 0 ⟨⟨[],[]⟩,[],[],[]⟩ [] [])]
def cC1_run (T:Tm):=(ex (ccOf Tryz.prog BF [29,73,75,100] cC1) ((fun _=>[]) (ccOf Tryz.prog BF [29,73,75,100] cC1)) (dw (ccOf Tryz.prog BF [29,73,75,100] cC1) ((fun _=>[]) (ccOf Tryz.prog BF [29,73,75,100] cC1)) 1000 4) (stopX [0,1,2,3,4,5,6,7,8,9,10,11,12,13,14,15,16,17,18,19,20,21,22,23,24,25,26,27,28,29,30,31,32,33,34,35,36,37,38,39,40,41,42,43,44,45,46,47,48,49,50,51,52,53,54,55,56,57,58,59,60,61,62,63,64,65,66,67,68,69,70,71,72,73,74,75,76,77,78,79,80,81,82,83,84,85,86,87,88,89,90,91,92,93,94,95,96,97,98,99,100,101,102,103,104,105,106,107,108,109,110,111,112,113,114,115,116,117,118,119,120,121,122,123,124,125,126,127,128,129,130,131,132,133,134,135,136,137,138,139,140,141,142,143,144,145,146,147,148,149,150,151,152,153,154,155,156,157,158,159,160,161,162,163,164,165,166,167,168,169,170,171,172,173,174,175,176,177,178,179,180,181,182,183,184,185,186,187,188,189,190,191,192,193,194,195,196,197,198,199,200,201,202,203,204,205,206,207,208,209,210,211,212,213,214,215,216,217,218,219,220,221,222,223,224,225,226,227,228,229,230,231,232,233,234,235,236,237,238,239,240,241,242,243,244,245,246,247,248,249,250,251,252,253,254,255,256,257,258,259,260,261,262,263,264,265,266,267,268,269,270,271,272,273,274,275,276,277,278,279,280,281,282,283,284,285,286,287,288,289,290,291,292,293,294,295,296,297,298,299,300,301,302,303,304,305,306,307,308,309,310,311,312,313,314,315,316,317,318,319,320,321,322,323,324,325,326,327,328,329,330,331,332,333,334,335,336,337,338,339,340,341,342,343,344,345,346,347,348,349,350,351,352,353,354,355,356,357,358,359,360,361,362,363,364,365,366,367,368,369,370,371,372,373,374,375,376,377,378,379,380,381,382,383,384,385,386,387,388,389,390,391,392,393,394,395,396,397,398,399]) 4000 T.f T.fs T.H).lfs (ccOf Tryz.prog BF [29,73,75,100] cC1) ((tm0 cC1 Tryz.f172 (Tryz.f172.body.getD .skip))::[]) cC1.os
theorem cC1_h0:cC1_run (tm0 cC1 Tryz.f172 (Tryz.f172.body.getD .skip))=some cC1_L0:=by kernel_rfl
def cC1_inv:(Nat→Int)→(Nat→Bool)→Nat→(Nat→Int)→(Nat→Bool)→Prop:=fun _ _ _ _ _=>True
def cC1_mu:(Nat→Int)→(Nat→Bool)→Nat→(Nat→Int)→(Nat→Bool)→Nat:=fun _ _ _ _ _=>0
def cC1_ob (k:Nat) (l:List Lf):Prop:=∀ (kv:Kv) (iv0:Nat→Int) (bv0:Nat→Bool),InB cC1.B iv0→FT (sta FI FB kv iv0 bv0) (dlt dyn0) cC1.F→∀ (iv:Nat→Int) (bv:Nat→Bool),Agr 1 iv0 bv0 iv bv→cC1_inv iv0 bv0 k iv bv→∀ lf∈l,LfT (sta FI FB kv) cC1.os (cC1_inv iv0 bv0) (cC1_mu iv0 bv0) k iv bv lf
theorem cC1_o0:cC1_ob 0 cC1_L0:=by
 intro kv iv0 bv0 hin hF iv bv ha hi
 unfold cC1_L0
 refine List.forall_mem_cons.2 ⟨?_,List.forall_mem_cons.2 ⟨?_,List.forall_mem_cons.2 ⟨?_,List.forall_mem_nil _⟩⟩⟩
 all_goals
  intro δ hf
 all_goals
  have a0:=ha.1 0 (by omega)
 all_goals
  simp only [FT,TP,SB.tp,SI.tv,sta,IB.eval,and_true,true_and,ObsT,Ob.Tv,rowT,kix,In.tiv,↓tbvT,In.tbv,get_cons,get_nil,reduceIte,Nat.reduceEqDiff,Int.reduceToNat,Int.reduceAdd,Int.reduceSub,Int.reduceLE,Int.reduceLT,Int.reduceEq,ne_eq,Bool.false_eq_true,not_true_eq_false,not_false_eq_true,true_iff,false_iff,iff_true,iff_false,false_implies,implies_true,decT,decide_true,decide_false,Bool.decide_eq_true,ap2,pb2,FI_3,FI_3g,FI_4,FI_8,FI_8m,FI_9,FI_8c,FI_8z,FI_200,FB_0,FB_2,Int.toNat_natCast,Int.toNat_zero,cC1_inv,cC1_mu,cC1,o1,othT,o1,u64b,liF,flF,fH,lH,apN,pbN,apM,pbM,oMo,rowV,zeroV,i64b,SI.fl,flay,flayL,lW,mayV,ints,i64s,lmap,a0] at hf hi ⊢
 all_goals
  (repeat' (with_reducible apply And.intro))<;>first
  | omega
  | assumption
  | (unfold inM;omega)
  | exact trivial
  | (clear hin hF ha;grind)
theorem cC1_c:LsC ((tm0 cC1 Tryz.f172 (Tryz.f172.body.getD .skip))::[]) cC1.os [cC1_L0]:=by
 unfold cC1_L0
 exact ⟨List.forall_mem_cons.2 ⟨⟨⟨_,rfl,rfl⟩,by kernel_rfl⟩,List.forall_mem_cons.2 ⟨⟨⟨_,rfl,rfl⟩,by kernel_rfl⟩,List.forall_mem_cons.2 ⟨⟨⟨_,rfl,rfl⟩,by kernel_rfl⟩,List.forall_mem_nil _⟩⟩⟩,trivial⟩
theorem cC1_ok:cC1.Ok Tryz.prog FI FB:=
 Con.of_plain (body:=Tryz.f172.body.getD .skip) pok fiok EntsFor.nil cC1 Tryz.func172 (by kernel_rfl) 1 [] (by kernel_rfl) [cC1_L0] ⟨cC1_h0,trivial⟩ cC1_c
  cC1_inv cC1_mu (fun _ _ _=>trivial) fun kv iv0 bv0 hin hF k l iv bv hk ha hi=>match k,hk,hi with
  | 0,hk,hi=>by
    cases hk
    exact cC1_o0 kv iv0 bv0 hin hF iv bv ha hi
  | k+1,hk,_=>by simp at hk
def cC3_L0:List Lf:=
 let x0_:SI:=(.ap 200 (.v 0) (.c 0) (.c 0) (.c 0) (.c 0) (.c 0))
 let f0_:List (SB×Bool):=[((.le (.c 0) (.d 0)),.true),((.eq x0_ (.c 0)),.true),((.le x0_ (.c 300)),.true)]
 [(.fin (((.eq (.d 0) (.c 0)),.true)::f0_) 0 ⟨⟨[],[]⟩,[],[],[]⟩ [(.fa (.eq x0_ (.c 0)) .true)] []),
  (.fin (((.eq (.d 0) (.c 0)),.false)::f0_) 0 ⟨⟨[],[]⟩,[],[],[]⟩ [] []),
  (.fin ([((.eq x0_ (.c 0)),.false),((.le x0_ (.c 300)),.true)]) 0 ⟨⟨[],[]⟩,[],[],[]⟩ [] [])]
def cC3_run (T:Tm):=(ex (ccOf Tryz.prog BF [29,73,75,100] cC3) ((fun _=>[]) (ccOf Tryz.prog BF [29,73,75,100] cC3)) (dw (ccOf Tryz.prog BF [29,73,75,100] cC3) ((fun _=>[]) (ccOf Tryz.prog BF [29,73,75,100] cC3)) 1000 4) (stopX [0,1,2,3,4,5,6,7,8,9,10,11,12,13,14,15,16,17,18,19,20,21,22,23,24,25,26,27,28,29,30,31,32,33,34,35,36,37,38,39,40,41,42,43,44,45,46,47,48,49,50,51,52,53,54,55,56,57,58,59,60,61,62,63,64,65,66,67,68,69,70,71,72,73,74,75,76,77,78,79,80,81,82,83,84,85,86,87,88,89,90,91,92,93,94,95,96,97,98,99,100,101,102,103,104,105,106,107,108,109,110,111,112,113,114,115,116,117,118,119,120,121,122,123,124,125,126,127,128,129,130,131,132,133,134,135,136,137,138,139,140,141,142,143,144,145,146,147,148,149,150,151,152,153,154,155,156,157,158,159,160,161,162,163,164,165,166,167,168,169,170,171,172,173,174,175,176,177,178,179,180,181,182,183,184,185,186,187,188,189,190,191,192,193,194,195,196,197,198,199,200,201,202,203,204,205,206,207,208,209,210,211,212,213,214,215,216,217,218,219,220,221,222,223,224,225,226,227,228,229,230,231,232,233,234,235,236,237,238,239,240,241,242,243,244,245,246,247,248,249,250,251,252,253,254,255,256,257,258,259,260,261,262,263,264,265,266,267,268,269,270,271,272,273,274,275,276,277,278,279,280,281,282,283,284,285,286,287,288,289,290,291,292,293,294,295,296,297,298,299,300,301,302,303,304,305,306,307,308,309,310,311,312,313,314,315,316,317,318,319,320,321,322,323,324,325,326,327,328,329,330,331,332,333,334,335,336,337,338,339,340,341,342,343,344,345,346,347,348,349,350,351,352,353,354,355,356,357,358,359,360,361,362,363,364,365,366,367,368,369,370,371,372,373,374,375,376,377,378,379,380,381,382,383,384,385,386,387,388,389,390,391,392,393,394,395,396,397,398,399]) 4000 T.f T.fs T.H).lfs (ccOf Tryz.prog BF [29,73,75,100] cC3) ((tm0 cC3 Tryz.f120 (Tryz.f120.body.getD .skip))::[]) cC3.os
theorem cC3_h0:cC3_run (tm0 cC3 Tryz.f120 (Tryz.f120.body.getD .skip))=some cC3_L0:=by kernel_rfl
def cC3_inv:(Nat→Int)→(Nat→Bool)→Nat→(Nat→Int)→(Nat→Bool)→Prop:=fun _ _ _ _ _=>True
def cC3_mu:(Nat→Int)→(Nat→Bool)→Nat→(Nat→Int)→(Nat→Bool)→Nat:=fun _ _ _ _ _=>0
def cC3_ob (k:Nat) (l:List Lf):Prop:=∀ (kv:Kv) (iv0:Nat→Int) (bv0:Nat→Bool),InB cC3.B iv0→FT (sta FI FB kv iv0 bv0) (dlt dyn0) cC3.F→∀ (iv:Nat→Int) (bv:Nat→Bool),Agr 1 iv0 bv0 iv bv→cC3_inv iv0 bv0 k iv bv→∀ lf∈l,LfT (sta FI FB kv) cC3.os (cC3_inv iv0 bv0) (cC3_mu iv0 bv0) k iv bv lf
theorem cC3_o0:cC3_ob 0 cC3_L0:=by
 intro kv iv0 bv0 hin hF iv bv ha hi
 unfold cC3_L0
 refine List.forall_mem_cons.2 ⟨?_,List.forall_mem_cons.2 ⟨?_,List.forall_mem_cons.2 ⟨?_,List.forall_mem_nil _⟩⟩⟩
 all_goals
  intro δ hf
 all_goals
  have a0:=ha.1 0 (by omega)
 all_goals
  simp only [FT,TP,SB.tp,SI.tv,sta,IB.eval,and_true,true_and,ObsT,Ob.Tv,rowT,kix,In.tiv,↓tbvT,In.tbv,get_cons,get_nil,reduceIte,Nat.reduceEqDiff,Int.reduceToNat,Int.reduceAdd,Int.reduceSub,Int.reduceLE,Int.reduceLT,Int.reduceEq,ne_eq,Bool.false_eq_true,not_true_eq_false,not_false_eq_true,true_iff,false_iff,iff_true,iff_false,false_implies,implies_true,decT,decide_true,decide_false,Bool.decide_eq_true,ap2,pb2,FI_3,FI_3g,FI_4,FI_8,FI_8m,FI_9,FI_8c,FI_8z,FI_200,FB_0,FB_2,Int.toNat_natCast,Int.toNat_zero,cC3_inv,cC3_mu,cC3,o1,othT,o1,u64b,liF,flF,fH,lH,apN,pbN,apM,pbM,oMo,rowV,zeroV,i64b,SI.fl,flay,flayL,lW,mayV,ints,i64s,lmap,a0] at hf hi ⊢
 all_goals
  (repeat' (with_reducible apply And.intro))<;>first
  | omega
  | assumption
  | (unfold inM;omega)
  | exact trivial
  | (clear hin hF ha;grind)
theorem cC3_c:LsC ((tm0 cC3 Tryz.f120 (Tryz.f120.body.getD .skip))::[]) cC3.os [cC3_L0]:=by
 unfold cC3_L0
 exact ⟨List.forall_mem_cons.2 ⟨⟨⟨_,rfl,rfl⟩,by kernel_rfl⟩,List.forall_mem_cons.2 ⟨⟨⟨_,rfl,rfl⟩,by kernel_rfl⟩,List.forall_mem_cons.2 ⟨⟨⟨_,rfl,rfl⟩,by kernel_rfl⟩,List.forall_mem_nil _⟩⟩⟩,trivial⟩
theorem cC3_ok:cC3.Ok Tryz.prog FI FB:=
 Con.of_plain (body:=Tryz.f120.body.getD .skip) pok fiok EntsFor.nil cC3 Tryz.func120 (by kernel_rfl) 1 [] (by kernel_rfl) [cC3_L0] ⟨cC3_h0,trivial⟩ cC3_c
  cC3_inv cC3_mu (fun _ _ _=>trivial) fun kv iv0 bv0 hin hF k l iv bv hk ha hi=>match k,hk,hi with
  | 0,hk,hi=>by
    cases hk
    exact cC3_o0 kv iv0 bv0 hin hF iv bv ha hi
  | k+1,hk,_=>by simp at hk
def cC4_L0:List Lf:=
 let x0_:SI:=(.ap 200 (.v 0) (.c 0) (.c 0) (.c 0) (.c 0) (.c 0))
 let f0_:List (SB×Bool):=[((.le (.c 0) (.d 0)),.true),((.eq x0_ (.c 0)),.true),((.le x0_ (.c 300)),.true)]
 [(.fin (((.eq (.d 0) (.c 0)),.true)::f0_) 0 ⟨⟨[],[]⟩,[],[],[]⟩ [(.fa (.eq x0_ (.c 0)) .true)] []),
  (.fin (((.eq (.d 0) (.c 0)),.false)::f0_) 0 ⟨⟨[],[]⟩,[],[],[]⟩ [] []),
  (.fin ([((.eq x0_ (.c 0)),.false),((.le x0_ (.c 300)),.true)]) 0 ⟨⟨[],[]⟩,[],[],[]⟩ [] [])]
def cC4_run (T:Tm):=(ex (ccOf Tryz.prog BF [29,73,75,100] cC4) ((fun _=>[]) (ccOf Tryz.prog BF [29,73,75,100] cC4)) (dw (ccOf Tryz.prog BF [29,73,75,100] cC4) ((fun _=>[]) (ccOf Tryz.prog BF [29,73,75,100] cC4)) 1000 4) (stopX [0,1,2,3,4,5,6,7,8,9,10,11,12,13,14,15,16,17,18,19,20,21,22,23,24,25,26,27,28,29,30,31,32,33,34,35,36,37,38,39,40,41,42,43,44,45,46,47,48,49,50,51,52,53,54,55,56,57,58,59,60,61,62,63,64,65,66,67,68,69,70,71,72,73,74,75,76,77,78,79,80,81,82,83,84,85,86,87,88,89,90,91,92,93,94,95,96,97,98,99,100,101,102,103,104,105,106,107,108,109,110,111,112,113,114,115,116,117,118,119,120,121,122,123,124,125,126,127,128,129,130,131,132,133,134,135,136,137,138,139,140,141,142,143,144,145,146,147,148,149,150,151,152,153,154,155,156,157,158,159,160,161,162,163,164,165,166,167,168,169,170,171,172,173,174,175,176,177,178,179,180,181,182,183,184,185,186,187,188,189,190,191,192,193,194,195,196,197,198,199,200,201,202,203,204,205,206,207,208,209,210,211,212,213,214,215,216,217,218,219,220,221,222,223,224,225,226,227,228,229,230,231,232,233,234,235,236,237,238,239,240,241,242,243,244,245,246,247,248,249,250,251,252,253,254,255,256,257,258,259,260,261,262,263,264,265,266,267,268,269,270,271,272,273,274,275,276,277,278,279,280,281,282,283,284,285,286,287,288,289,290,291,292,293,294,295,296,297,298,299,300,301,302,303,304,305,306,307,308,309,310,311,312,313,314,315,316,317,318,319,320,321,322,323,324,325,326,327,328,329,330,331,332,333,334,335,336,337,338,339,340,341,342,343,344,345,346,347,348,349,350,351,352,353,354,355,356,357,358,359,360,361,362,363,364,365,366,367,368,369,370,371,372,373,374,375,376,377,378,379,380,381,382,383,384,385,386,387,388,389,390,391,392,393,394,395,396,397,398,399]) 4000 T.f T.fs T.H).lfs (ccOf Tryz.prog BF [29,73,75,100] cC4) ((tm0 cC4 Tryz.f166 (Tryz.f166.body.getD .skip))::[]) cC4.os
theorem cC4_h0:cC4_run (tm0 cC4 Tryz.f166 (Tryz.f166.body.getD .skip))=some cC4_L0:=by kernel_rfl
def cC4_inv:(Nat→Int)→(Nat→Bool)→Nat→(Nat→Int)→(Nat→Bool)→Prop:=fun _ _ _ _ _=>True
def cC4_mu:(Nat→Int)→(Nat→Bool)→Nat→(Nat→Int)→(Nat→Bool)→Nat:=fun _ _ _ _ _=>0
def cC4_ob (k:Nat) (l:List Lf):Prop:=∀ (kv:Kv) (iv0:Nat→Int) (bv0:Nat→Bool),InB cC4.B iv0→FT (sta FI FB kv iv0 bv0) (dlt dyn0) cC4.F→∀ (iv:Nat→Int) (bv:Nat→Bool),Agr 1 iv0 bv0 iv bv→cC4_inv iv0 bv0 k iv bv→∀ lf∈l,LfT (sta FI FB kv) cC4.os (cC4_inv iv0 bv0) (cC4_mu iv0 bv0) k iv bv lf
theorem cC4_o0:cC4_ob 0 cC4_L0:=by
 intro kv iv0 bv0 hin hF iv bv ha hi
 unfold cC4_L0
 refine List.forall_mem_cons.2 ⟨?_,List.forall_mem_cons.2 ⟨?_,List.forall_mem_cons.2 ⟨?_,List.forall_mem_nil _⟩⟩⟩
 all_goals
  intro δ hf
 all_goals
  have a0:=ha.1 0 (by omega)
 all_goals
  simp only [FT,TP,SB.tp,SI.tv,sta,IB.eval,and_true,true_and,ObsT,Ob.Tv,rowT,kix,In.tiv,↓tbvT,In.tbv,get_cons,get_nil,reduceIte,Nat.reduceEqDiff,Int.reduceToNat,Int.reduceAdd,Int.reduceSub,Int.reduceLE,Int.reduceLT,Int.reduceEq,ne_eq,Bool.false_eq_true,not_true_eq_false,not_false_eq_true,true_iff,false_iff,iff_true,iff_false,false_implies,implies_true,decT,decide_true,decide_false,Bool.decide_eq_true,ap2,pb2,FI_3,FI_3g,FI_4,FI_8,FI_8m,FI_9,FI_8c,FI_8z,FI_200,FB_0,FB_2,Int.toNat_natCast,Int.toNat_zero,cC4_inv,cC4_mu,cC4,o1,othT,o1,u64b,liF,flF,fH,lH,apN,pbN,apM,pbM,oMo,rowV,zeroV,i64b,SI.fl,flay,flayL,lW,mayV,ints,i64s,lmap,a0] at hf hi ⊢
 all_goals
  (repeat' (with_reducible apply And.intro))<;>first
  | omega
  | assumption
  | (unfold inM;omega)
  | exact trivial
  | (clear hin hF ha;grind)
theorem cC4_c:LsC ((tm0 cC4 Tryz.f166 (Tryz.f166.body.getD .skip))::[]) cC4.os [cC4_L0]:=by
 unfold cC4_L0
 exact ⟨List.forall_mem_cons.2 ⟨⟨⟨_,rfl,rfl⟩,by kernel_rfl⟩,List.forall_mem_cons.2 ⟨⟨⟨_,rfl,rfl⟩,by kernel_rfl⟩,List.forall_mem_cons.2 ⟨⟨⟨_,rfl,rfl⟩,by kernel_rfl⟩,List.forall_mem_nil _⟩⟩⟩,trivial⟩
theorem cC4_ok:cC4.Ok Tryz.prog FI FB:=
 Con.of_plain (body:=Tryz.f166.body.getD .skip) pok fiok EntsFor.nil cC4 Tryz.func166 (by kernel_rfl) 1 [] (by kernel_rfl) [cC4_L0] ⟨cC4_h0,trivial⟩ cC4_c
  cC4_inv cC4_mu (fun _ _ _=>trivial) fun kv iv0 bv0 hin hF k l iv bv hk ha hi=>match k,hk,hi with
  | 0,hk,hi=>by
    cases hk
    exact cC4_o0 kv iv0 bv0 hin hF iv bv ha hi
  | k+1,hk,_=>by simp at hk
def tSites_T1:Tm:=⟨⟨233,19,[(8,(.it .i64 (.v 30))),(7,(.it .i64 (.ap 200 (.v 1) (.c 0) (.c 0) (.c 0) (.c 0) (.c 0)))),(0,(.fs 1 (.v 1))),(1,(.fn 205 [] []))],[(.code (atC Tryz.f233 [1,0,1,0,0])),(.inLoop (atC Tryz.f233 [1,0,1,0,0])),(.inBlock 0),(.code (atC Tryz.f233 [1,1]))],[],.none⟩,[⟨204,9,[(6,(.fn 205 [] [])),(5,(.fs 1 (.v 1)))],[(.inRegion (opsC (atC Tryz.f204 [1,0])) [2,3,4]),(.code Code.ret)],[],.none⟩,⟨141,34,[(30,(.fs 1 (.v 1))),(27,(.bo (.le (.v 0) (.c 1099511627776))))],[(.inRegion (opsC (atC Tryz.f141 [1,1,0])) [20,21,22,23]),(.code Code.ret)],[],.none⟩],
    ⟨[],0,0,0,[((.le (.v 0) (.c 1099511627776)),.true),((.le (.c 0) (.v 0)),.true),((.eq (.ap 200 (.v 1) (.c 0) (.c 0) (.c 0) (.c 0) (.c 0)) (.op .mul (.v 7) (.v 9))),.true),((.le (.c 1) (.v 7)),.true),((.le (.v 7) (.c 64)),.true),((.le (.c 1) (.v 8)),.true),((.le (.v 8) (.c 8)),.true),((.le (.c 1) (.v 9)),.true),((.le (.v 9) (.c 4)),.true),((.ap 40 (.v 7) (.v 8) (.v 9) (.c 0) (.c 0) (.c 0)),.true),((.le (.ap 200 (.v 1) (.c 0) (.c 0) (.c 0) (.c 0) (.c 0)) (.c 300)),.true),((.le (.ap 200 (.v 2) (.c 0) (.c 0) (.c 0) (.c 0) (.c 0)) (.c 300)),.true),((.le (.ap 200 (.v 3) (.c 0) (.c 0) (.c 0) (.c 0) (.c 0)) (.c 300)),.true)],[0],[(0,(0,1099511627776)),(7,(1,64)),(8,(1,8)),(9,(1,4)),(4,((-9223372036854775808),9223372036854775807)),(5,((-9223372036854775808),9223372036854775807)),(6,(0,18446744073709551615)),(30,(0,(-1)))]⟩,[30]⟩
def tSites_L0:List Lf:=
 let x0_:SI:=(.ap 200 (.v 1) (.c 0) (.c 0) (.c 0) (.c 0) (.c 0))
 let f0_:List (SB×Bool):=[((.le x0_ (.c 300)),.true),((.le (.ap 200 (.v 2) (.c 0) (.c 0) (.c 0) (.c 0) (.c 0)) (.c 300)),.true),((.le (.ap 200 (.v 3) (.c 0) (.c 0) (.c 0) (.c 0) (.c 0)) (.c 300)),.true)]
 let f1_:List (SB×Bool):=((.le (.c 1) (.v 7)),.true)::((.le (.v 7) (.c 64)),.true)::((.le (.c 1) (.v 8)),.true)::((.le (.v 8) (.c 8)),.true)::((.le (.c 1) (.v 9)),.true)::((.le (.v 9) (.c 4)),.true)::((.ap 40 (.v 7) (.v 8) (.v 9) (.c 0) (.c 0) (.c 0)),.true)::f0_
 let f2_:List (SB×Bool):=((.eq x0_ (.op .mul (.v 7) (.v 9))),.true)::f1_
 let f3_:List (SB×Bool):=((.le (.c 0) (.v 0)),.true)::f2_
 [(.cut (((.le (.v 0) (.c 1099511627776)),.true)::f3_) 1 ⟨⟨[(30,(.c 0))],[]⟩,[],[],[]⟩ [] (shT tSites_T1 ⟨⟨[(30,(.c 0))],[]⟩,[],[],[]⟩)),
  (.fin (((.le (.v 0) (.c 1099511627776)),.false)::f3_) 1 ⟨⟨[],[]⟩,[],[],[]⟩ [] []),
  (.fin (((.le (.c 0) (.v 0)),.false)::f2_) 1 ⟨⟨[],[]⟩,[],[],[]⟩ [] []),
  (.fin (((.eq x0_ (.op .mul (.v 7) (.v 9))),.false)::f1_) 1 ⟨⟨[],[]⟩,[],[],[]⟩ [] []),
  (.fin (((.ap 40 (.v 7) (.v 8) (.v 9) (.c 0) (.c 0) (.c 0)),.false)::f0_) 1 ⟨⟨[],[]⟩,[],[],[]⟩ [] [])]
def tSites_L1:List Lf:=
 let x0_:SI:=(.ap 3 (.v 1) (.v 30) (.c 0) (.c 0) (.c 0) (.c 0))
 let x1_:SI:=(.ap 200 (.v 1) (.c 0) (.c 0) (.c 0) (.c 0) (.c 0))
 let f0_:List (SB×Bool):=[((.le (.v 0) (.c 1099511627776)),.true),((.le (.c 0) (.v 0)),.true),((.eq x1_ (.op .mul (.v 7) (.v 9))),.true),((.le (.c 1) (.v 7)),.true),((.le (.v 7) (.c 64)),.true),((.le (.c 1) (.v 8)),.true),((.le (.v 8) (.c 8)),.true),((.le (.c 1) (.v 9)),.true),((.le (.v 9) (.c 4)),.true),((.ap 40 (.v 7) (.v 8) (.v 9) (.c 0) (.c 0) (.c 0)),.true),((.le x1_ (.c 300)),.true),((.le (.ap 200 (.v 2) (.c 0) (.c 0) (.c 0) (.c 0) (.c 0)) (.c 300)),.true),((.le (.ap 200 (.v 3) (.c 0) (.c 0) (.c 0) (.c 0) (.c 0)) (.c 300)),.true)]
 let f1_:List (SB×Bool):=((.lt (.v 30) x1_),.true)::f0_
 let f2_:List (SB×Bool):=((.le (.c 0) x0_),.true)::f1_
 [(let i_:In:=⟨⟨[(30,(.wk .i64 (.op .add (.v 30) (.c 1))))],[]⟩,[],[],[]⟩;.cut (((.le x0_ (.c 1099511627776)),.true)::f2_) 1 i_ [(.rn (.wk .i64 (.op .add (.v 30) (.c 1))) 0 (-1))] (shT tSites_T1 i_)),
  (.fin (((.le x0_ (.c 1099511627776)),.false)::f2_) 1 ⟨⟨[],[]⟩,[],[],[]⟩ [] []),
  (.fin (((.le (.c 0) x0_),.false)::f1_) 1 ⟨⟨[],[]⟩,[],[],[]⟩ [] []),
  (.fin (((.lt (.v 30) x1_),.false)::f0_) 0 ⟨⟨[],[]⟩,[],[],[]⟩ [] [])]
def tSites_run (T:Tm):=(ex (ccOf Tryz.prog BF [29,73,75,100] tSites) ((fun cc=>[sSites.ent cc]) (ccOf Tryz.prog BF [29,73,75,100] tSites)) (dw (ccOf Tryz.prog BF [29,73,75,100] tSites) ((fun cc=>[sSites.ent cc]) (ccOf Tryz.prog BF [29,73,75,100] tSites)) 1000 4) (stopX []) 4000 T.f T.fs T.H).lfs (ccOf Tryz.prog BF [29,73,75,100] tSites) ((tm0 tSites Tryz.f141 (Tryz.f141.body.getD .skip))::[tSites_T1]) tSites.os
theorem tSites_h0:tSites_run (tm0 tSites Tryz.f141 (Tryz.f141.body.getD .skip))=some tSites_L0:=by kernel_rfl
theorem tSites_h1:tSites_run tSites_T1=some tSites_L1:=by kernel_rfl
def tSites_inv:(Nat→Int)→(Nat→Bool)→Nat→(Nat→Int)→(Nat→Bool)→Prop:=fun iv0 _ k iv _=>match k with | 0=>True | _=>0≤iv 30∧iv 30≤flenC (iv0 1)∧ovrA (iv0 1) (iv 30)
def tSites_mu:(Nat→Int)→(Nat→Bool)→Nat→(Nat→Int)→(Nat→Bool)→Nat:=fun iv0 _ k iv _=>match k with | 0=>2 ^ 90 | _=>(flenC (iv0 1) - iv 30).toNat
theorem tSites_b {iv0:Nat→Int} (hin:InB tSites.B iv0):((-9223372036854775808)≤iv0 7∧iv0 7≤9223372036854775807)∧((-9223372036854775808)≤iv0 8∧iv0 8≤9223372036854775807)∧((-9223372036854775808)≤iv0 9∧iv0 9≤9223372036854775807):=by
 have b7:=hin 7 (-9223372036854775808) 9223372036854775807 (by simp [tSites,o1,u64b,liF,flF,fH,lH,apN,pbN,apM,pbM,oMo,rowV,zeroV,i64b,SI.fl,flay,flayL,lW,mayV,ints,i64s,lmap])
 simp only [Int.reduceLE,reduceIte,Int.reduceNeg] at b7
 have b8:=hin 8 (-9223372036854775808) 9223372036854775807 (by simp [tSites,o1,u64b,liF,flF,fH,lH,apN,pbN,apM,pbM,oMo,rowV,zeroV,i64b,SI.fl,flay,flayL,lW,mayV,ints,i64s,lmap])
 simp only [Int.reduceLE,reduceIte,Int.reduceNeg] at b8
 have b9:=hin 9 (-9223372036854775808) 9223372036854775807 (by simp [tSites,o1,u64b,liF,flF,fH,lH,apN,pbN,apM,pbM,oMo,rowV,zeroV,i64b,SI.fl,flay,flayL,lW,mayV,ints,i64s,lmap])
 simp only [Int.reduceLE,reduceIte,Int.reduceNeg] at b9
 exact ⟨b7,b8,b9⟩
def tSites_ob (k:Nat) (l:List Lf):Prop:=∀ (kv:Kv) (iv0:Nat→Int) (bv0:Nat→Bool),InB tSites.B iv0→FT (sta FI FB kv iv0 bv0) (dlt dyn0) tSites.F→∀ (iv:Nat→Int) (bv:Nat→Bool),Agr 10 iv0 bv0 iv bv→tSites_inv iv0 bv0 k iv bv→∀ lf∈l,LfT (sta FI FB kv) tSites.os (tSites_inv iv0 bv0) (tSites_mu iv0 bv0) k iv bv lf
theorem tSites_o0:tSites_ob 0 tSites_L0:=by
 intro kv iv0 bv0 hin hF iv bv ha hi
 unfold tSites_L0
 refine List.forall_mem_cons.2 ⟨?_,List.forall_mem_cons.2 ⟨?_,List.forall_mem_cons.2 ⟨?_,List.forall_mem_cons.2 ⟨?_,List.forall_mem_cons.2 ⟨?_,List.forall_mem_nil _⟩⟩⟩⟩⟩
 all_goals
  intro δ hf
 all_goals
  obtain ⟨b7,b8,b9⟩:=tSites_b hin
 all_goals
  have a0:=ha.1 0 (by omega)
  have a1:=ha.1 1 (by omega)
  have a2:=ha.1 2 (by omega)
  have a3:=ha.1 3 (by omega)
  have a4:=ha.1 4 (by omega)
  have a5:=ha.1 5 (by omega)
  have a6:=ha.1 6 (by omega)
  have a7:=ha.1 7 (by omega)
  have a8:=ha.1 8 (by omega)
  have a9:=ha.1 9 (by omega)
 all_goals
  simp only [FT,TP,SB.tp,SI.tv,sta,IB.eval,and_true,true_and,ObsT,Ob.Tv,rowT,kix,In.tiv,↓tbvT,In.tbv,get_cons,get_nil,reduceIte,Nat.reduceEqDiff,Int.reduceToNat,Int.reduceAdd,Int.reduceSub,Int.reduceLE,Int.reduceLT,Int.reduceEq,ne_eq,Bool.false_eq_true,not_true_eq_false,not_false_eq_true,true_iff,false_iff,iff_true,iff_false,false_implies,implies_true,decT,decide_true,decide_false,Bool.decide_eq_true,ap2,pb2,FI_3,FI_3g,FI_4,FI_8,FI_8m,FI_9,FI_8c,FI_8z,FI_200,FB_0,FB_2,Int.toNat_natCast,Int.toNat_zero,FI_64,FB_40,FB_42,tSites_inv,tSites_mu,tSites,o1,othT,o1,u64b,liF,flF,fH,lH,apN,pbN,apM,pbM,oMo,rowV,zeroV,i64b,SI.fl,flay,flayL,lW,mayV,ints,i64s,lmap,a0,a1,a2,a3,a4,a5,a6,a7,a8,a9] at hf hi ⊢
 all_goals
  have n1:=flenC_nn (iv0 1)
 all_goals
  have n2:=flenC_nn (iv0 2)
 all_goals
  have n3:=flenC_nn (iv0 3)
 all_goals
  try simp only [sitR,shpR] at hf ⊢
 all_goals
  have z0:=ovrA_zero (iv0 1)
 all_goals
  (repeat' (with_reducible apply And.intro))<;>first
  | omega
  | assumption
  | (unfold inM;omega)
  | exact trivial
  | (clear hin hF ha;grind)
theorem tSites_o1:tSites_ob 1 tSites_L1:=by
 intro kv iv0 bv0 hin hF iv bv ha hi
 unfold tSites_L1
 refine List.forall_mem_cons.2 ⟨?_,List.forall_mem_cons.2 ⟨?_,List.forall_mem_cons.2 ⟨?_,List.forall_mem_cons.2 ⟨?_,List.forall_mem_nil _⟩⟩⟩⟩
 all_goals
  intro δ hf
 all_goals
  obtain ⟨b7,b8,b9⟩:=tSites_b hin
 all_goals
  have a0:=ha.1 0 (by omega)
  have a1:=ha.1 1 (by omega)
  have a2:=ha.1 2 (by omega)
  have a3:=ha.1 3 (by omega)
  have a4:=ha.1 4 (by omega)
  have a5:=ha.1 5 (by omega)
  have a6:=ha.1 6 (by omega)
  have a7:=ha.1 7 (by omega)
  have a8:=ha.1 8 (by omega)
  have a9:=ha.1 9 (by omega)
 all_goals
  simp only [FT,TP,SB.tp,SI.tv,sta,IB.eval,and_true,true_and,ObsT,Ob.Tv,rowT,kix,In.tiv,↓tbvT,In.tbv,get_cons,get_nil,reduceIte,Nat.reduceEqDiff,Int.reduceToNat,Int.reduceAdd,Int.reduceSub,Int.reduceLE,Int.reduceLT,Int.reduceEq,ne_eq,Bool.false_eq_true,not_true_eq_false,not_false_eq_true,true_iff,false_iff,iff_true,iff_false,false_implies,implies_true,decT,decide_true,decide_false,Bool.decide_eq_true,ap2,pb2,FI_3,FI_3g,FI_4,FI_8,FI_8m,FI_9,FI_8c,FI_8z,FI_200,FB_0,FB_2,Int.toNat_natCast,Int.toNat_zero,FI_64,FB_40,FB_42,tSites_inv,tSites_mu,tSites,o1,othT,o1,u64b,liF,flF,fH,lH,apN,pbN,apM,pbM,oMo,rowV,zeroV,i64b,SI.fl,flay,flayL,lW,mayV,ints,i64s,lmap,a0,a1,a2,a3,a4,a5,a6,a7,a8,a9] at hf hi ⊢
 all_goals
  have n1:=flenC_nn (iv0 1)
 all_goals
  have n2:=flenC_nn (iv0 2)
 all_goals
  have n3:=flenC_nn (iv0 3)
 all_goals
  obtain ⟨g0,g1,g2⟩:=hi
 all_goals
  have w1:IntKind.i64.wrap (iv 30+1)=iv 30+1:=by rw [wrap_i64];omega
 all_goals
  have w2:IntKind.i64.wrap (iv 30+-1)=iv 30+-1:=by rw [wrap_i64];omega
 all_goals
  try simp only [w1,w2] at hf
 all_goals
  try simp only [w1,w2]
 all_goals
  have e1:=@ovrA_suc (iv0 1) (iv 30) g2 g0
 all_goals
  have e2:=@ovrA_no (iv0 1) (iv 30) g0
 all_goals
  have e3:=@ovrA_end (iv0 1) (iv 30) g2
 all_goals
  try simp only [sitR,shpR] at hf ⊢
 all_goals
  (repeat' (with_reducible apply And.intro))<;>first
  | omega
  | assumption
  | (unfold inM;omega)
  | exact trivial
  | (clear hin hF ha;grind)
theorem tSites_c:LsC ((tm0 tSites Tryz.f141 (Tryz.f141.body.getD .skip))::[tSites_T1]) tSites.os [tSites_L0,tSites_L1]:=by
 unfold tSites_L0 tSites_L1
 exact ⟨List.forall_mem_cons.2 ⟨⟨⟨_,rfl,rfl⟩,by kernel_rfl⟩,List.forall_mem_cons.2 ⟨⟨⟨_,rfl,rfl⟩,by kernel_rfl⟩,List.forall_mem_cons.2 ⟨⟨⟨_,rfl,rfl⟩,by kernel_rfl⟩,List.forall_mem_cons.2 ⟨⟨⟨_,rfl,rfl⟩,by kernel_rfl⟩,List.forall_mem_cons.2 ⟨⟨⟨_,rfl,rfl⟩,by kernel_rfl⟩,List.forall_mem_nil _⟩⟩⟩⟩⟩,List.forall_mem_cons.2 ⟨⟨⟨_,rfl,rfl⟩,by kernel_rfl⟩,List.forall_mem_cons.2 ⟨⟨⟨_,rfl,rfl⟩,by kernel_rfl⟩,List.forall_mem_cons.2 ⟨⟨⟨_,rfl,rfl⟩,by kernel_rfl⟩,List.forall_mem_cons.2 ⟨⟨⟨_,rfl,rfl⟩,by kernel_rfl⟩,List.forall_mem_nil _⟩⟩⟩⟩,trivial⟩
theorem tSites_ok:tSites.Ok Tryz.prog FI FB:=
 Con.of_plain (body:=Tryz.f141.body.getD .skip) pok fiok (EntsFor.cons sSites_ok EntsFor.nil) tSites Tryz.func141 (by kernel_rfl) 10 [tSites_T1] (by kernel_rfl) [tSites_L0,tSites_L1] ⟨tSites_h0,tSites_h1,trivial⟩ tSites_c
  tSites_inv tSites_mu (fun _ _ _=>trivial) fun kv iv0 bv0 hin hF k l iv bv hk ha hi=>match k,hk,hi with
  | 0,hk,hi=>by
    cases hk
    exact tSites_o0 kv iv0 bv0 hin hF iv bv ha hi
  | 1,hk,hi=>by
    cases hk
    exact tSites_o1 kv iv0 bv0 hin hF iv bv ha hi
  | k+2,hk,_=>by simp at hk
def tLists_T1:Tm:=⟨⟨143,61,[(25,(.it .i64 (.v 30))),(24,(.it .i64 (.ap 200 (.v 2) (.c 0) (.c 0) (.c 0) (.c 0) (.c 0)))),(23,(.fs 3 (.v 2))),(2,(.pt (.n 1) (.c 0))),(1,(.pt (.n 0) (.c 0)))],[(.code (atC Tryz.f143 [1,1,0,1,0,0])),(.inLoop (atC Tryz.f143 [1,1,0,1,0,0])),(.inBlock 0),(.code (atC Tryz.f143 [1,1,1]))],[],.none⟩,[],
    ⟨[(0,(.cells [(.it .i64 (.v 0)),(.fs 1 (.v 1)),(.fs 3 (.v 2)),(.fs 4 (.v 3)),(.it .i64 (.v 4)),(.it .i64 (.v 5)),(.it .u64 (.v 6)),(.it .i64 (.v 7)),(.it .i64 (.v 8)),(.it .i64 (.v 9))] 88)),(1,(.cells [(.bo (.c .false))] 4))],2,0,0,[((.ap 20 (.v 3) (.ap 200 (.v 3) (.c 0) (.c 0) (.c 0) (.c 0) (.c 0)) (.c 0) (.c 0) (.c 0) (.c 0)),.true),((.ap 30 (.v 2) (.ap 200 (.v 2) (.c 0) (.c 0) (.c 0) (.c 0) (.c 0)) (.c 0) (.c 0) (.c 0) (.c 0)),.true),((.le (.ap 200 (.v 1) (.c 0) (.c 0) (.c 0) (.c 0) (.c 0)) (.c 300)),.true),((.le (.ap 200 (.v 2) (.c 0) (.c 0) (.c 0) (.c 0) (.c 0)) (.c 300)),.true),((.le (.ap 200 (.v 3) (.c 0) (.c 0) (.c 0) (.c 0) (.c 0)) (.c 300)),.true)],[0],[(0,((-9223372036854775808),9223372036854775807)),(4,((-9223372036854775808),9223372036854775807)),(5,((-9223372036854775808),9223372036854775807)),(6,(0,18446744073709551615)),(7,((-9223372036854775808),9223372036854775807)),(8,((-9223372036854775808),9223372036854775807)),(9,((-9223372036854775808),9223372036854775807)),(30,(0,(-1)))]⟩,[30]⟩
def tLists_T2:Tm:=⟨⟨246,16,[(7,(.it .i64 (.v 31))),(6,(.it .i64 (.ap 200 (.v 3) (.c 0) (.c 0) (.c 0) (.c 0) (.c 0)))),(5,(.fs 4 (.v 3))),(0,(.yl 8))],[(.code (atC Tryz.f246 [1,0,0])),(.inLoop (atC Tryz.f246 [1,0,0])),(.inBlock 0)],[],.none⟩,[⟨234,13,[],[(.inRangeFunc 8),(.inBlock 0),(.inScope (atC Tryz.f234 [1,0]))],[7],.none⟩,⟨143,61,[(2,(.pt (.n 1) (.c 0)))],[(.inRangeFunc 4),(.inBlock 2),(.code (atC Tryz.f143 [1,1,1,1]))],[3],.none⟩],
    ⟨[(0,(.cells [(.it .i64 (.v 0)),(.fs 1 (.v 1)),(.fs 3 (.v 2)),(.fs 4 (.v 3)),(.it .i64 (.v 4)),(.it .i64 (.v 5)),(.it .u64 (.v 6)),(.it .i64 (.v 7)),(.it .i64 (.v 8)),(.it .i64 (.v 9))] 88)),(1,(.cells [(.bo (.c .false))] 4)),(2,(.cells [(.fs 4 (.v 3))] 26)),(3,.dfr),(4,(.loop .ready .none 143 61 [(2,(.pt (.n 1) (.c 0))),(1,(.pt (.n 0) (.c 0)))] #[53,54] (atC Tryz.f143 [1,1,1,0,1,0,0]) (atC Tryz.f143 [1,1,1,0,1,0,1]) 3)),(5,(.cells [(.yl 4)] 316)),(6,(.cells [(.fs 4 (.v 3))] 26)),(7,.dfr),(8,(.loop .ready .none 234 13 [(5,(.fn 246 [] [(.pt (.n 6) (.c 0))])),(4,(.fs 4 (.v 3))),(2,(.pt (.n 5) (.c 0))),(0,(.yl 4)),(1,(.pt (.n 2) (.c 0)))] #[6] (atC Tryz.f234 [1,0,1,1,0,0]) (atC Tryz.f234 [1,0,1,1,0,1]) 7))],9,0,0,[((.lt (.v 30) (.ap 200 (.v 2) (.c 0) (.c 0) (.c 0) (.c 0) (.c 0))),.false),((.ap 20 (.v 3) (.ap 200 (.v 3) (.c 0) (.c 0) (.c 0) (.c 0) (.c 0)) (.c 0) (.c 0) (.c 0) (.c 0)),.true),((.ap 30 (.v 2) (.ap 200 (.v 2) (.c 0) (.c 0) (.c 0) (.c 0) (.c 0)) (.c 0) (.c 0) (.c 0) (.c 0)),.true),((.le (.ap 200 (.v 1) (.c 0) (.c 0) (.c 0) (.c 0) (.c 0)) (.c 300)),.true),((.le (.ap 200 (.v 2) (.c 0) (.c 0) (.c 0) (.c 0) (.c 0)) (.c 300)),.true),((.le (.ap 200 (.v 3) (.c 0) (.c 0) (.c 0) (.c 0) (.c 0)) (.c 300)),.true)],[0],[(0,((-9223372036854775808),9223372036854775807)),(4,((-9223372036854775808),9223372036854775807)),(5,((-9223372036854775808),9223372036854775807)),(6,(0,18446744073709551615)),(7,((-9223372036854775808),9223372036854775807)),(8,((-9223372036854775808),9223372036854775807)),(9,((-9223372036854775808),9223372036854775807)),(31,(0,(-1)))]⟩,[31]⟩
def tLists_L0:List Lf:=
 let x0_:SI:=(.ap 200 (.v 2) (.c 0) (.c 0) (.c 0) (.c 0) (.c 0))
 let x1_:SI:=(.ap 200 (.v 3) (.c 0) (.c 0) (.c 0) (.c 0) (.c 0))
 let f0_:List (SB×Bool):=[((.le (.ap 200 (.v 1) (.c 0) (.c 0) (.c 0) (.c 0) (.c 0)) (.c 300)),.true),((.le x0_ (.c 300)),.true),((.le x1_ (.c 300)),.true)]
 let f1_:List (SB×Bool):=((.ap 30 (.v 2) x0_ (.c 0) (.c 0) (.c 0) (.c 0)),.true)::f0_
 [(.cut (((.ap 20 (.v 3) x1_ (.c 0) (.c 0) (.c 0) (.c 0)),.true)::f1_) 1 ⟨⟨[(30,(.c 0))],[]⟩,[(0,0),(1,1)],[],[]⟩ [] (shT tLists_T1 ⟨⟨[(30,(.c 0))],[]⟩,[(0,0),(1,1)],[],[]⟩)),
  (.fin (((.ap 20 (.v 3) x1_ (.c 0) (.c 0) (.c 0) (.c 0)),.false)::f1_) 1 ⟨⟨[],[]⟩,[],[],[]⟩ [] []),
  (.fin (((.ap 30 (.v 2) x0_ (.c 0) (.c 0) (.c 0) (.c 0)),.false)::f0_) 1 ⟨⟨[],[]⟩,[],[],[]⟩ [] [])]
def tLists_L1:List Lf:=
 let x0_:SI:=(.ap 3 (.v 2) (.v 30) (.c 0) (.c 0) (.c 0) (.c 0))
 let x1_:SI:=(.ap 200 (.v 3) (.c 0) (.c 0) (.c 0) (.c 0) (.c 0))
 let x2_:SI:=(.ap 200 (.v 2) (.c 0) (.c 0) (.c 0) (.c 0) (.c 0))
 let x3_:SI:=(.ap 200 (.v 1) (.c 0) (.c 0) (.c 0) (.c 0) (.c 0))
 let x4_:SI:=(.wk .i64 (.op .add (.ap 3 (.v 2) (.v 30) (.c 1) (.c 0) (.c 0) (.c 0)) (.c (-1))))
 let x5_:SI:=(.ap 3 (.v 1) x0_ (.c 0) (.c 0) (.c 0) (.c 0))
 let x6_:SI:=(.ap 21 (.v 3) x1_ x0_ (.c 0) (.c 0) (.c 0))
 let f0_:List (SB×Bool):=[((.ap 20 (.v 3) x1_ (.c 0) (.c 0) (.c 0) (.c 0)),.true),((.ap 30 (.v 2) x2_ (.c 0) (.c 0) (.c 0) (.c 0)),.true),((.le x3_ (.c 300)),.true),((.le x2_ (.c 300)),.true),((.le x1_ (.c 300)),.true)]
 let f1_:List (SB×Bool):=((.lt (.v 30) x2_),.true)::f0_
 let f2_:List (SB×Bool):=((.ap 25 (.v 3) x1_ x0_ (.c 0) (.c 0) (.c 0)),.false)::f1_
 let f3_:List (SB×Bool):=((.lt x0_ x3_),.true)::f2_
 let f4_:List (SB×Bool):=((.le (.c 0) x0_),.true)::f3_
 [(.fin (((.lt x6_ x1_),.true)::((.le (.c 0) x6_),.true)::((.ap 25 (.v 3) x1_ x0_ (.c 0) (.c 0) (.c 0)),.true)::f1_) 1 ⟨⟨[],[]⟩,[],[],[]⟩ [] []),
  (let i_:In:=⟨⟨[(30,(.wk .i64 (.op .add (.v 30) (.c 1))))],[]⟩,[(0,0),(1,1)],[],[]⟩;.cut (((.eq x4_ x5_),.true)::f4_) 1 i_ [(.rn (.wk .i64 (.op .add (.v 30) (.c 1))) 0 (-1))] (shT tLists_T1 i_)),
  (.fin (((.eq x4_ x5_),.false)::f4_) 1 ⟨⟨[],[]⟩,[],[],[]⟩ [] []),
  (.bad (((.le (.c 0) x0_),.false)::f3_)),
  (.fin (((.lt x0_ x3_),.false)::f2_) 1 ⟨⟨[],[]⟩,[],[],[]⟩ [] []),
  (let i_:In:=⟨⟨[(31,(.c 0))],[]⟩,[(2,2),(5,5),(6,6),(0,0),(4,4),(3,3),(1,1),(7,7),(8,8)],[],[]⟩;.cut (((.lt (.v 30) x2_),.false)::f0_) 2 i_ [] (shT tLists_T2 i_))]
def tLists_L2:List Lf:=
 let x0_:SI:=(.ap 3 (.v 3) (.v 31) (.c 0) (.c 0) (.c 0) (.c 0))
 let x1_:SI:=(.ap 200 (.v 2) (.c 0) (.c 0) (.c 0) (.c 0) (.c 0))
 let x2_:SI:=(.ap 200 (.v 3) (.c 0) (.c 0) (.c 0) (.c 0) (.c 0))
 let x3_:SI:=(.ap 200 (.v 1) (.c 0) (.c 0) (.c 0) (.c 0) (.c 0))
 let x4_:SI:=(.wk .i64 (.op .add (.ap 3 (.v 3) (.v 31) (.c 1) (.c 0) (.c 0) (.c 0)) (.c (-1))))
 let x5_:SI:=(.ap 3 (.v 1) x0_ (.c 0) (.c 0) (.c 0) (.c 0))
 let f0_:List (SB×Bool):=[((.lt (.v 30) x1_),.false),((.ap 20 (.v 3) x2_ (.c 0) (.c 0) (.c 0) (.c 0)),.true),((.ap 30 (.v 2) x1_ (.c 0) (.c 0) (.c 0) (.c 0)),.true),((.le x3_ (.c 300)),.true),((.le x1_ (.c 300)),.true),((.le x2_ (.c 300)),.true)]
 let f1_:List (SB×Bool):=((.lt (.v 31) x2_),.true)::f0_
 let f2_:List (SB×Bool):=((.lt x0_ x3_),.true)::f1_
 let f3_:List (SB×Bool):=((.le (.c 0) x0_),.true)::f2_
 [(let i_:In:=⟨⟨[(31,(.wk .i64 (.op .add (.v 31) (.c 1))))],[]⟩,[(2,2),(5,5),(6,6),(0,0),(4,4),(3,3),(1,1),(7,7),(8,8)],[],[]⟩;.cut (((.eq x4_ x5_),.true)::f3_) 2 i_ [(.rn (.wk .i64 (.op .add (.v 31) (.c 1))) 0 (-1))] (shT tLists_T2 i_)),
  (.fin (((.eq x4_ x5_),.false)::f3_) 1 ⟨⟨[],[]⟩,[],[],[]⟩ [] []),
  (.bad (((.le (.c 0) x0_),.false)::f2_)),
  (.fin (((.lt x0_ x3_),.false)::f1_) 1 ⟨⟨[],[]⟩,[],[],[]⟩ [] []),
  (.fin (((.lt (.v 31) x2_),.false)::f0_) 0 ⟨⟨[],[]⟩,[],[],[]⟩ [(.fa (.le x1_ (.c 256)) .true),(.fa (.le x2_ (.c 256)) .true)] [])]
def tLists_run (T:Tm):=(ex (ccOf Tryz.prog BF [29,73,75,100] tLists) ((fun cc=>[wCheck.ent cc,hCheck.ent cc,hFind.ent cc,hOf.ent cc,cC4.ent cc]) (ccOf Tryz.prog BF [29,73,75,100] tLists)) (dw (ccOf Tryz.prog BF [29,73,75,100] tLists) ((fun cc=>[wCheck.ent cc,hCheck.ent cc,hFind.ent cc,hOf.ent cc,cC4.ent cc]) (ccOf Tryz.prog BF [29,73,75,100] tLists)) 1000 4) (stopX []) 4000 T.f T.fs T.H).lfs (ccOf Tryz.prog BF [29,73,75,100] tLists) ((tm0 tLists Tryz.f143 (Tryz.f143.body.getD .skip))::[tLists_T1,tLists_T2]) tLists.os
theorem tLists_h0:tLists_run (tm0 tLists Tryz.f143 (Tryz.f143.body.getD .skip))=some tLists_L0:=by kernel_rfl
theorem tLists_h1:tLists_run tLists_T1=some tLists_L1:=by kernel_rfl
theorem tLists_h2:tLists_run tLists_T2=some tLists_L2:=by kernel_rfl
def tLists_inv:(Nat→Int)→(Nat→Bool)→Nat→(Nat→Int)→(Nat→Bool)→Prop:=fun iv0 _ k iv _=>match k with | 0=>True | 1=>0≤iv 30∧iv 30≤flenC (iv0 2)∧wtA (iv0 1) (iv0 2) (iv0 3) (iv 30) | _=>wtA (iv0 1) (iv0 2) (iv0 3) (flenC (iv0 2))∧0≤iv 31∧iv 31≤flenC (iv0 3)∧hdA (iv0 1) (iv0 3) (iv 31)
def tLists_mu:(Nat→Int)→(Nat→Bool)→Nat→(Nat→Int)→(Nat→Bool)→Nat:=fun iv0 _ k iv _=>match k with | 0=>2 ^ 90 | 1=>(flenC (iv0 2) - iv 30).toNat+2 ^ 60 | _=>(flenC (iv0 3) - iv 31).toNat
theorem tLists_b {iv0:Nat→Int} (hin:InB tLists.B iv0):((-9223372036854775808)≤iv0 7∧iv0 7≤9223372036854775807)∧((-9223372036854775808)≤iv0 8∧iv0 8≤9223372036854775807)∧((-9223372036854775808)≤iv0 9∧iv0 9≤9223372036854775807):=by
 have b7:=hin 7 (-9223372036854775808) 9223372036854775807 (by simp [tLists,o1,u64b,liF,flF,fH,lH,apN,pbN,apM,pbM,oMo,rowV,zeroV,i64b,SI.fl,flay,flayL,lW,mayV,ints,i64s,lmap])
 simp only [Int.reduceLE,reduceIte,Int.reduceNeg] at b7
 have b8:=hin 8 (-9223372036854775808) 9223372036854775807 (by simp [tLists,o1,u64b,liF,flF,fH,lH,apN,pbN,apM,pbM,oMo,rowV,zeroV,i64b,SI.fl,flay,flayL,lW,mayV,ints,i64s,lmap])
 simp only [Int.reduceLE,reduceIte,Int.reduceNeg] at b8
 have b9:=hin 9 (-9223372036854775808) 9223372036854775807 (by simp [tLists,o1,u64b,liF,flF,fH,lH,apN,pbN,apM,pbM,oMo,rowV,zeroV,i64b,SI.fl,flay,flayL,lW,mayV,ints,i64s,lmap])
 simp only [Int.reduceLE,reduceIte,Int.reduceNeg] at b9
 exact ⟨b7,b8,b9⟩
def tLists_ob (k:Nat) (l:List Lf):Prop:=∀ (kv:Kv) (iv0:Nat→Int) (bv0:Nat→Bool),InB tLists.B iv0→FT (sta FI FB kv iv0 bv0) (dlt dyn0) tLists.F→∀ (iv:Nat→Int) (bv:Nat→Bool),Agr 10 iv0 bv0 iv bv→tLists_inv iv0 bv0 k iv bv→∀ lf∈l,LfT (sta FI FB kv) tLists.os (tLists_inv iv0 bv0) (tLists_mu iv0 bv0) k iv bv lf
theorem tLists_o0:tLists_ob 0 tLists_L0:=by
 intro kv iv0 bv0 hin hF iv bv ha hi
 unfold tLists_L0
 refine List.forall_mem_cons.2 ⟨?_,List.forall_mem_cons.2 ⟨?_,List.forall_mem_cons.2 ⟨?_,List.forall_mem_nil _⟩⟩⟩
 all_goals
  intro δ hf
 all_goals
  obtain ⟨b7,b8,b9⟩:=tLists_b hin
 all_goals
  have a0:=ha.1 0 (by omega)
  have a1:=ha.1 1 (by omega)
  have a2:=ha.1 2 (by omega)
  have a3:=ha.1 3 (by omega)
  have a4:=ha.1 4 (by omega)
  have a5:=ha.1 5 (by omega)
  have a6:=ha.1 6 (by omega)
  have a7:=ha.1 7 (by omega)
  have a8:=ha.1 8 (by omega)
  have a9:=ha.1 9 (by omega)
 all_goals
  simp only [FT,TP,SB.tp,SI.tv,sta,IB.eval,and_true,true_and,ObsT,Ob.Tv,rowT,kix,In.tiv,↓tbvT,In.tbv,get_cons,get_nil,reduceIte,Nat.reduceEqDiff,Int.reduceToNat,Int.reduceAdd,Int.reduceSub,Int.reduceLE,Int.reduceLT,Int.reduceEq,ne_eq,Bool.false_eq_true,not_true_eq_false,not_false_eq_true,true_iff,false_iff,iff_true,iff_false,false_implies,implies_true,decT,decide_true,decide_false,Bool.decide_eq_true,ap2,pb2,FI_3,FI_3g,FI_4,FI_8,FI_8m,FI_9,FI_8c,FI_8z,FI_200,FB_0,FB_2,Int.toNat_natCast,Int.toNat_zero,FI_20,FI_21,FB_20,FB_25,FB_30,FB_43,tLists_inv,tLists_mu,tLists,o1,othT,o1,u64b,liF,flF,fH,lH,apN,pbN,apM,pbM,oMo,rowV,zeroV,i64b,SI.fl,flay,flayL,lW,mayV,ints,i64s,lmap,a0,a1,a2,a3,a4,a5,a6,a7,a8,a9] at hf hi ⊢
 all_goals
  have n1:=flenC_nn (iv0 1)
 all_goals
  have n2:=flenC_nn (iv0 2)
 all_goals
  have n3:=flenC_nn (iv0 3)
 all_goals
  have e6:=wtA_zero (iv0 1) (iv0 2) (iv0 3)
 all_goals
  try simp only [lisR]
 all_goals
  (repeat' (with_reducible apply And.intro))<;>first
  | omega
  | assumption
  | (unfold inM;omega)
  | exact trivial
  | (clear hin hF ha;grind)
theorem tLists_o1:tLists_ob 1 tLists_L1:=by
 intro kv iv0 bv0 hin hF iv bv ha hi
 unfold tLists_L1
 refine List.forall_mem_cons.2 ⟨?_,List.forall_mem_cons.2 ⟨?_,List.forall_mem_cons.2 ⟨?_,List.forall_mem_cons.2 ⟨?_,List.forall_mem_cons.2 ⟨?_,List.forall_mem_cons.2 ⟨?_,List.forall_mem_nil _⟩⟩⟩⟩⟩⟩
 all_goals
  intro δ hf
 all_goals
  obtain ⟨b7,b8,b9⟩:=tLists_b hin
 all_goals
  have a0:=ha.1 0 (by omega)
  have a1:=ha.1 1 (by omega)
  have a2:=ha.1 2 (by omega)
  have a3:=ha.1 3 (by omega)
  have a4:=ha.1 4 (by omega)
  have a5:=ha.1 5 (by omega)
  have a6:=ha.1 6 (by omega)
  have a7:=ha.1 7 (by omega)
  have a8:=ha.1 8 (by omega)
  have a9:=ha.1 9 (by omega)
 all_goals
  simp only [FT,TP,SB.tp,SI.tv,sta,IB.eval,and_true,true_and,ObsT,Ob.Tv,rowT,kix,In.tiv,↓tbvT,In.tbv,get_cons,get_nil,reduceIte,Nat.reduceEqDiff,Int.reduceToNat,Int.reduceAdd,Int.reduceSub,Int.reduceLE,Int.reduceLT,Int.reduceEq,ne_eq,Bool.false_eq_true,not_true_eq_false,not_false_eq_true,true_iff,false_iff,iff_true,iff_false,false_implies,implies_true,decT,decide_true,decide_false,Bool.decide_eq_true,ap2,pb2,FI_3,FI_3g,FI_4,FI_8,FI_8m,FI_9,FI_8c,FI_8z,FI_200,FB_0,FB_2,Int.toNat_natCast,Int.toNat_zero,FI_20,FI_21,FB_20,FB_25,FB_30,FB_43,tLists_inv,tLists_mu,tLists,o1,othT,o1,u64b,liF,flF,fH,lH,apN,pbN,apM,pbM,oMo,rowV,zeroV,i64b,SI.fl,flay,flayL,lW,mayV,ints,i64s,lmap,a0,a1,a2,a3,a4,a5,a6,a7,a8,a9] at hf hi ⊢
 all_goals
  have n1:=flenC_nn (iv0 1)
 all_goals
  have n2:=flenC_nn (iv0 2)
 all_goals
  have n3:=flenC_nn (iv0 3)
 all_goals
  obtain ⟨g0,g1,g2⟩:=hi
 all_goals
  have w1:IntKind.i64.wrap (iv 30+1)=iv 30+1:=by rw [wrap_i64];omega
 all_goals
  have w2:IntKind.i64.wrap (iv 30+-1)=iv 30+-1:=by rw [wrap_i64];omega
 all_goals
  try simp only [w1,w2] at hf
 all_goals
  try simp only [w1,w2]
 all_goals
  have e1:=@rgt_w (iv0 2) (flenC (iv0 2)) (iv 30)
 all_goals
  have e2:=@i64_sub (fl (iv0 2) (iv 30).toNat 1)
 all_goals
  have e3:=@wtA_suc (iv0 1) (iv0 2) (iv0 3) (iv 30) g2 g0
 all_goals
  have e4:=@wtA_no (iv0 1) (iv0 2) (iv0 3) (iv 30) g0
 all_goals
  have e5:=@wtA_end (iv0 1) (iv0 2) (iv0 3) (iv 30) g2
 all_goals
  have e6:=hdA_zero (iv0 1) (iv0 3)
 all_goals
  unfold wtP at e3 e4
 all_goals
  try simp only [hasP,lisR] at hf ⊢
 all_goals
  (repeat' (with_reducible apply And.intro))<;>first
  | omega
  | assumption
  | (unfold inM;omega)
  | exact trivial
  | (clear hin hF ha;grind)
theorem tLists_o2:tLists_ob 2 tLists_L2:=by
 intro kv iv0 bv0 hin hF iv bv ha hi
 unfold tLists_L2
 refine List.forall_mem_cons.2 ⟨?_,List.forall_mem_cons.2 ⟨?_,List.forall_mem_cons.2 ⟨?_,List.forall_mem_cons.2 ⟨?_,List.forall_mem_cons.2 ⟨?_,List.forall_mem_nil _⟩⟩⟩⟩⟩
 all_goals
  intro δ hf
 all_goals
  obtain ⟨b7,b8,b9⟩:=tLists_b hin
 all_goals
  have a0:=ha.1 0 (by omega)
  have a1:=ha.1 1 (by omega)
  have a2:=ha.1 2 (by omega)
  have a3:=ha.1 3 (by omega)
  have a4:=ha.1 4 (by omega)
  have a5:=ha.1 5 (by omega)
  have a6:=ha.1 6 (by omega)
  have a7:=ha.1 7 (by omega)
  have a8:=ha.1 8 (by omega)
  have a9:=ha.1 9 (by omega)
 all_goals
  simp only [FT,TP,SB.tp,SI.tv,sta,IB.eval,and_true,true_and,ObsT,Ob.Tv,rowT,kix,In.tiv,↓tbvT,In.tbv,get_cons,get_nil,reduceIte,Nat.reduceEqDiff,Int.reduceToNat,Int.reduceAdd,Int.reduceSub,Int.reduceLE,Int.reduceLT,Int.reduceEq,ne_eq,Bool.false_eq_true,not_true_eq_false,not_false_eq_true,true_iff,false_iff,iff_true,iff_false,false_implies,implies_true,decT,decide_true,decide_false,Bool.decide_eq_true,ap2,pb2,FI_3,FI_3g,FI_4,FI_8,FI_8m,FI_9,FI_8c,FI_8z,FI_200,FB_0,FB_2,Int.toNat_natCast,Int.toNat_zero,FI_20,FI_21,FB_20,FB_25,FB_30,FB_43,tLists_inv,tLists_mu,tLists,o1,othT,o1,u64b,liF,flF,fH,lH,apN,pbN,apM,pbM,oMo,rowV,zeroV,i64b,SI.fl,flay,flayL,lW,mayV,ints,i64s,lmap,a0,a1,a2,a3,a4,a5,a6,a7,a8,a9] at hf hi ⊢
 all_goals
  have n1:=flenC_nn (iv0 1)
 all_goals
  have n2:=flenC_nn (iv0 2)
 all_goals
  have n3:=flenC_nn (iv0 3)
 all_goals
  obtain ⟨g0,g1,g2,g3⟩:=hi
 all_goals
  have w1:IntKind.i64.wrap (iv 31+1)=iv 31+1:=by rw [wrap_i64];omega
 all_goals
  have w2:IntKind.i64.wrap (iv 31+-1)=iv 31+-1:=by rw [wrap_i64];omega
 all_goals
  try simp only [w1,w2] at hf
 all_goals
  try simp only [w1,w2]
 all_goals
  have e1:=@rgt_h (iv0 3) (flenC (iv0 3)) (iv 31)
 all_goals
  have e2:=@i64_sub (fl (iv0 3) (iv 31).toNat 1)
 all_goals
  have e3:=@hdA_suc (iv0 1) (iv0 3) (iv 31) g3 g1
 all_goals
  have e4:=@hdA_no (iv0 1) (iv0 2) (iv0 3) (iv 31) g1
 all_goals
  have e5:=@hdA_end (iv0 1) (iv0 2) (iv0 3) (iv 31) g3 g0
 all_goals
  have e6:=@rgt_few (iv0 3) (flenC (iv0 3))
 all_goals
  unfold hdP at e3 e4
 all_goals
  try simp only [lisR] at hf ⊢
 all_goals
  have e7:rgtW (iv0 2) (flenC (iv0 2))→flenC (iv0 2)≤256:=fun h=>h.1
 all_goals
  (repeat' (with_reducible apply And.intro))<;>first
  | omega
  | assumption
  | (unfold inM;omega)
  | exact trivial
  | (clear hin hF ha;grind)
theorem tLists_c:LsC ((tm0 tLists Tryz.f143 (Tryz.f143.body.getD .skip))::[tLists_T1,tLists_T2]) tLists.os [tLists_L0,tLists_L1,tLists_L2]:=by
 unfold tLists_L0 tLists_L1 tLists_L2
 exact ⟨List.forall_mem_cons.2 ⟨⟨⟨_,rfl,rfl⟩,by kernel_rfl⟩,List.forall_mem_cons.2 ⟨⟨⟨_,rfl,rfl⟩,by kernel_rfl⟩,List.forall_mem_cons.2 ⟨⟨⟨_,rfl,rfl⟩,by kernel_rfl⟩,List.forall_mem_nil _⟩⟩⟩,List.forall_mem_cons.2 ⟨⟨⟨_,rfl,rfl⟩,by kernel_rfl⟩,List.forall_mem_cons.2 ⟨⟨⟨_,rfl,rfl⟩,by kernel_rfl⟩,List.forall_mem_cons.2 ⟨⟨⟨_,rfl,rfl⟩,by kernel_rfl⟩,List.forall_mem_cons.2 ⟨trivial,List.forall_mem_cons.2 ⟨⟨⟨_,rfl,rfl⟩,by kernel_rfl⟩,List.forall_mem_cons.2 ⟨⟨⟨_,rfl,rfl⟩,by kernel_rfl⟩,List.forall_mem_nil _⟩⟩⟩⟩⟩⟩,List.forall_mem_cons.2 ⟨⟨⟨_,rfl,rfl⟩,by kernel_rfl⟩,List.forall_mem_cons.2 ⟨⟨⟨_,rfl,rfl⟩,by kernel_rfl⟩,List.forall_mem_cons.2 ⟨trivial,List.forall_mem_cons.2 ⟨⟨⟨_,rfl,rfl⟩,by kernel_rfl⟩,List.forall_mem_cons.2 ⟨⟨⟨_,rfl,rfl⟩,by kernel_rfl⟩,List.forall_mem_nil _⟩⟩⟩⟩⟩,trivial⟩
theorem tLists_ok:tLists.Ok Tryz.prog FI FB:=
 Con.of_plain (body:=Tryz.f143.body.getD .skip) pok fiok (EntsFor.cons wCheck_ok (EntsFor.cons hCheck_ok (EntsFor.cons hFind_ok (EntsFor.cons hOf_ok (EntsFor.cons cC4_ok EntsFor.nil))))) tLists Tryz.func143 (by kernel_rfl) 10 [tLists_T1,tLists_T2] (by kernel_rfl) [tLists_L0,tLists_L1,tLists_L2] ⟨tLists_h0,tLists_h1,tLists_h2,trivial⟩ tLists_c
  tLists_inv tLists_mu (fun _ _ _=>trivial) fun kv iv0 bv0 hin hF k l iv bv hk ha hi=>match k,hk,hi with
  | 0,hk,hi=>by
    cases hk
    exact tLists_o0 kv iv0 bv0 hin hF iv bv ha hi
  | 1,hk,hi=>by
    cases hk
    exact tLists_o1 kv iv0 bv0 hin hF iv bv ha hi
  | 2,hk,hi=>by
    cases hk
    exact tLists_o2 kv iv0 bv0 hin hF iv bv ha hi
  | k+3,hk,_=>by simp at hk
end
end Go.Sx.Tk
