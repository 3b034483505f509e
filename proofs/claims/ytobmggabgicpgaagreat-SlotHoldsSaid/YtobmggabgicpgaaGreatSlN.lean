/- Timers: a map's keys in order, by contract. -/
import Derived.Test.YtobmggabgicpgaaGreatSlM
namespace Go.Sx.Sl
set_option linter.unusedVariables false
set_option linter.unusedSimpArgs false
set_option maxRecDepth 100000
set_option maxHeartbeats 0
noncomputable section
open Go Go.Sx Go.Sx.Ti Go.Proofs
def ap1 (f:Nat):SI:=.ap f (.v 0) (.c 0) (.c 0) (.c 0) (.c 0) (.c 0)
def pb1 (f:Nat):SB:=.ap f (.v 0) (.c 0) (.c 0) (.c 0) (.c 0) (.c 0)
def lnS:SI:=.ap 8 (.v 0) (.c 0) (.c 0) (.c 0) (.c 2) (.c 0)
def mK:List (Nat×Bk):=[(0,.mapc .i64 .i64 (.v 0)),(1,.cells [.mp (.n 0)] 113)]
def tKeys:Com:=⟨82,[0],[.mp (.n 0),clV],mK,2,[],[(pb1 30,true),(.le lnS (.c 1000000),true)],
 [⟨[(.lt (.c 0) lnS,false)],.sn,mK,2,0,[]⟩,⟨[(.lt (.c 0) lnS,true)],.sl (.n 2) (.c 0) lnS (.d 0),(2,.arr kI (ap1 30) lnS 3 (.d 0))::mK,3,1,[(.le lnS (.d 0),true)]⟩],.c 0⟩
def tKeys_T1:Tm:=⟨⟨104,14,[(5,(.pt (.n 6) (.c 0))),(0,(.yl 5))],[(.code (atC Tryz.f104 [1,0,0])),(.inLoop (atC Tryz.f104 [1,0,0])),(.inBlock 0)],[],.none⟩,[⟨105,13,[(2,(.pt (.n 3) (.c 0)))],[(.inRangeFunc 5),(.inBlock 0),(.code (atC Tryz.f105 [1,1]))],[4],.none⟩,⟨102,5,[(3,(.fn 104 [] [(.pt (.n 2) (.c 0))]))],[(.inRegion (opsC (atC Tryz.f102 [1,0])) [1,2]),(.code Code.ret)],[],.none⟩,⟨96,12,[(6,(.fn 104 [] [(.pt (.n 2) (.c 0))])),(1,(.fn 83 [] [(.pt (.n 1) (.c 0))]))],[(.inRegion (opsC (atC Tryz.f96 [1,0])) [1,2]),(.code (atC Tryz.f96 [1,1]))],[],.none⟩,⟨82,9,[(7,(.fn 83 [] [(.pt (.n 1) (.c 0))])),(6,(.fn 104 [] [(.pt (.n 2) (.c 0))]))],[(.inRegion (opsC (atC Tryz.f82 [1,0])) [3,4]),(.code Code.ret)],[],.none⟩],
    ⟨[(0,(.mapc .i64 .i64 (.v 0))),(1,(.cells [(.mp (.n 0))] 113)),(2,(.cells [(.mp (.n 0))] 113)),(3,(.cells [.sn] 45)),(4,.dfr),(5,(.loop .ready .none 105 13 [(2,(.pt (.n 3) (.c 0)))] #[7] (atC Tryz.f105 [1,0,1,0,0]) (atC Tryz.f105 [1,0,1,0,1]) 4)),(6,(.miter 0 (.v 0) (.c 0) .none))],7,0,0,[((.ap 30 (.v 0) (.c 0) (.c 0) (.c 0) (.c 0) (.c 0)),.true),((.le (.ap 8 (.v 0) (.c 0) (.c 0) (.c 0) (.c 2) (.c 0)) (.c 1000000)),.true)],[0],[]⟩,[]⟩
def tKeys_T2:Tm:=⟨⟨104,14,[(5,(.pt (.n 6) (.c 0))),(0,(.yl 5))],[(.code (atC Tryz.f104 [1,0,0])),(.inLoop (atC Tryz.f104 [1,0,0])),(.inBlock 0)],[],.none⟩,[⟨105,13,[(2,(.pt (.n 3) (.c 0)))],[(.inRangeFunc 5),(.inBlock 0),(.code (atC Tryz.f105 [1,1]))],[4],.none⟩,⟨102,5,[(3,(.fn 104 [] [(.pt (.n 2) (.c 0))]))],[(.inRegion (opsC (atC Tryz.f102 [1,0])) [1,2]),(.code Code.ret)],[],.none⟩,⟨96,12,[(6,(.fn 104 [] [(.pt (.n 2) (.c 0))])),(1,(.fn 83 [] [(.pt (.n 1) (.c 0))]))],[(.inRegion (opsC (atC Tryz.f96 [1,0])) [1,2]),(.code (atC Tryz.f96 [1,1]))],[],.none⟩,⟨82,9,[(7,(.fn 83 [] [(.pt (.n 1) (.c 0))])),(6,(.fn 104 [] [(.pt (.n 2) (.c 0))]))],[(.inRegion (opsC (atC Tryz.f82 [1,0])) [3,4]),(.code Code.ret)],[],.none⟩],
    ⟨[(0,(.mapc .i64 .i64 (.v 0))),(1,(.cells [(.mp (.n 0))] 113)),(2,(.cells [(.mp (.n 0))] 113)),(3,(.cells [(.sl (.n 8) (.c 0) (.v 29) (.v 22))] 45)),(4,.dfr),(5,(.loop .ready .none 105 13 [(2,(.pt (.n 3) (.c 0)))] #[7] (atC Tryz.f105 [1,0,1,0,0]) (atC Tryz.f105 [1,0,1,0,1]) 4)),(6,(.miter 0 (.v 0) (.v 28) (.some (.ap 3 (.v 0) (.v 21) (.c 0) (.c 2) (.c 0) (.c 0))))),(8,(.arr [(.nt .i64)] (.v 32) (.v 29) 3 (.v 22)))],9,0,0,[((.ap 1 (.v 0) (.c 0) (.c 1) (.c 0) (.c 0) (.c 0)),.false),((.ap 30 (.v 0) (.c 0) (.c 0) (.c 0) (.c 0) (.c 0)),.true),((.le (.ap 8 (.v 0) (.c 0) (.c 0) (.c 0) (.c 2) (.c 0)) (.c 1000000)),.true),((.le (.v 29) (.v 22)),.true)],[0],[(29,(1,1000000))]⟩,[28,29,32,21,22]⟩
def tKeys_L0:List Lf:=
 [(let i_:In:=⟨⟨[],[]⟩,[(0,0),(1,1),(2,2),(4,4),(3,3),(5,5),(6,6)],[],[]⟩;.cut ([((.ap 30 (.v 0) (.c 0) (.c 0) (.c 0) (.c 0) (.c 0)),.true),((.le (.ap 8 (.v 0) (.c 0) (.c 0) (.c 0) (.c 2) (.c 0)) (.c 1000000)),.true)]) 1 i_ [] (shT tKeys_T1 i_))]
def tKeys_L1:List Lf:=
 let x0_:SI:=(.ap 3 (.v 0) (.d 0) (.c 0) (.c 2) (.c 0) (.c 0))
 let f0_:List (SB×Bool):=[((.ap 30 (.v 0) (.c 0) (.c 0) (.c 0) (.c 0) (.c 0)),.true),((.le (.ap 8 (.v 0) (.c 0) (.c 0) (.c 0) (.c 2) (.c 0)) (.c 1000000)),.true)]
 [(.fin (((.ap 1 (.v 0) (.c 0) (.c 1) (.c 0) (.c 0) (.c 0)),.true)::f0_) 0 ⟨⟨[],[]⟩,[(1,1),(0,0)],[],[]⟩ [] [.none,.none]),
  (let i_:In:=⟨⟨[(32,(.ap 8 (.c 0) (.c 0) (.c 0) x0_ (.c 0) (.c 0))),(21,(.d 0)),(28,(.ap 8 (.c 0) x0_ (.c 0) (.c 0) (.c 1) (.c 0))),(22,(.d 1)),(29,(.c 1))],[]⟩,[(8,8),(0,0),(1,1),(2,2),(4,4),(3,3),(5,5),(6,6)],[],[]⟩;.cut (((.le (.c 1) (.d 1)),.true)::((.ap 1 (.c 0) x0_ (.c 0) (.c 0) (.c 0) (.c 0)),.false)::((.ap 1 (.v 0) x0_ (.c 0) (.c 0) (.c 0) (.c 0)),.true)::((.le (.c 0) (.d 0)),.true)::((.ap 1 (.v 0) (.c 0) (.c 1) (.c 0) (.c 0) (.c 0)),.false)::f0_) 2 i_ [(.ei (.ap 3 (.ap 8 (.c 0) (.c 0) (.c 0) x0_ (.c 0) (.c 0)) (.c 0) (.c 0) (.c 0) (.c 0) (.c 0)) (.ap 3 (.v 0) (.d 0) (.c 0) (.c 2) (.c 0) (.c 0))),(.fa (.le (.c 1) (.c 1)) .true),(.fa (.le (.c 1) (.d 1)) .true)] (shT tKeys_T2 i_))]
def tKeys_L2:List Lf:=
 let x0_:SI:=(.ap 8 (.v 0) (.c 0) (.c 0) (.c 0) (.c 2) (.c 0))
 let x1_:SI:=(.ap 3 (.v 0) (.d 0) (.c 0) (.c 2) (.c 0) (.c 0))
 let f0_:List (SB×Bool):=[((.ap 1 (.v 0) (.c 0) (.c 1) (.c 0) (.c 0) (.c 0)),.false),((.ap 30 (.v 0) (.c 0) (.c 0) (.c 0) (.c 0) (.c 0)),.true),((.le x0_ (.c 1000000)),.true),((.le (.v 29) (.v 22)),.true)]
 [(.fin (((.ap 1 (.v 0) (.v 28) (.c 1) (.c 0) (.c 0) (.c 0)),.true)::f0_) 1 ⟨⟨[],[]⟩,[(2,8),(1,1),(0,0)],[(0,(.v 22))],[]⟩ [(.ei (.ap 8 (.v 0) (.c 0) (.c 0) (.c 0) (.c 2) (.c 0)) (.v 29)),(.ar [(.nt .i64)] (.ap 30 (.v 0) (.c 0) (.c 0) (.c 0) (.c 0) (.c 0)) (.ap 31 (.v 32) (.v 29) (.v 0) (.c 0) (.c 0) (.c 0)) (.ap 8 (.v 0) (.c 0) (.c 0) (.c 0) (.c 2) (.c 0))),(.fa (.le x0_ (.v 29)) .true),(.fa (.le (.c 0) x0_) .true),(.fa (.le x0_ (.v 22)) .true)] [.none,.none,.none]),
  (let i_:In:=⟨⟨[(32,(.ap 8 (.v 32) (.v 29) (.c 0) x1_ (.c 0) (.c 0))),(21,(.d 0)),(28,(.ap 8 (.v 28) x1_ (.c 0) (.c 0) (.c 1) (.c 0))),(22,(.d 1)),(29,(.op .add (.v 29) (.c 1)))],[]⟩,[(8,10),(0,0),(1,1),(2,2),(4,4),(3,3),(5,5),(6,6)],[],[]⟩;.cut (((.le (.op .add (.v 29) (.c 1)) (.d 1)),.true)::((.ap 1 (.v 28) x1_ (.c 0) (.c 0) (.c 0) (.c 0)),.false)::((.ap 1 (.v 0) x1_ (.c 0) (.c 0) (.c 0) (.c 0)),.true)::((.le (.c 0) (.d 0)),.true)::((.ap 1 (.v 0) (.v 28) (.c 1) (.c 0) (.c 0) (.c 0)),.false)::f0_) 2 i_ [(.rn (.op .add (.v 29) (.c 1)) 1 1000000)] (shT tKeys_T2 i_))]
def tKeys_run (T:Tm):=(ex (ccM Tryz.prog BF [55,53,52,54]) ((fun cc=>[tSort.ent cc]) (ccM Tryz.prog BF [55,53,52,54])) (dw (ccM Tryz.prog BF [55,53,52,54]) ((fun cc=>[tSort.ent cc]) (ccM Tryz.prog BF [55,53,52,54])) 1000 4) (stopX [106,108]) 4000 T.f T.fs T.H).lfsM 2 (ccM Tryz.prog BF [55,53,52,54]) ((tmM tKeys Tryz.f82 (Tryz.f82.body.getD .skip))::[tKeys_T1,tKeys_T2]) tKeys.os
theorem tKeys_h0:tKeys_run (tmM tKeys Tryz.f82 (Tryz.f82.body.getD .skip))=some tKeys_L0:=by kernel_rfl
theorem tKeys_h1:tKeys_run tKeys_T1=some tKeys_L1:=by kernel_rfl
theorem tKeys_h2:tKeys_run tKeys_T2=some tKeys_L2:=by kernel_rfl
def tKeys_inv:(Nat→Int)→(Nat→Bool)→Nat→(Nat→Int)→(Nat→Bool)→Prop:=fun iv0 _ k iv _=>match k with | 0=>True | 1=>True | _=>1≤iv 29∧iv 29≤1000000∧iv 29≤iv 22∧seenI (iv0 0) (iv 28) (iv 32) (iv 29)
def tKeys_mu:(Nat→Int)→(Nat→Bool)→Nat→(Nat→Int)→(Nat→Bool)→Nat:=fun iv0 _ k iv _=>match k with | 0=>2 ^ 90 | 1=>2 ^ 80 | _=>(lenC (iv0 0) - iv 29).toNat
def tKeys_ob (k:Nat) (l:List Lf):Prop:=∀ (kv:Kv) (iv0:Nat→Int) (bv0:Nat→Bool),InB tKeys.B iv0→FT (sta FI FB kv iv0 bv0) (dlt dyn0) tKeys.F→∀ (iv:Nat→Int) (bv:Nat→Bool),Agr 1 iv0 bv0 iv bv→tKeys_inv iv0 bv0 k iv bv→∀ lf∈l,LfT (sta FI FB kv) tKeys.os (tKeys_inv iv0 bv0) (tKeys_mu iv0 bv0) k iv bv lf
theorem tKeys_o0:tKeys_ob 0 tKeys_L0:=by
 intro kv iv0 bv0 hin hF iv bv ha hi
 unfold tKeys_L0
 refine List.forall_mem_cons.2 ⟨?_,List.forall_mem_nil _⟩
 all_goals
  intro δ hf
 all_goals
  have a0:=ha.1 0 (by omega)
 all_goals
  simp only [FT,TP,SB.tp,SI.tv,sta,IB.eval,and_true,true_and,ObsT,Ob.Tv,rowT,kix,In.tiv,↓tbvT,In.tbv,get_cons,get_nil,reduceIte,Nat.reduceEqDiff,Int.reduceToNat,Int.reduceAdd,Int.reduceSub,Int.reduceLE,Int.reduceLT,Int.reduceEq,ne_eq,Bool.false_eq_true,not_true_eq_false,not_false_eq_true,true_iff,false_iff,iff_true,iff_false,false_implies,implies_true,decT,decide_true,decide_false,Bool.decide_eq_true,ap2,pb2,FI_3,FI_3u,FI_8,FI_9,FI_3g,FI_3k,FI_8s,FI_8l,FI_8d,FB_1h,FB_1a,Int.toNat_natCast,Int.toNat_zero,FI_30,FI_31,FB_30,tKeys_inv,tKeys_mu,tKeys,o1,othT,kI,clV,ap1,pb1,lnS,mK,mS,rsS,a0] at hf hi ⊢
 all_goals
  (repeat' (with_reducible apply And.intro))<;>first
  | omega
  | assumption
  | (unfold inM;omega)
  | exact trivial
  | (clear hin hF ha;grind)
theorem tKeys_o1:tKeys_ob 1 tKeys_L1:=by
 intro kv iv0 bv0 hin hF iv bv ha hi
 unfold tKeys_L1
 refine List.forall_mem_cons.2 ⟨?_,List.forall_mem_cons.2 ⟨?_,List.forall_mem_nil _⟩⟩
 all_goals
  intro δ hf
 all_goals
  have a0:=ha.1 0 (by omega)
 all_goals
  simp only [FT,TP,SB.tp,SI.tv,sta,IB.eval,and_true,true_and,ObsT,Ob.Tv,rowT,kix,In.tiv,↓tbvT,In.tbv,get_cons,get_nil,reduceIte,Nat.reduceEqDiff,Int.reduceToNat,Int.reduceAdd,Int.reduceSub,Int.reduceLE,Int.reduceLT,Int.reduceEq,ne_eq,Bool.false_eq_true,not_true_eq_false,not_false_eq_true,true_iff,false_iff,iff_true,iff_false,false_implies,implies_true,decT,decide_true,decide_false,Bool.decide_eq_true,ap2,pb2,FI_3,FI_3u,FI_8,FI_9,FI_3g,FI_3k,FI_8s,FI_8l,FI_8d,FB_1h,FB_1a,Int.toNat_natCast,Int.toNat_zero,FI_30,FI_31,FB_30,tKeys_inv,tKeys_mu,tKeys,o1,othT,kI,clV,ap1,pb1,lnS,mK,mS,rsS,a0] at hf hi ⊢
 all_goals
  have hL0:=@len0 (iv0 0)
 all_goals
  have hL1:=lenC_nn (iv0 0)
 all_goals
  (repeat' (with_reducible apply And.intro))<;>first
  | omega
  | assumption
  | (unfold inM;omega)
  | exact trivial
  | (intro _ h;have:=hL0 hf.1;omega)
  | (rw [fl_set0 _ _ _ (w64_in _),if_pos (by simp)])
  | (exact seen_1 (w64_in _) (by first | exact hf | exact hf.1 | exact hf.2.1 | exact hf.2.2.1 | exact hf.2.2.2.1 | exact hf.2.2.2.2.1 | exact hf.2.2.2.2.2.1 | exact hf.2.2.2.2.2.2.1 | exact hf.2.2.2.2.2.2.2.1 | exact hf.2.2.2.2.2.2.2.2.1 | exact hf.2.2.2.2.2.2.2.2.2.1 | exact hf.2.2.2.2.2.2.2.2.2.2.1 | exact hf.2.2.2.2.2.2.2.2.2.2.2.1 | exact hf.2.2.2.2.2.2.2.2.2.2.2.2.1 | exact hf.2.2.2.2.2.2.2.2.2.2.2.2.2.1 | exact hf.2 | exact hf.2.2 | exact hf.2.2.2 | exact hf.2.2.2.2 | exact hf.2.2.2.2.2 | exact hf.2.2.2.2.2.2 | exact hf.2.2.2.2.2.2.2 | exact hf.2.2.2.2.2.2.2.2 | exact hf.2.2.2.2.2.2.2.2.2 | exact hf.2.2.2.2.2.2.2.2.2.2 | exact hf.2.2.2.2.2.2.2.2.2.2.2 | exact hf.2.2.2.2.2.2.2.2.2.2.2.2 | exact hf.2.2.2.2.2.2.2.2.2.2.2.2.2))
  | (clear hin hF ha;grind)
theorem tKeys_o2:tKeys_ob 2 tKeys_L2:=by
 intro kv iv0 bv0 hin hF iv bv ha hi
 unfold tKeys_L2
 refine List.forall_mem_cons.2 ⟨?_,List.forall_mem_cons.2 ⟨?_,List.forall_mem_nil _⟩⟩
 all_goals
  intro δ hf
 all_goals
  have a0:=ha.1 0 (by omega)
 all_goals
  simp only [FT,TP,SB.tp,SI.tv,sta,IB.eval,and_true,true_and,ObsT,Ob.Tv,rowT,kix,In.tiv,↓tbvT,In.tbv,get_cons,get_nil,reduceIte,Nat.reduceEqDiff,Int.reduceToNat,Int.reduceAdd,Int.reduceSub,Int.reduceLE,Int.reduceLT,Int.reduceEq,ne_eq,Bool.false_eq_true,not_true_eq_false,not_false_eq_true,true_iff,false_iff,iff_true,iff_false,false_implies,implies_true,decT,decide_true,decide_false,Bool.decide_eq_true,ap2,pb2,FI_3,FI_3u,FI_8,FI_9,FI_3g,FI_3k,FI_8s,FI_8l,FI_8d,FB_1h,FB_1a,Int.toNat_natCast,Int.toNat_zero,FI_30,FI_31,FB_30,tKeys_inv,tKeys_mu,tKeys,o1,othT,kI,clV,ap1,pb1,lnS,mK,mS,rsS,a0] at hf hi ⊢
 all_goals
  obtain ⟨g0,g1,g2,g3⟩:=hi
 all_goals
  have hK:kinC (iv0 0):=(by first | exact hf | exact hf.1 | exact hf.2.1 | exact hf.2.2.1 | exact hf.2.2.2.1 | exact hf.2.2.2.2.1 | exact hf.2.2.2.2.2.1 | exact hf.2.2.2.2.2.2.1 | exact hf.2.2.2.2.2.2.2.1 | exact hf.2.2.2.2.2.2.2.2.1 | exact hf.2.2.2.2.2.2.2.2.2.1 | exact hf.2.2.2.2.2.2.2.2.2.2.1 | exact hf.2.2.2.2.2.2.2.2.2.2.2.1 | exact hf.2.2.2.2.2.2.2.2.2.2.2.2.1 | exact hf.2.2.2.2.2.2.2.2.2.2.2.2.2.1 | exact hf.2 | exact hf.2.2 | exact hf.2.2.2 | exact hf.2.2.2.2 | exact hf.2.2.2.2.2 | exact hf.2.2.2.2.2.2 | exact hf.2.2.2.2.2.2.2 | exact hf.2.2.2.2.2.2.2.2 | exact hf.2.2.2.2.2.2.2.2.2 | exact hf.2.2.2.2.2.2.2.2.2.2 | exact hf.2.2.2.2.2.2.2.2.2.2.2 | exact hf.2.2.2.2.2.2.2.2.2.2.2.2 | exact hf.2.2.2.2.2.2.2.2.2.2.2.2.2)
 all_goals
  have hE:=fun h=>seen_end g3 (by omega) hK h
 all_goals
  have hS:=fun k h1 h2=>seen_suc (k:=IntKind.i64.wrap k) g3 (by omega) (w64_in k) h1 h2
 all_goals
  have hN:=fun k h1 h2=>seen_le (hS k h1 h2)
 all_goals
  (repeat' (with_reducible apply And.intro))<;>first
  | omega
  | assumption
  | (unfold inM;omega)
  | (exact (hE (by first | exact hf | exact hf.1 | exact hf.2.1 | exact hf.2.2.1 | exact hf.2.2.2.1 | exact hf.2.2.2.2.1 | exact hf.2.2.2.2.2.1 | exact hf.2.2.2.2.2.2.1 | exact hf.2.2.2.2.2.2.2.1 | exact hf.2.2.2.2.2.2.2.2.1 | exact hf.2.2.2.2.2.2.2.2.2.1 | exact hf.2.2.2.2.2.2.2.2.2.2.1 | exact hf.2.2.2.2.2.2.2.2.2.2.2.1 | exact hf.2.2.2.2.2.2.2.2.2.2.2.2.1 | exact hf.2.2.2.2.2.2.2.2.2.2.2.2.2.1 | exact hf.2 | exact hf.2.2 | exact hf.2.2.2 | exact hf.2.2.2.2 | exact hf.2.2.2.2.2 | exact hf.2.2.2.2.2.2 | exact hf.2.2.2.2.2.2.2 | exact hf.2.2.2.2.2.2.2.2 | exact hf.2.2.2.2.2.2.2.2.2 | exact hf.2.2.2.2.2.2.2.2.2.2 | exact hf.2.2.2.2.2.2.2.2.2.2.2 | exact hf.2.2.2.2.2.2.2.2.2.2.2.2 | exact hf.2.2.2.2.2.2.2.2.2.2.2.2.2)).1.symm)
  | (have e:=(hE (by first | exact hf | exact hf.1 | exact hf.2.1 | exact hf.2.2.1 | exact hf.2.2.2.1 | exact hf.2.2.2.2.1 | exact hf.2.2.2.2.2.1 | exact hf.2.2.2.2.2.2.1 | exact hf.2.2.2.2.2.2.2.1 | exact hf.2.2.2.2.2.2.2.2.1 | exact hf.2.2.2.2.2.2.2.2.2.1 | exact hf.2.2.2.2.2.2.2.2.2.2.1 | exact hf.2.2.2.2.2.2.2.2.2.2.2.1 | exact hf.2.2.2.2.2.2.2.2.2.2.2.2.1 | exact hf.2.2.2.2.2.2.2.2.2.2.2.2.2.1 | exact hf.2 | exact hf.2.2 | exact hf.2.2.2 | exact hf.2.2.2.2 | exact hf.2.2.2.2.2 | exact hf.2.2.2.2.2.2 | exact hf.2.2.2.2.2.2.2 | exact hf.2.2.2.2.2.2.2.2 | exact hf.2.2.2.2.2.2.2.2.2 | exact hf.2.2.2.2.2.2.2.2.2.2 | exact hf.2.2.2.2.2.2.2.2.2.2.2 | exact hf.2.2.2.2.2.2.2.2.2.2.2.2 | exact hf.2.2.2.2.2.2.2.2.2.2.2.2.2)).1;omega)
  | (have e:=hE (by first | exact hf | exact hf.1 | exact hf.2.1 | exact hf.2.2.1 | exact hf.2.2.2.1 | exact hf.2.2.2.2.1 | exact hf.2.2.2.2.2.1 | exact hf.2.2.2.2.2.2.1 | exact hf.2.2.2.2.2.2.2.1 | exact hf.2.2.2.2.2.2.2.2.1 | exact hf.2.2.2.2.2.2.2.2.2.1 | exact hf.2.2.2.2.2.2.2.2.2.2.1 | exact hf.2.2.2.2.2.2.2.2.2.2.2.1 | exact hf.2.2.2.2.2.2.2.2.2.2.2.2.1 | exact hf.2.2.2.2.2.2.2.2.2.2.2.2.2.1 | exact hf.2 | exact hf.2.2 | exact hf.2.2.2 | exact hf.2.2.2.2 | exact hf.2.2.2.2.2 | exact hf.2.2.2.2.2.2 | exact hf.2.2.2.2.2.2.2 | exact hf.2.2.2.2.2.2.2.2 | exact hf.2.2.2.2.2.2.2.2.2 | exact hf.2.2.2.2.2.2.2.2.2.2 | exact hf.2.2.2.2.2.2.2.2.2.2.2 | exact hf.2.2.2.2.2.2.2.2.2.2.2.2 | exact hf.2.2.2.2.2.2.2.2.2.2.2.2.2);intro j hj;rw [e.2 j (by omega)])
  | (exact hS _ (by first | exact hf | exact hf.1 | exact hf.2.1 | exact hf.2.2.1 | exact hf.2.2.2.1 | exact hf.2.2.2.2.1 | exact hf.2.2.2.2.2.1 | exact hf.2.2.2.2.2.2.1 | exact hf.2.2.2.2.2.2.2.1 | exact hf.2.2.2.2.2.2.2.2.1 | exact hf.2.2.2.2.2.2.2.2.2.1 | exact hf.2.2.2.2.2.2.2.2.2.2.1 | exact hf.2.2.2.2.2.2.2.2.2.2.2.1 | exact hf.2.2.2.2.2.2.2.2.2.2.2.2.1 | exact hf.2.2.2.2.2.2.2.2.2.2.2.2.2.1 | exact hf.2 | exact hf.2.2 | exact hf.2.2.2 | exact hf.2.2.2.2 | exact hf.2.2.2.2.2 | exact hf.2.2.2.2.2.2 | exact hf.2.2.2.2.2.2.2 | exact hf.2.2.2.2.2.2.2.2 | exact hf.2.2.2.2.2.2.2.2.2 | exact hf.2.2.2.2.2.2.2.2.2.2 | exact hf.2.2.2.2.2.2.2.2.2.2.2 | exact hf.2.2.2.2.2.2.2.2.2.2.2.2 | exact hf.2.2.2.2.2.2.2.2.2.2.2.2.2) (by first | exact hf | exact hf.1 | exact hf.2.1 | exact hf.2.2.1 | exact hf.2.2.2.1 | exact hf.2.2.2.2.1 | exact hf.2.2.2.2.2.1 | exact hf.2.2.2.2.2.2.1 | exact hf.2.2.2.2.2.2.2.1 | exact hf.2.2.2.2.2.2.2.2.1 | exact hf.2.2.2.2.2.2.2.2.2.1 | exact hf.2.2.2.2.2.2.2.2.2.2.1 | exact hf.2.2.2.2.2.2.2.2.2.2.2.1 | exact hf.2.2.2.2.2.2.2.2.2.2.2.2.1 | exact hf.2.2.2.2.2.2.2.2.2.2.2.2.2.1 | exact hf.2 | exact hf.2.2 | exact hf.2.2.2 | exact hf.2.2.2.2 | exact hf.2.2.2.2.2 | exact hf.2.2.2.2.2.2 | exact hf.2.2.2.2.2.2.2 | exact hf.2.2.2.2.2.2.2.2 | exact hf.2.2.2.2.2.2.2.2.2 | exact hf.2.2.2.2.2.2.2.2.2.2 | exact hf.2.2.2.2.2.2.2.2.2.2.2 | exact hf.2.2.2.2.2.2.2.2.2.2.2.2 | exact hf.2.2.2.2.2.2.2.2.2.2.2.2.2))
  | (have e:=hN _ (by first | exact hf | exact hf.1 | exact hf.2.1 | exact hf.2.2.1 | exact hf.2.2.2.1 | exact hf.2.2.2.2.1 | exact hf.2.2.2.2.2.1 | exact hf.2.2.2.2.2.2.1 | exact hf.2.2.2.2.2.2.2.1 | exact hf.2.2.2.2.2.2.2.2.1 | exact hf.2.2.2.2.2.2.2.2.2.1 | exact hf.2.2.2.2.2.2.2.2.2.2.1 | exact hf.2.2.2.2.2.2.2.2.2.2.2.1 | exact hf.2.2.2.2.2.2.2.2.2.2.2.2.1 | exact hf.2.2.2.2.2.2.2.2.2.2.2.2.2.1 | exact hf.2 | exact hf.2.2 | exact hf.2.2.2 | exact hf.2.2.2.2 | exact hf.2.2.2.2.2 | exact hf.2.2.2.2.2.2 | exact hf.2.2.2.2.2.2.2 | exact hf.2.2.2.2.2.2.2.2 | exact hf.2.2.2.2.2.2.2.2.2 | exact hf.2.2.2.2.2.2.2.2.2.2 | exact hf.2.2.2.2.2.2.2.2.2.2.2 | exact hf.2.2.2.2.2.2.2.2.2.2.2.2 | exact hf.2.2.2.2.2.2.2.2.2.2.2.2.2) (by first | exact hf | exact hf.1 | exact hf.2.1 | exact hf.2.2.1 | exact hf.2.2.2.1 | exact hf.2.2.2.2.1 | exact hf.2.2.2.2.2.1 | exact hf.2.2.2.2.2.2.1 | exact hf.2.2.2.2.2.2.2.1 | exact hf.2.2.2.2.2.2.2.2.1 | exact hf.2.2.2.2.2.2.2.2.2.1 | exact hf.2.2.2.2.2.2.2.2.2.2.1 | exact hf.2.2.2.2.2.2.2.2.2.2.2.1 | exact hf.2.2.2.2.2.2.2.2.2.2.2.2.1 | exact hf.2.2.2.2.2.2.2.2.2.2.2.2.2.1 | exact hf.2 | exact hf.2.2 | exact hf.2.2.2 | exact hf.2.2.2.2 | exact hf.2.2.2.2.2 | exact hf.2.2.2.2.2.2 | exact hf.2.2.2.2.2.2.2 | exact hf.2.2.2.2.2.2.2.2 | exact hf.2.2.2.2.2.2.2.2.2 | exact hf.2.2.2.2.2.2.2.2.2.2 | exact hf.2.2.2.2.2.2.2.2.2.2.2 | exact hf.2.2.2.2.2.2.2.2.2.2.2.2 | exact hf.2.2.2.2.2.2.2.2.2.2.2.2.2);omega)
  | (rw [fl_set0 _ _ _ (w64_in _),if_pos (by omega)])
  | (clear hin hF ha;grind)
theorem tKeys_c:LsCM 2 ((tmM tKeys Tryz.f82 (Tryz.f82.body.getD .skip))::[tKeys_T1,tKeys_T2]) tKeys.os [tKeys_L0,tKeys_L1,tKeys_L2]:=by
 unfold tKeys_L0 tKeys_L1 tKeys_L2
 exact ⟨List.forall_mem_cons.2 ⟨⟨⟨⟨_,rfl,rfl⟩,by kernel_rfl⟩,by kernel_rfl⟩,List.forall_mem_nil _⟩,List.forall_mem_cons.2 ⟨⟨⟨⟨_,rfl,rfl⟩,by kernel_rfl⟩,by kernel_rfl⟩,List.forall_mem_cons.2 ⟨⟨⟨⟨_,rfl,rfl⟩,by kernel_rfl⟩,by kernel_rfl⟩,List.forall_mem_nil _⟩⟩,List.forall_mem_cons.2 ⟨⟨⟨⟨_,rfl,rfl⟩,by kernel_rfl⟩,by kernel_rfl⟩,List.forall_mem_cons.2 ⟨⟨⟨⟨_,rfl,rfl⟩,by kernel_rfl⟩,by kernel_rfl⟩,List.forall_mem_nil _⟩⟩,trivial⟩
theorem tKeys_ok:tKeys.Ok Tryz.prog FI FB:=
 Com.of_plain (body:=Tryz.f82.body.getD .skip) pok fiok (EntsFor.consM tSort_ok EntsFor.nil) tKeys Tryz.func82 (by kernel_rfl) 1 [tKeys_T1,tKeys_T2] (by kernel_rfl) [tKeys_L0,tKeys_L1,tKeys_L2] ⟨tKeys_h0,tKeys_h1,tKeys_h2,trivial⟩ tKeys_c
  tKeys_inv tKeys_mu (fun _ _ _=>trivial) fun kv iv0 bv0 hin hF k l iv bv hk ha hi=>match k,hk,hi with
  | 0,hk,hi=>by
    cases hk
    exact tKeys_o0 kv iv0 bv0 hin hF iv bv ha hi
  | 1,hk,hi=>by
    cases hk
    exact tKeys_o1 kv iv0 bv0 hin hF iv bv ha hi
  | 2,hk,hi=>by
    cases hk
    exact tKeys_o2 kv iv0 bv0 hin hF iv bv ha hi
  | k+3,hk,_=>by simp at hk
end
end Go.Sx.Sl
