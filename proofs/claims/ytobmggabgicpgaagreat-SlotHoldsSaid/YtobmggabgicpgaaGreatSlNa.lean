/- Timers: the keys of a map of one. -/
import Derived.Test.YtobmggabgicpgaaGreatSlN
namespace Go.Sx.Sl
set_option linter.unusedVariables false
set_option linter.unusedSimpArgs false
set_option maxRecDepth 100000
set_option maxHeartbeats 0
noncomputable section
open Go Go.Sx Go.Sx.Ti Go.Proofs
def mc1:SI:=.ap 8 (.c 0) (.c 0) (.c 0) (.c 5) (.c 1) (.c 0)
def mK1:List (Nat×Bk):=[(0,.mapc .i64 .i64 mc1),(1,.cells [.mp (.n 0)] 113)]
def tKeys1:Com:=⟨82,[],[.mp (.n 0),clV],mK1,2,[],[],[⟨[],.sl (.n 2) (.c 0) (.c 1) (.d 0),(2,.arr kI (.c 0) (.c 1) 3 (.d 0))::mK1,3,1,[(.le (.c 1) (.d 0),true)]⟩,⟨[(.lt (.c 0) (.ap 8 mc1 (.c 0) (.c 0) (.c 0) (.c 2) (.c 0)),false)],.sn,mK1,2,0,[]⟩],.c 0⟩
def M1:Int:=setM 0 0 5
theorem M1_eq:setM 0 0 5=M1:=rfl
theorem kin_M1:kinC M1:=fun x h=>by
 unfold M1 at h
 rw [hasC_setM,hasC_zero] at h
 by_cases e:x=0
 ·rw [e];unfold in64;omega
 ·rw [if_neg e] at h;cases h
theorem len_M1:lenC M1=1:=by
 unfold M1
 rw [lenC_setM,hasC_zero,@len0 0 (fun y h=>h)];rfl
theorem KL_M1:KL M1=[0]:=by
 refine (KL_uniq ?_ fun x=>?_).symm
 ·simp
 ·unfold M1;rw [hasC_setM,hasC_zero]
  by_cases e:x=0<;>simp [e]
theorem KS_M1:fl (KS M1) 0 0=0:=by
 rw [fl_KS kin_M1 (by rw [len_M1];omega)];unfold kL;rw [KL_M1];rfl
def tKeys1_T1:Tm:=⟨⟨104,14,[(5,(.pt (.n 6) (.c 0))),(0,(.yl 5))],[(.code (atC Tryz.f104 [1,0,0])),(.inLoop (atC Tryz.f104 [1,0,0])),(.inBlock 0)],[],.none⟩,[⟨105,13,[(2,(.pt (.n 3) (.c 0)))],[(.inRangeFunc 5),(.inBlock 0),(.code (atC Tryz.f105 [1,1]))],[4],.none⟩,⟨102,5,[(3,(.fn 104 [] [(.pt (.n 2) (.c 0))]))],[(.inRegion (opsC (atC Tryz.f102 [1,0])) [1,2]),(.code Code.ret)],[],.none⟩,⟨96,12,[(6,(.fn 104 [] [(.pt (.n 2) (.c 0))])),(1,(.fn 83 [] [(.pt (.n 1) (.c 0))]))],[(.inRegion (opsC (atC Tryz.f96 [1,0])) [1,2]),(.code (atC Tryz.f96 [1,1]))],[],.none⟩,⟨82,9,[(7,(.fn 83 [] [(.pt (.n 1) (.c 0))])),(6,(.fn 104 [] [(.pt (.n 2) (.c 0))]))],[(.inRegion (opsC (atC Tryz.f82 [1,0])) [3,4]),(.code Code.ret)],[],.none⟩],
    ⟨[(0,(.mapc .i64 .i64 (.ap 8 (.c 0) (.c 0) (.c 0) (.c 5) (.c 1) (.c 0)))),(1,(.cells [(.mp (.n 0))] 113)),(2,(.cells [(.mp (.n 0))] 113)),(3,(.cells [.sn] 45)),(4,.dfr),(5,(.loop .ready .none 105 13 [(2,(.pt (.n 3) (.c 0)))] #[7] (atC Tryz.f105 [1,0,1,0,0]) (atC Tryz.f105 [1,0,1,0,1]) 4)),(6,(.miter 0 (.ap 8 (.c 0) (.c 0) (.c 0) (.c 5) (.c 1) (.c 0)) (.c 0) .none))],7,0,0,[],[0],[]⟩,[]⟩
def tKeys1_T2:Tm:=⟨⟨104,14,[(5,(.pt (.n 6) (.c 0))),(0,(.yl 5))],[(.code (atC Tryz.f104 [1,0,0])),(.inLoop (atC Tryz.f104 [1,0,0])),(.inBlock 0)],[],.none⟩,[⟨105,13,[(2,(.pt (.n 3) (.c 0)))],[(.inRangeFunc 5),(.inBlock 0),(.code (atC Tryz.f105 [1,1]))],[4],.none⟩,⟨102,5,[(3,(.fn 104 [] [(.pt (.n 2) (.c 0))]))],[(.inRegion (opsC (atC Tryz.f102 [1,0])) [1,2]),(.code Code.ret)],[],.none⟩,⟨96,12,[(6,(.fn 104 [] [(.pt (.n 2) (.c 0))])),(1,(.fn 83 [] [(.pt (.n 1) (.c 0))]))],[(.inRegion (opsC (atC Tryz.f96 [1,0])) [1,2]),(.code (atC Tryz.f96 [1,1]))],[],.none⟩,⟨82,9,[(7,(.fn 83 [] [(.pt (.n 1) (.c 0))])),(6,(.fn 104 [] [(.pt (.n 2) (.c 0))]))],[(.inRegion (opsC (atC Tryz.f82 [1,0])) [3,4]),(.code Code.ret)],[],.none⟩],
    ⟨[(0,(.mapc .i64 .i64 (.ap 8 (.c 0) (.c 0) (.c 0) (.c 5) (.c 1) (.c 0)))),(1,(.cells [(.mp (.n 0))] 113)),(2,(.cells [(.mp (.n 0))] 113)),(3,(.cells [(.sl (.n 8) (.c 0) (.v 29) (.v 22))] 45)),(4,.dfr),(5,(.loop .ready .none 105 13 [(2,(.pt (.n 3) (.c 0)))] #[7] (atC Tryz.f105 [1,0,1,0,0]) (atC Tryz.f105 [1,0,1,0,1]) 4)),(6,(.miter 0 (.ap 8 (.c 0) (.c 0) (.c 0) (.c 5) (.c 1) (.c 0)) (.v 28) (.some (.ap 3 (.ap 8 (.c 0) (.c 0) (.c 0) (.c 5) (.c 1) (.c 0)) (.v 21) (.c 0) (.c 2) (.c 0) (.c 0))))),(8,(.arr [(.nt .i64)] (.v 32) (.v 29) 3 (.v 22)))],9,0,0,[((.ap 1 (.ap 8 (.c 0) (.c 0) (.c 0) (.c 5) (.c 1) (.c 0)) (.c 0) (.c 1) (.c 0) (.c 0) (.c 0)),.false),((.le (.v 29) (.v 22)),.true)],[0],[(29,(1,1000000))]⟩,[28,29,32,21,22]⟩
def tKeys1_L0:List Lf:=
 [(let i_:In:=⟨⟨[],[]⟩,[(0,0),(1,1),(2,2),(4,4),(3,3),(5,5),(6,6)],[],[]⟩;.cut ([]) 1 i_ [] (shT tKeys1_T1 i_))]
def tKeys1_L1:List Lf:=
 let x0_:SI:=(.ap 8 (.c 0) (.c 0) (.c 0) (.c 5) (.c 1) (.c 0))
 let x1_:SI:=(.ap 3 x0_ (.d 0) (.c 0) (.c 2) (.c 0) (.c 0))
 [(.fin ([((.ap 1 x0_ (.c 0) (.c 1) (.c 0) (.c 0) (.c 0)),.true)]) 1 ⟨⟨[],[]⟩,[(1,1),(0,0)],[],[]⟩ [] [.none,.none]),
  (let i_:In:=⟨⟨[(32,(.ap 8 (.c 0) (.c 0) (.c 0) x1_ (.c 0) (.c 0))),(21,(.d 0)),(28,(.ap 8 (.c 0) x1_ (.c 0) (.c 0) (.c 1) (.c 0))),(22,(.d 1)),(29,(.c 1))],[]⟩,[(8,8),(0,0),(1,1),(2,2),(4,4),(3,3),(5,5),(6,6)],[],[]⟩;.cut ([((.le (.c 1) (.d 1)),.true),((.ap 1 (.c 0) x1_ (.c 0) (.c 0) (.c 0) (.c 0)),.false),((.ap 1 x0_ x1_ (.c 0) (.c 0) (.c 0) (.c 0)),.true),((.le (.c 0) (.d 0)),.true),((.ap 1 x0_ (.c 0) (.c 1) (.c 0) (.c 0) (.c 0)),.false)]) 2 i_ [(.ei (.ap 3 (.ap 8 (.c 0) (.c 0) (.c 0) x1_ (.c 0) (.c 0)) (.c 0) (.c 0) (.c 0) (.c 0) (.c 0)) (.ap 3 x0_ (.d 0) (.c 0) (.c 2) (.c 0) (.c 0))),(.fa (.le (.c 1) (.c 1)) .true),(.fa (.le (.c 1) (.d 1)) .true)] (shT tKeys1_T2 i_))]
def tKeys1_L2:List Lf:=
 let x0_:SI:=(.ap 8 (.c 0) (.c 0) (.c 0) (.c 5) (.c 1) (.c 0))
 let x1_:SI:=(.ap 3 x0_ (.d 0) (.c 0) (.c 2) (.c 0) (.c 0))
 let f0_:List (SB×Bool):=[((.ap 1 x0_ (.c 0) (.c 1) (.c 0) (.c 0) (.c 0)),.false),((.le (.v 29) (.v 22)),.true)]
 [(.fin (((.ap 1 x0_ (.v 28) (.c 1) (.c 0) (.c 0) (.c 0)),.true)::f0_) 0 ⟨⟨[],[]⟩,[(2,8),(1,1),(0,0)],[(0,(.v 22))],[]⟩ [(.ei (.c 1) (.v 29)),(.ar [(.nt .i64)] (.c 0) (.ap 31 (.v 32) (.v 29) x0_ (.c 0) (.c 0) (.c 0)) (.c 1)),(.fa (.le (.c 1) (.v 29)) .true)] [.none,.none,.none]),
  (let i_:In:=⟨⟨[(32,(.ap 8 (.v 32) (.v 29) (.c 0) x1_ (.c 0) (.c 0))),(21,(.d 0)),(28,(.ap 8 (.v 28) x1_ (.c 0) (.c 0) (.c 1) (.c 0))),(22,(.d 1)),(29,(.op .add (.v 29) (.c 1)))],[]⟩,[(8,10),(0,0),(1,1),(2,2),(4,4),(3,3),(5,5),(6,6)],[],[]⟩;.cut (((.le (.op .add (.v 29) (.c 1)) (.d 1)),.true)::((.ap 1 (.v 28) x1_ (.c 0) (.c 0) (.c 0) (.c 0)),.false)::((.ap 1 x0_ x1_ (.c 0) (.c 0) (.c 0) (.c 0)),.true)::((.le (.c 0) (.d 0)),.true)::((.ap 1 x0_ (.v 28) (.c 1) (.c 0) (.c 0) (.c 0)),.false)::f0_) 2 i_ [(.rn (.op .add (.v 29) (.c 1)) 1 1000000)] (shT tKeys1_T2 i_))]
def tKeys1_run (T:Tm):=(ex (ccM Tryz.prog BF [55,53,52,54]) ((fun cc=>[tSort.ent cc]) (ccM Tryz.prog BF [55,53,52,54])) (dw (ccM Tryz.prog BF [55,53,52,54]) ((fun cc=>[tSort.ent cc]) (ccM Tryz.prog BF [55,53,52,54])) 1000 4) (stopX [106,108]) 4000 T.f T.fs T.H).lfsM 2 (ccM Tryz.prog BF [55,53,52,54]) ((tmM tKeys1 Tryz.f82 (Tryz.f82.body.getD .skip))::[tKeys1_T1,tKeys1_T2]) tKeys1.os
theorem tKeys1_h0:tKeys1_run (tmM tKeys1 Tryz.f82 (Tryz.f82.body.getD .skip))=some tKeys1_L0:=by kernel_rfl
theorem tKeys1_h1:tKeys1_run tKeys1_T1=some tKeys1_L1:=by kernel_rfl
theorem tKeys1_h2:tKeys1_run tKeys1_T2=some tKeys1_L2:=by kernel_rfl
def tKeys1_inv:(Nat→Int)→(Nat→Bool)→Nat→(Nat→Int)→(Nat→Bool)→Prop:=fun iv0 _ k iv _=>match k with | 0=>True | 1=>True | _=>1≤iv 29∧iv 29≤1000000∧iv 29≤iv 22∧seenI M1 (iv 28) (iv 32) (iv 29)
def tKeys1_mu:(Nat→Int)→(Nat→Bool)→Nat→(Nat→Int)→(Nat→Bool)→Nat:=fun iv0 _ k iv _=>match k with | 0=>2 ^ 90 | 1=>2 ^ 80 | _=>(lenC M1 - iv 29).toNat
def tKeys1_ob (k:Nat) (l:List Lf):Prop:=∀ (kv:Kv) (iv0:Nat→Int) (bv0:Nat→Bool),InB tKeys1.B iv0→FT (sta FI FB kv iv0 bv0) (dlt dyn0) tKeys1.F→∀ (iv:Nat→Int) (bv:Nat→Bool),Agr 0 iv0 bv0 iv bv→tKeys1_inv iv0 bv0 k iv bv→∀ lf∈l,LfT (sta FI FB kv) tKeys1.os (tKeys1_inv iv0 bv0) (tKeys1_mu iv0 bv0) k iv bv lf
theorem tKeys1_o0:tKeys1_ob 0 tKeys1_L0:=by
 intro kv iv0 bv0 hin hF iv bv ha hi
 unfold tKeys1_L0
 refine List.forall_mem_cons.2 ⟨?_,List.forall_mem_nil _⟩
 all_goals
  intro δ hf
 all_goals
  simp only [FT,TP,SB.tp,SI.tv,sta,IB.eval,and_true,true_and,ObsT,Ob.Tv,rowT,kix,In.tiv,↓tbvT,In.tbv,get_cons,get_nil,reduceIte,Nat.reduceEqDiff,Int.reduceToNat,Int.reduceAdd,Int.reduceSub,Int.reduceLE,Int.reduceLT,Int.reduceEq,ne_eq,Bool.false_eq_true,not_true_eq_false,not_false_eq_true,true_iff,false_iff,iff_true,iff_false,false_implies,implies_true,decT,decide_true,decide_false,Bool.decide_eq_true,ap2,pb2,FI_3,FI_3u,FI_8,FI_9,FI_3g,FI_3k,FI_8s,FI_8l,FI_8d,FB_1h,FB_1a,Int.toNat_natCast,Int.toNat_zero,FI_31,tKeys1_inv,tKeys1_mu,tKeys1,o1,othT,kI,clV,ap1,pb1,lnS,mK,mS,rsS,mc1,mK1] at hf hi ⊢
 all_goals
  try simp only [M1_eq] at hf ⊢
 all_goals
  (repeat' (with_reducible apply And.intro))<;>first
  | omega
  | assumption
  | (unfold inM;omega)
  | exact trivial
  | (clear hin hF ha;grind)
theorem tKeys1_o1:tKeys1_ob 1 tKeys1_L1:=by
 intro kv iv0 bv0 hin hF iv bv ha hi
 unfold tKeys1_L1
 refine List.forall_mem_cons.2 ⟨?_,List.forall_mem_cons.2 ⟨?_,List.forall_mem_nil _⟩⟩
 all_goals
  intro δ hf
 all_goals
  simp only [FT,TP,SB.tp,SI.tv,sta,IB.eval,and_true,true_and,ObsT,Ob.Tv,rowT,kix,In.tiv,↓tbvT,In.tbv,get_cons,get_nil,reduceIte,Nat.reduceEqDiff,Int.reduceToNat,Int.reduceAdd,Int.reduceSub,Int.reduceLE,Int.reduceLT,Int.reduceEq,ne_eq,Bool.false_eq_true,not_true_eq_false,not_false_eq_true,true_iff,false_iff,iff_true,iff_false,false_implies,implies_true,decT,decide_true,decide_false,Bool.decide_eq_true,ap2,pb2,FI_3,FI_3u,FI_8,FI_9,FI_3g,FI_3k,FI_8s,FI_8l,FI_8d,FB_1h,FB_1a,Int.toNat_natCast,Int.toNat_zero,FI_31,tKeys1_inv,tKeys1_mu,tKeys1,o1,othT,kI,clV,ap1,pb1,lnS,mK,mS,rsS,mc1,mK1] at hf hi ⊢
 all_goals
  try simp only [M1_eq] at hf ⊢
 all_goals
  have hL0:=@len0 M1
 all_goals
  have hL1:=len_M1
 all_goals
  (repeat' (with_reducible apply And.intro))<;>first
  | omega
  | assumption
  | (unfold inM;omega)
  | exact trivial
  | (exact absurd (hL0 hf) (by omega))
  | (exact absurd (hL0 hf.1) (by omega))
  | (rw [fl_set0 _ _ _ (w64_in _),if_pos (by simp)])
  | (exact seen_1 (w64_in _) (by first | exact hf | exact hf.1 | exact hf.2.1 | exact hf.2.2.1 | exact hf.2.2.2.1 | exact hf.2.2.2.2.1 | exact hf.2.2.2.2.2.1 | exact hf.2.2.2.2.2.2.1 | exact hf.2.2.2.2.2.2.2.1 | exact hf.2.2.2.2.2.2.2.2.1 | exact hf.2.2.2.2.2.2.2.2.2.1 | exact hf.2.2.2.2.2.2.2.2.2.2.1 | exact hf.2.2.2.2.2.2.2.2.2.2.2.1 | exact hf.2.2.2.2.2.2.2.2.2.2.2.2.1 | exact hf.2.2.2.2.2.2.2.2.2.2.2.2.2.1 | exact hf.2 | exact hf.2.2 | exact hf.2.2.2 | exact hf.2.2.2.2 | exact hf.2.2.2.2.2 | exact hf.2.2.2.2.2.2 | exact hf.2.2.2.2.2.2.2 | exact hf.2.2.2.2.2.2.2.2 | exact hf.2.2.2.2.2.2.2.2.2 | exact hf.2.2.2.2.2.2.2.2.2.2 | exact hf.2.2.2.2.2.2.2.2.2.2.2 | exact hf.2.2.2.2.2.2.2.2.2.2.2.2 | exact hf.2.2.2.2.2.2.2.2.2.2.2.2.2))
  | (clear hin hF ha;grind)
theorem tKeys1_o2:tKeys1_ob 2 tKeys1_L2:=by
 intro kv iv0 bv0 hin hF iv bv ha hi
 unfold tKeys1_L2
 refine List.forall_mem_cons.2 ⟨?_,List.forall_mem_cons.2 ⟨?_,List.forall_mem_nil _⟩⟩
 all_goals
  intro δ hf
 all_goals
  simp only [FT,TP,SB.tp,SI.tv,sta,IB.eval,and_true,true_and,ObsT,Ob.Tv,rowT,kix,In.tiv,↓tbvT,In.tbv,get_cons,get_nil,reduceIte,Nat.reduceEqDiff,Int.reduceToNat,Int.reduceAdd,Int.reduceSub,Int.reduceLE,Int.reduceLT,Int.reduceEq,ne_eq,Bool.false_eq_true,not_true_eq_false,not_false_eq_true,true_iff,false_iff,iff_true,iff_false,false_implies,implies_true,decT,decide_true,decide_false,Bool.decide_eq_true,ap2,pb2,FI_3,FI_3u,FI_8,FI_9,FI_3g,FI_3k,FI_8s,FI_8l,FI_8d,FB_1h,FB_1a,Int.toNat_natCast,Int.toNat_zero,FI_31,tKeys1_inv,tKeys1_mu,tKeys1,o1,othT,kI,clV,ap1,pb1,lnS,mK,mS,rsS,mc1,mK1] at hf hi ⊢
 all_goals
  try simp only [M1_eq] at hf ⊢
 all_goals
  obtain ⟨g0,g1,g2,g3⟩:=hi
 all_goals
  have hK:=kin_M1
 all_goals
  have hL1:=len_M1
 all_goals
  have hE:=fun h=>seen_end g3 (by omega) hK h
 all_goals
  have hS:=fun k h1 h2=>seen_suc (k:=IntKind.i64.wrap k) g3 (by omega) (w64_in k) h1 h2
 all_goals
  have hN:=fun k h1 h2=>seen_le (hS k h1 h2)
 all_goals
  have hz:∀ j:Nat,(j:Int) < 1→fl (KS M1) j 0=fl 0 j 0:=fun j hj=>by
   have:j=0:=by omega
   subst this;rw [KS_M1];unfold fl;rw [gt_zero];rfl
 all_goals
  (repeat' (with_reducible apply And.intro))<;>first
  | omega
  | assumption
  | (unfold inM;omega)
  | (exact (hE (by first | exact hf | exact hf.1 | exact hf.2.1 | exact hf.2.2.1 | exact hf.2.2.2.1 | exact hf.2.2.2.2.1 | exact hf.2.2.2.2.2.1 | exact hf.2.2.2.2.2.2.1 | exact hf.2.2.2.2.2.2.2.1 | exact hf.2.2.2.2.2.2.2.2.1 | exact hf.2.2.2.2.2.2.2.2.2.1 | exact hf.2.2.2.2.2.2.2.2.2.2.1 | exact hf.2.2.2.2.2.2.2.2.2.2.2.1 | exact hf.2.2.2.2.2.2.2.2.2.2.2.2.1 | exact hf.2.2.2.2.2.2.2.2.2.2.2.2.2.1 | exact hf.2 | exact hf.2.2 | exact hf.2.2.2 | exact hf.2.2.2.2 | exact hf.2.2.2.2.2 | exact hf.2.2.2.2.2.2 | exact hf.2.2.2.2.2.2.2 | exact hf.2.2.2.2.2.2.2.2 | exact hf.2.2.2.2.2.2.2.2.2 | exact hf.2.2.2.2.2.2.2.2.2.2 | exact hf.2.2.2.2.2.2.2.2.2.2.2 | exact hf.2.2.2.2.2.2.2.2.2.2.2.2 | exact hf.2.2.2.2.2.2.2.2.2.2.2.2.2)).1.symm)
  | (have e:=(hE (by first | exact hf | exact hf.1 | exact hf.2.1 | exact hf.2.2.1 | exact hf.2.2.2.1 | exact hf.2.2.2.2.1 | exact hf.2.2.2.2.2.1 | exact hf.2.2.2.2.2.2.1 | exact hf.2.2.2.2.2.2.2.1 | exact hf.2.2.2.2.2.2.2.2.1 | exact hf.2.2.2.2.2.2.2.2.2.1 | exact hf.2.2.2.2.2.2.2.2.2.2.1 | exact hf.2.2.2.2.2.2.2.2.2.2.2.1 | exact hf.2.2.2.2.2.2.2.2.2.2.2.2.1 | exact hf.2.2.2.2.2.2.2.2.2.2.2.2.2.1 | exact hf.2 | exact hf.2.2 | exact hf.2.2.2 | exact hf.2.2.2.2 | exact hf.2.2.2.2.2 | exact hf.2.2.2.2.2.2 | exact hf.2.2.2.2.2.2.2 | exact hf.2.2.2.2.2.2.2.2 | exact hf.2.2.2.2.2.2.2.2.2 | exact hf.2.2.2.2.2.2.2.2.2.2 | exact hf.2.2.2.2.2.2.2.2.2.2.2 | exact hf.2.2.2.2.2.2.2.2.2.2.2.2 | exact hf.2.2.2.2.2.2.2.2.2.2.2.2.2)).1;omega)
  | (have e:=hE (by first | exact hf | exact hf.1 | exact hf.2.1 | exact hf.2.2.1 | exact hf.2.2.2.1 | exact hf.2.2.2.2.1 | exact hf.2.2.2.2.2.1 | exact hf.2.2.2.2.2.2.1 | exact hf.2.2.2.2.2.2.2.1 | exact hf.2.2.2.2.2.2.2.2.1 | exact hf.2.2.2.2.2.2.2.2.2.1 | exact hf.2.2.2.2.2.2.2.2.2.2.1 | exact hf.2.2.2.2.2.2.2.2.2.2.2.1 | exact hf.2.2.2.2.2.2.2.2.2.2.2.2.1 | exact hf.2.2.2.2.2.2.2.2.2.2.2.2.2.1 | exact hf.2 | exact hf.2.2 | exact hf.2.2.2 | exact hf.2.2.2.2 | exact hf.2.2.2.2.2 | exact hf.2.2.2.2.2.2 | exact hf.2.2.2.2.2.2.2 | exact hf.2.2.2.2.2.2.2.2 | exact hf.2.2.2.2.2.2.2.2.2 | exact hf.2.2.2.2.2.2.2.2.2.2 | exact hf.2.2.2.2.2.2.2.2.2.2.2 | exact hf.2.2.2.2.2.2.2.2.2.2.2.2 | exact hf.2.2.2.2.2.2.2.2.2.2.2.2.2);intro j hj;rw [← hz j hj];exact (e.2 j (by omega)).symm)
  | (exact hS _ (by first | exact hf | exact hf.1 | exact hf.2.1 | exact hf.2.2.1 | exact hf.2.2.2.1 | exact hf.2.2.2.2.1 | exact hf.2.2.2.2.2.1 | exact hf.2.2.2.2.2.2.1 | exact hf.2.2.2.2.2.2.2.1 | exact hf.2.2.2.2.2.2.2.2.1 | exact hf.2.2.2.2.2.2.2.2.2.1 | exact hf.2.2.2.2.2.2.2.2.2.2.1 | exact hf.2.2.2.2.2.2.2.2.2.2.2.1 | exact hf.2.2.2.2.2.2.2.2.2.2.2.2.1 | exact hf.2.2.2.2.2.2.2.2.2.2.2.2.2.1 | exact hf.2 | exact hf.2.2 | exact hf.2.2.2 | exact hf.2.2.2.2 | exact hf.2.2.2.2.2 | exact hf.2.2.2.2.2.2 | exact hf.2.2.2.2.2.2.2 | exact hf.2.2.2.2.2.2.2.2 | exact hf.2.2.2.2.2.2.2.2.2 | exact hf.2.2.2.2.2.2.2.2.2.2 | exact hf.2.2.2.2.2.2.2.2.2.2.2 | exact hf.2.2.2.2.2.2.2.2.2.2.2.2 | exact hf.2.2.2.2.2.2.2.2.2.2.2.2.2) (by first | exact hf | exact hf.1 | exact hf.2.1 | exact hf.2.2.1 | exact hf.2.2.2.1 | exact hf.2.2.2.2.1 | exact hf.2.2.2.2.2.1 | exact hf.2.2.2.2.2.2.1 | exact hf.2.2.2.2.2.2.2.1 | exact hf.2.2.2.2.2.2.2.2.1 | exact hf.2.2.2.2.2.2.2.2.2.1 | exact hf.2.2.2.2.2.2.2.2.2.2.1 | exact hf.2.2.2.2.2.2.2.2.2.2.2.1 | exact hf.2.2.2.2.2.2.2.2.2.2.2.2.1 | exact hf.2.2.2.2.2.2.2.2.2.2.2.2.2.1 | exact hf.2 | exact hf.2.2 | exact hf.2.2.2 | exact hf.2.2.2.2 | exact hf.2.2.2.2.2 | exact hf.2.2.2.2.2.2 | exact hf.2.2.2.2.2.2.2 | exact hf.2.2.2.2.2.2.2.2 | exact hf.2.2.2.2.2.2.2.2.2 | exact hf.2.2.2.2.2.2.2.2.2.2 | exact hf.2.2.2.2.2.2.2.2.2.2.2 | exact hf.2.2.2.2.2.2.2.2.2.2.2.2 | exact hf.2.2.2.2.2.2.2.2.2.2.2.2.2))
  | (have e:=hN _ (by first | exact hf | exact hf.1 | exact hf.2.1 | exact hf.2.2.1 | exact hf.2.2.2.1 | exact hf.2.2.2.2.1 | exact hf.2.2.2.2.2.1 | exact hf.2.2.2.2.2.2.1 | exact hf.2.2.2.2.2.2.2.1 | exact hf.2.2.2.2.2.2.2.2.1 | exact hf.2.2.2.2.2.2.2.2.2.1 | exact hf.2.2.2.2.2.2.2.2.2.2.1 | exact hf.2.2.2.2.2.2.2.2.2.2.2.1 | exact hf.2.2.2.2.2.2.2.2.2.2.2.2.1 | exact hf.2.2.2.2.2.2.2.2.2.2.2.2.2.1 | exact hf.2 | exact hf.2.2 | exact hf.2.2.2 | exact hf.2.2.2.2 | exact hf.2.2.2.2.2 | exact hf.2.2.2.2.2.2 | exact hf.2.2.2.2.2.2.2 | exact hf.2.2.2.2.2.2.2.2 | exact hf.2.2.2.2.2.2.2.2.2 | exact hf.2.2.2.2.2.2.2.2.2.2 | exact hf.2.2.2.2.2.2.2.2.2.2.2 | exact hf.2.2.2.2.2.2.2.2.2.2.2.2 | exact hf.2.2.2.2.2.2.2.2.2.2.2.2.2) (by first | exact hf | exact hf.1 | exact hf.2.1 | exact hf.2.2.1 | exact hf.2.2.2.1 | exact hf.2.2.2.2.1 | exact hf.2.2.2.2.2.1 | exact hf.2.2.2.2.2.2.1 | exact hf.2.2.2.2.2.2.2.1 | exact hf.2.2.2.2.2.2.2.2.1 | exact hf.2.2.2.2.2.2.2.2.2.1 | exact hf.2.2.2.2.2.2.2.2.2.2.1 | exact hf.2.2.2.2.2.2.2.2.2.2.2.1 | exact hf.2.2.2.2.2.2.2.2.2.2.2.2.1 | exact hf.2.2.2.2.2.2.2.2.2.2.2.2.2.1 | exact hf.2 | exact hf.2.2 | exact hf.2.2.2 | exact hf.2.2.2.2 | exact hf.2.2.2.2.2 | exact hf.2.2.2.2.2.2 | exact hf.2.2.2.2.2.2.2 | exact hf.2.2.2.2.2.2.2.2 | exact hf.2.2.2.2.2.2.2.2.2 | exact hf.2.2.2.2.2.2.2.2.2.2 | exact hf.2.2.2.2.2.2.2.2.2.2.2 | exact hf.2.2.2.2.2.2.2.2.2.2.2.2 | exact hf.2.2.2.2.2.2.2.2.2.2.2.2.2);omega)
  | (rw [fl_set0 _ _ _ (w64_in _),if_pos (by omega)])
  | (clear hin hF ha;grind)
theorem tKeys1_c:LsCM 2 ((tmM tKeys1 Tryz.f82 (Tryz.f82.body.getD .skip))::[tKeys1_T1,tKeys1_T2]) tKeys1.os [tKeys1_L0,tKeys1_L1,tKeys1_L2]:=by
 unfold tKeys1_L0 tKeys1_L1 tKeys1_L2
 exact ⟨List.forall_mem_cons.2 ⟨⟨⟨⟨_,rfl,rfl⟩,by kernel_rfl⟩,by kernel_rfl⟩,List.forall_mem_nil _⟩,List.forall_mem_cons.2 ⟨⟨⟨⟨_,rfl,rfl⟩,by kernel_rfl⟩,by kernel_rfl⟩,List.forall_mem_cons.2 ⟨⟨⟨⟨_,rfl,rfl⟩,by kernel_rfl⟩,by kernel_rfl⟩,List.forall_mem_nil _⟩⟩,List.forall_mem_cons.2 ⟨⟨⟨⟨_,rfl,rfl⟩,by kernel_rfl⟩,by kernel_rfl⟩,List.forall_mem_cons.2 ⟨⟨⟨⟨_,rfl,rfl⟩,by kernel_rfl⟩,by kernel_rfl⟩,List.forall_mem_nil _⟩⟩,trivial⟩
theorem tKeys1_ok:tKeys1.Ok Tryz.prog FI FB:=
 Com.of_plain (body:=Tryz.f82.body.getD .skip) pok fiok (EntsFor.consM tSort_ok EntsFor.nil) tKeys1 Tryz.func82 (by kernel_rfl) 0 [tKeys1_T1,tKeys1_T2] (by kernel_rfl) [tKeys1_L0,tKeys1_L1,tKeys1_L2] ⟨tKeys1_h0,tKeys1_h1,tKeys1_h2,trivial⟩ tKeys1_c
  tKeys1_inv tKeys1_mu (fun _ _ _=>trivial) fun kv iv0 bv0 hin hF k l iv bv hk ha hi=>match k,hk,hi with
  | 0,hk,hi=>by
    cases hk
    exact tKeys1_o0 kv iv0 bv0 hin hF iv bv ha hi
  | 1,hk,hi=>by
    cases hk
    exact tKeys1_o1 kv iv0 bv0 hin hF iv bv ha hi
  | 2,hk,hi=>by
    cases hk
    exact tKeys1_o2 kv iv0 bv0 hin hF iv bv ha hi
  | k+3,hk,_=>by simp at hk
end
end Go.Sx.Sl
