/- Timers: maps.Equal, by contract. -/
import Derived.Test.YtkhklaomjcgjcaaTiW
namespace Go.Sx.Ti
set_option linter.unusedVariables false
set_option linter.unusedSimpArgs false
set_option maxRecDepth 100000
set_option maxHeartbeats 0
noncomputable section
open Go Go.Sx Go.Proofs
def mE:List (Nat×Bk):=[(0,.mapc .i64 .i64 (.v 0)),(1,.mapc .i64 .i64 (.v 1))]
def ln (i:Nat):SI:=.ap 8 (.v i) (.c 0) (.c 0) (.c 0) (.c 2) (.c 0)
def tEqual:Com:=⟨46,[0,1],[.mp (.n 0),.mp (.n 1)],mE,2,[],[(.le (ln 0) (.c 4096),true),(.le (ln 1) (.c 4096),true)],[⟨[],.bo (.ap 22 (.v 0) (.v 1) (.c 0) (.c 0) (.c 0) (.c 0)),mE,2,0,[]⟩],.c 0⟩
theorem sub_len {s c:Int} (h:∀ x,hasC s x=true→hasC c x=true):lenC s≤lenC c:=by
 rw [← KL_len,← KL_len]
 have:=nodup_le (KL_nodup s) fun x hx=>mem_KL.2 (h x (mem_KL.1 hx))
 omega
def eqI (c d s:Int):Prop:=∀ x,hasC s x=true→hasC c x=true∧hasC d x=true∧mg c x=mg d x
theorem eqI_0 (c d:Int):eqI c d 0:=fun x h=>by rw [hasC_zero] at h;cases h
theorem eqI_suc {c d s k:Int} (h:eqI c d s) (h1:hasC c k=true) (h2:hasC d k=true) (h3:mg c k=mg d k):eqI c d (setM s k 0):=fun x hx=>by
 rw [hasC_setM] at hx
 by_cases e:x=k
 ·rw [e];exact ⟨h1,h2,h3⟩
 ·rw [if_neg e] at hx;exact h x hx
theorem eqI_len {c d s k:Int} (h:eqI c d s) (h1:hasC c k=true) (hs:¬ hasC s k=true):lenC (setM s k 0)=lenC s+1∧lenC s+1≤lenC c:=by
 have e:lenC (setM s k 0)=lenC s+1:=by rw [lenC_setM,if_neg hs]
 refine ⟨e,e ▸ sub_len fun x hx=>?_⟩
 rw [hasC_setM] at hx
 by_cases e2:x=k
 ·rw [e2];exact h1
 ·rw [if_neg e2] at hx;exact (h x hx).1
theorem eqI_end {c d s:Int} (h:eqI c d s) (ha:∀ y,hasC c y=true→hasC s y=true) (hl:lenC c=lenC d):eqMC c d:=⟨hl,fun x hx=>(h x (ha x hx)).2⟩
theorem eqM_no {c d k:Int} (h:hasC c k=true) (hn:¬ (hasC d k=true∧mg c k=mg d k)):¬ eqMC c d:=fun hh=>hn (hh.2 k h)
def tEqual_T1:Tm:=⟨⟨46,34,[(15,(.pt (.n 2) (.c 0))),(1,(.mp (.n 1)))],[(.code (atC Try.f46 [1,1,0,1,0,0])),(.inLoop (atC Try.f46 [1,1,0,1,0,0])),(.inBlock 0),(.code (atC Try.f46 [1,1,1]))],[],.none⟩,[],
    ⟨[(0,(.mapc .i64 .i64 (.v 0))),(1,(.mapc .i64 .i64 (.v 1))),(2,(.miter 0 (.v 0) (.c 0) .none))],3,0,0,[((.eq (.ap 8 (.v 0) (.c 0) (.c 0) (.c 0) (.c 2) (.c 0)) (.ap 8 (.v 1) (.c 0) (.c 0) (.c 0) (.c 2) (.c 0))),.true),((.le (.ap 8 (.v 0) (.c 0) (.c 0) (.c 0) (.c 2) (.c 0)) (.c 4096)),.true),((.le (.ap 8 (.v 1) (.c 0) (.c 0) (.c 0) (.c 2) (.c 0)) (.c 4096)),.true)],[0],[]⟩,[]⟩
def tEqual_T2:Tm:=⟨⟨46,34,[(15,(.pt (.n 2) (.c 0))),(1,(.mp (.n 1)))],[(.code (atC Try.f46 [1,1,0,1,0,0])),(.inLoop (atC Try.f46 [1,1,0,1,0,0])),(.inBlock 0),(.code (atC Try.f46 [1,1,1]))],[],.none⟩,[],
    ⟨[(0,(.mapc .i64 .i64 (.v 0))),(1,(.mapc .i64 .i64 (.v 1))),(2,(.miter 0 (.v 0) (.v 26) (.some (.ap 3 (.v 0) (.v 22) (.c 0) (.c 2) (.c 0) (.c 0)))))],3,0,0,[((.ap 1 (.v 0) (.c 0) (.c 1) (.c 0) (.c 0) (.c 0)),.false),((.eq (.ap 8 (.v 0) (.c 0) (.c 0) (.c 0) (.c 2) (.c 0)) (.ap 8 (.v 1) (.c 0) (.c 0) (.c 0) (.c 2) (.c 0))),.true),((.le (.ap 8 (.v 0) (.c 0) (.c 0) (.c 0) (.c 2) (.c 0)) (.c 4096)),.true),((.le (.ap 8 (.v 1) (.c 0) (.c 0) (.c 0) (.c 2) (.c 0)) (.c 4096)),.true)],[0],[]⟩,[26,22]⟩
def tEqual_L0:List Lf:=
 let x0_:SI:=(.ap 8 (.v 0) (.c 0) (.c 0) (.c 0) (.c 2) (.c 0))
 let x1_:SI:=(.ap 8 (.v 1) (.c 0) (.c 0) (.c 0) (.c 2) (.c 0))
 let f0_:List (SB×Bool):=[((.le x0_ (.c 4096)),.true),((.le x1_ (.c 4096)),.true)]
 [(.cut (((.eq x0_ x1_),.true)::f0_) 1 ⟨⟨[],[]⟩,[(0,0),(1,1),(2,2)],[],[]⟩ [] (shT tEqual_T1 ⟨⟨[],[]⟩,[(0,0),(1,1),(2,2)],[],[]⟩)),
  (.fin (((.eq x0_ x1_),.false)::f0_) 0 ⟨⟨[],[]⟩,[(1,1),(0,0)],[],[]⟩ [(.eb (.ap 22 (.v 0) (.v 1) (.c 0) (.c 0) (.c 0) (.c 0)) (.c .false))] [.none,.none])]
def tEqual_L1:List Lf:=
 let x0_:SI:=(.ap 8 (.v 0) (.c 0) (.c 0) (.c 0) (.c 2) (.c 0))
 let x1_:SI:=(.ap 8 (.v 1) (.c 0) (.c 0) (.c 0) (.c 2) (.c 0))
 let x2_:SI:=(.ap 3 (.v 0) (.d 0) (.c 0) (.c 2) (.c 0) (.c 0))
 let x3_:SI:=(.ap 3 (.v 0) x2_ (.c 0) (.c 1) (.c 0) (.c 0))
 let x4_:SI:=(.ap 3 (.v 1) x2_ (.c 0) (.c 1) (.c 0) (.c 0))
 let f0_:List (SB×Bool):=[((.eq x0_ x1_),.true),((.le x0_ (.c 4096)),.true),((.le x1_ (.c 4096)),.true)]
 let f1_:List (SB×Bool):=((.ap 1 (.c 0) x2_ (.c 0) (.c 0) (.c 0) (.c 0)),.false)::((.ap 1 (.v 0) x2_ (.c 0) (.c 0) (.c 0) (.c 0)),.true)::((.le (.c 0) (.d 0)),.true)::((.ap 1 (.v 0) (.c 0) (.c 1) (.c 0) (.c 0) (.c 0)),.false)::f0_
 let f2_:List (SB×Bool):=((.ap 1 (.v 1) x2_ (.c 0) (.c 0) (.c 0) (.c 0)),.true)::f1_
 [(.fin (((.ap 1 (.v 0) (.c 0) (.c 1) (.c 0) (.c 0) (.c 0)),.true)::f0_) 0 ⟨⟨[],[]⟩,[(1,1),(0,0)],[],[]⟩ [(.eb (.ap 22 (.v 0) (.v 1) (.c 0) (.c 0) (.c 0) (.c 0)) (.c .true))] [.none,.none]),
  (let i_:In:=⟨⟨[(22,(.d 0)),(26,(.ap 8 (.c 0) x2_ (.c 0) (.c 0) (.c 1) (.c 0)))],[]⟩,[(0,0),(1,1),(2,2)],[],[]⟩;.cut (((.eq x3_ x4_),.true)::f2_) 2 i_ [] (shT tEqual_T2 i_)),
  (.fin (((.eq x3_ x4_),.false)::f2_) 0 ⟨⟨[],[]⟩,[(1,1),(0,0)],[],[]⟩ [(.eb (.ap 22 (.v 0) (.v 1) (.c 0) (.c 0) (.c 0) (.c 0)) (.c .false))] [.none,.none]),
  (.fin (((.ap 1 (.v 1) x2_ (.c 0) (.c 0) (.c 0) (.c 0)),.false)::f1_) 0 ⟨⟨[],[]⟩,[(1,1),(0,0)],[],[]⟩ [(.eb (.ap 22 (.v 0) (.v 1) (.c 0) (.c 0) (.c 0) (.c 0)) (.c .false))] [.none,.none])]
def tEqual_L2:List Lf:=
 let x0_:SI:=(.ap 8 (.v 0) (.c 0) (.c 0) (.c 0) (.c 2) (.c 0))
 let x1_:SI:=(.ap 8 (.v 1) (.c 0) (.c 0) (.c 0) (.c 2) (.c 0))
 let x2_:SI:=(.ap 3 (.v 0) (.d 0) (.c 0) (.c 2) (.c 0) (.c 0))
 let x3_:SI:=(.ap 3 (.v 0) x2_ (.c 0) (.c 1) (.c 0) (.c 0))
 let x4_:SI:=(.ap 3 (.v 1) x2_ (.c 0) (.c 1) (.c 0) (.c 0))
 let f0_:List (SB×Bool):=[((.ap 1 (.v 0) (.c 0) (.c 1) (.c 0) (.c 0) (.c 0)),.false),((.eq x0_ x1_),.true),((.le x0_ (.c 4096)),.true),((.le x1_ (.c 4096)),.true)]
 let f1_:List (SB×Bool):=((.ap 1 (.v 26) x2_ (.c 0) (.c 0) (.c 0) (.c 0)),.false)::((.ap 1 (.v 0) x2_ (.c 0) (.c 0) (.c 0) (.c 0)),.true)::((.le (.c 0) (.d 0)),.true)::((.ap 1 (.v 0) (.v 26) (.c 1) (.c 0) (.c 0) (.c 0)),.false)::f0_
 let f2_:List (SB×Bool):=((.ap 1 (.v 1) x2_ (.c 0) (.c 0) (.c 0) (.c 0)),.true)::f1_
 [(.fin (((.ap 1 (.v 0) (.v 26) (.c 1) (.c 0) (.c 0) (.c 0)),.true)::f0_) 0 ⟨⟨[],[]⟩,[(1,1),(0,0)],[],[]⟩ [(.eb (.ap 22 (.v 0) (.v 1) (.c 0) (.c 0) (.c 0) (.c 0)) (.c .true))] [.none,.none]),
  (let i_:In:=⟨⟨[(22,(.d 0)),(26,(.ap 8 (.v 26) x2_ (.c 0) (.c 0) (.c 1) (.c 0)))],[]⟩,[(0,0),(1,1),(2,2)],[],[]⟩;.cut (((.eq x3_ x4_),.true)::f2_) 2 i_ [] (shT tEqual_T2 i_)),
  (.fin (((.eq x3_ x4_),.false)::f2_) 0 ⟨⟨[],[]⟩,[(1,1),(0,0)],[],[]⟩ [(.eb (.ap 22 (.v 0) (.v 1) (.c 0) (.c 0) (.c 0) (.c 0)) (.c .false))] [.none,.none]),
  (.fin (((.ap 1 (.v 1) x2_ (.c 0) (.c 0) (.c 0) (.c 0)),.false)::f1_) 0 ⟨⟨[],[]⟩,[(1,1),(0,0)],[],[]⟩ [(.eb (.ap 22 (.v 0) (.v 1) (.c 0) (.c 0) (.c 0) (.c 0)) (.c .false))] [.none,.none])]
def tEqual_run (T:Tm):=(ex (ccM Try.prog BF [62,32]) ((fun _=>[]) (ccM Try.prog BF [62,32])) (dw (ccM Try.prog BF [62,32]) ((fun _=>[]) (ccM Try.prog BF [62,32])) 1000 4) (stopX []) 4000 T.f T.fs T.H).lfsM 2 (ccM Try.prog BF [62,32]) ((tmM tEqual Try.f46 (Try.f46.body.getD .skip))::[tEqual_T1,tEqual_T2]) tEqual.os
theorem tEqual_h0:tEqual_run (tmM tEqual Try.f46 (Try.f46.body.getD .skip))=some tEqual_L0:=by kernel_rfl
theorem tEqual_h1:tEqual_run tEqual_T1=some tEqual_L1:=by kernel_rfl
theorem tEqual_h2:tEqual_run tEqual_T2=some tEqual_L2:=by kernel_rfl
def tEqual_inv:(Nat→Int)→(Nat→Bool)→Nat→(Nat→Int)→(Nat→Bool)→Prop:=fun iv0 _ k iv _=>match k with | 0=>True | 1=>True | _=>eqI (iv0 0) (iv0 1) (iv 26)
def tEqual_mu:(Nat→Int)→(Nat→Bool)→Nat→(Nat→Int)→(Nat→Bool)→Nat:=fun iv0 _ k iv _=>match k with | 0=>2 ^ 90 | 1=>2 ^ 80 | _=>(lenC (iv0 0) - lenC (iv 26)).toNat
def tEqual_ob (k:Nat) (l:List Lf):Prop:=∀ (kv:Kv) (iv0:Nat→Int) (bv0:Nat→Bool),InB tEqual.B iv0→FT (sta FI FB kv iv0 bv0) (dlt dyn0) tEqual.F→∀ (iv:Nat→Int) (bv:Nat→Bool),Agr 2 iv0 bv0 iv bv→tEqual_inv iv0 bv0 k iv bv→∀ lf∈l,LfT (sta FI FB kv) tEqual.os (tEqual_inv iv0 bv0) (tEqual_mu iv0 bv0) k iv bv lf
theorem tEqual_o0:tEqual_ob 0 tEqual_L0:=by
 intro kv iv0 bv0 hin hF iv bv ha hi
 unfold tEqual_L0
 refine List.forall_mem_cons.2 ⟨?_,List.forall_mem_cons.2 ⟨?_,List.forall_mem_nil _⟩⟩
 all_goals
  intro δ hf
 all_goals
  have a0:=ha.1 0 (by omega)
  have a1:=ha.1 1 (by omega)
 all_goals
  simp only [FT,TP,SB.tp,SI.tv,sta,IB.eval,and_true,true_and,ObsT,Ob.Tv,rowT,kix,In.tiv,↓tbvT,In.tbv,get_cons,get_nil,reduceIte,Nat.reduceEqDiff,Int.reduceToNat,Int.reduceAdd,Int.reduceSub,Int.reduceLE,Int.reduceLT,Int.reduceEq,ne_eq,Bool.false_eq_true,not_true_eq_false,not_false_eq_true,true_iff,false_iff,iff_true,iff_false,false_implies,implies_true,decT,decide_true,decide_false,Bool.decide_eq_true,ap2,pb2,FI_3,FI_8,FI_9,FI_3g,FI_3k,FI_8s,FI_8l,FI_8d,FB_1h,FB_1a,Int.toNat_natCast,Int.toNat_zero,FI_22,FB_22,tEqual_inv,tEqual_mu,tEqual,o1,othT,mE,ln,kI,a0,a1] at hf hi ⊢
 all_goals
  (repeat' (with_reducible apply And.intro))<;>first
  | omega
  | assumption
  | (unfold inM;omega)
  | exact trivial
  | (intro h;exact absurd h.1 (by omega))
  | (clear hin hF ha;grind)
theorem tEqual_o1:tEqual_ob 1 tEqual_L1:=by
 intro kv iv0 bv0 hin hF iv bv ha hi
 unfold tEqual_L1
 refine List.forall_mem_cons.2 ⟨?_,List.forall_mem_cons.2 ⟨?_,List.forall_mem_cons.2 ⟨?_,List.forall_mem_cons.2 ⟨?_,List.forall_mem_nil _⟩⟩⟩⟩
 all_goals
  intro δ hf
 all_goals
  have a0:=ha.1 0 (by omega)
  have a1:=ha.1 1 (by omega)
 all_goals
  simp only [FT,TP,SB.tp,SI.tv,sta,IB.eval,and_true,true_and,ObsT,Ob.Tv,rowT,kix,In.tiv,↓tbvT,In.tbv,get_cons,get_nil,reduceIte,Nat.reduceEqDiff,Int.reduceToNat,Int.reduceAdd,Int.reduceSub,Int.reduceLE,Int.reduceLT,Int.reduceEq,ne_eq,Bool.false_eq_true,not_true_eq_false,not_false_eq_true,true_iff,false_iff,iff_true,iff_false,false_implies,implies_true,decT,decide_true,decide_false,Bool.decide_eq_true,ap2,pb2,FI_3,FI_8,FI_9,FI_3g,FI_3k,FI_8s,FI_8l,FI_8d,FB_1h,FB_1a,Int.toNat_natCast,Int.toNat_zero,FI_22,FB_22,tEqual_inv,tEqual_mu,tEqual,o1,othT,mE,ln,kI,a0,a1] at hf hi ⊢
 all_goals
  have h0:=eqI_0 (iv0 0) (iv0 1)
 all_goals
  have l0:=lenC_zero
 all_goals
  have l1:=lenC_nn (iv0 0)
 all_goals
  have q1:=fun k=>@eqI_suc _ _ _ k h0
 all_goals
  have q2:=fun k=>@eqI_len _ _ _ k h0
 all_goals
  have q3:=fun k=>@eqM_no (iv0 0) (iv0 1) k
 all_goals
  have q4:=eqI_end h0
 all_goals
  (repeat' (with_reducible apply And.intro))<;>first
  | omega
  | assumption
  | (unfold inM;omega)
  | exact trivial
  | (clear hin hF ha;grind)
  | (clear hin hF ha;grind)
theorem tEqual_o2:tEqual_ob 2 tEqual_L2:=by
 intro kv iv0 bv0 hin hF iv bv ha hi
 unfold tEqual_L2
 refine List.forall_mem_cons.2 ⟨?_,List.forall_mem_cons.2 ⟨?_,List.forall_mem_cons.2 ⟨?_,List.forall_mem_cons.2 ⟨?_,List.forall_mem_nil _⟩⟩⟩⟩
 all_goals
  intro δ hf
 all_goals
  have a0:=ha.1 0 (by omega)
  have a1:=ha.1 1 (by omega)
 all_goals
  simp only [FT,TP,SB.tp,SI.tv,sta,IB.eval,and_true,true_and,ObsT,Ob.Tv,rowT,kix,In.tiv,↓tbvT,In.tbv,get_cons,get_nil,reduceIte,Nat.reduceEqDiff,Int.reduceToNat,Int.reduceAdd,Int.reduceSub,Int.reduceLE,Int.reduceLT,Int.reduceEq,ne_eq,Bool.false_eq_true,not_true_eq_false,not_false_eq_true,true_iff,false_iff,iff_true,iff_false,false_implies,implies_true,decT,decide_true,decide_false,Bool.decide_eq_true,ap2,pb2,FI_3,FI_8,FI_9,FI_3g,FI_3k,FI_8s,FI_8l,FI_8d,FB_1h,FB_1a,Int.toNat_natCast,Int.toNat_zero,FI_22,FB_22,tEqual_inv,tEqual_mu,tEqual,o1,othT,mE,ln,kI,a0,a1] at hf hi ⊢
 all_goals
  have q1:=fun k=>@eqI_suc _ _ _ k hi
 all_goals
  have q2:=fun k=>@eqI_len _ _ _ k hi
 all_goals
  have q3:=fun k=>@eqM_no (iv0 0) (iv0 1) k
 all_goals
  have q4:=eqI_end hi
 all_goals
  (repeat' (with_reducible apply And.intro))<;>first
  | omega
  | assumption
  | (unfold inM;omega)
  | exact trivial
  | (clear hin hF ha;grind)
  | (clear hin hF ha;grind)
theorem tEqual_c:LsCM 2 ((tmM tEqual Try.f46 (Try.f46.body.getD .skip))::[tEqual_T1,tEqual_T2]) tEqual.os [tEqual_L0,tEqual_L1,tEqual_L2]:=by
 unfold tEqual_L0 tEqual_L1 tEqual_L2
 exact ⟨List.forall_mem_cons.2 ⟨⟨⟨⟨_,rfl,rfl⟩,by kernel_rfl⟩,by kernel_rfl⟩,List.forall_mem_cons.2 ⟨⟨⟨⟨_,rfl,rfl⟩,by kernel_rfl⟩,by kernel_rfl⟩,List.forall_mem_nil _⟩⟩,List.forall_mem_cons.2 ⟨⟨⟨⟨_,rfl,rfl⟩,by kernel_rfl⟩,by kernel_rfl⟩,List.forall_mem_cons.2 ⟨⟨⟨⟨_,rfl,rfl⟩,by kernel_rfl⟩,by kernel_rfl⟩,List.forall_mem_cons.2 ⟨⟨⟨⟨_,rfl,rfl⟩,by kernel_rfl⟩,by kernel_rfl⟩,List.forall_mem_cons.2 ⟨⟨⟨⟨_,rfl,rfl⟩,by kernel_rfl⟩,by kernel_rfl⟩,List.forall_mem_nil _⟩⟩⟩⟩,List.forall_mem_cons.2 ⟨⟨⟨⟨_,rfl,rfl⟩,by kernel_rfl⟩,by kernel_rfl⟩,List.forall_mem_cons.2 ⟨⟨⟨⟨_,rfl,rfl⟩,by kernel_rfl⟩,by kernel_rfl⟩,List.forall_mem_cons.2 ⟨⟨⟨⟨_,rfl,rfl⟩,by kernel_rfl⟩,by kernel_rfl⟩,List.forall_mem_cons.2 ⟨⟨⟨⟨_,rfl,rfl⟩,by kernel_rfl⟩,by kernel_rfl⟩,List.forall_mem_nil _⟩⟩⟩⟩,trivial⟩
theorem tEqual_ok:tEqual.Ok Try.prog FI FB:=
 Com.of_plain (body:=Try.f46.body.getD .skip) pok fiok EntsFor.nil tEqual Try.func46 (by kernel_rfl) 2 [tEqual_T1,tEqual_T2] (by kernel_rfl) [tEqual_L0,tEqual_L1,tEqual_L2] ⟨tEqual_h0,tEqual_h1,tEqual_h2,trivial⟩ tEqual_c
  tEqual_inv tEqual_mu (fun _ _ _=>trivial) fun kv iv0 bv0 hin hF k l iv bv hk ha hi=>match k,hk,hi with
  | 0,hk,hi=>by
    cases hk
    exact tEqual_o0 kv iv0 bv0 hin hF iv bv ha hi
  | 1,hk,hi=>by
    cases hk
    exact tEqual_o1 kv iv0 bv0 hin hF iv bv ha hi
  | 2,hk,hi=>by
    cases hk
    exact tEqual_o2 kv iv0 bv0 hin hF iv bv ha hi
  | k+3,hk,_=>by simp at hk
end
end Go.Sx.Ti
