/- Timers: TimerNone, TimerLong, by contract. -/
import Derived.Test.YtkhklaomjcgjcaaTiQ
namespace Go.Sx.Ti
set_option linter.unusedVariables false
set_option linter.unusedSimpArgs false
set_option maxRecDepth 100000
set_option maxHeartbeats 0
noncomputable section
open Go Go.Sx Go.Proofs
def lLong:Con:=⟨3,[0],[.it .i64 (.v 0)],[],[i64b 0],[],o1 (.bo (.c true))⟩
def armI (c i:Int):Prop:=(∀ x,hasC c x=true↔0≤x∧x < i∧x < 1024)∧lenC c=min i 1024
theorem arm_0:armI 0 0:=⟨fun x=>by rw [hasC_zero];simp;omega,by rw [lenC_zero];rfl⟩
theorem arm_suc {c i:Int} (h:armI c i) (h0:0≤i) (hi:i < 1024):armI (setM c i 5) (i+1):=by
 obtain ⟨h1,h2⟩:=h
 refine ⟨fun x=>?_,?_⟩
 ·rw [hasC_setM]
  by_cases e:x=i
  ·rw [if_pos e];simp;omega
  ·rw [if_neg e,h1];omega
 ·have hn:¬ hasC c i=true:=fun hh=>by rw [h1] at hh;omega
  rw [lenC_setM,if_neg hn,h2];omega
theorem arm_stay {c i:Int} (h:armI c i) (hi:1024≤i):armI c (i+1):=⟨fun x=>by rw [h.1];omega,by rw [h.2];omega⟩
def lLong_T1:Tm:=⟨⟨3,47,[(4,(.it .i64 (.v 21))),(3,(.pt (.n 1) (.c 0))),(0,(.it .i64 (.v 0)))],[(.code (atC Try.f3 [1,1,1,0,1,0,0])),(.inLoop (atC Try.f3 [1,1,1,0,1,0,0])),(.inBlock 0),(.code (atC Try.f3 [1,1,1,1]))],[],.none⟩,[],
    ⟨[(0,(.mapc .i64 .i64 (.v 22))),(1,(.cells [(.it .i64 (.c 0)),(.mp (.n 0))] 52))],2,0,0,[((.lt (.c 1) (.v 0)),.false),((.lt (.v 0) (.c (-1))),.false)],[0],[(0,((-1),1)),(21,(0,(-1)))]⟩,[21,22]⟩
def lLong_L0:List Lf:=
 [(.fin ([((.lt (.v 0) (.c (-1))),.true)]) 0 ⟨⟨[],[]⟩,[],[],[]⟩ [] []),
  (.fin ([((.lt (.c 1) (.v 0)),.true),((.lt (.v 0) (.c (-1))),.false)]) 0 ⟨⟨[],[]⟩,[],[],[]⟩ [] []),
  (let i_:In:=⟨⟨[(22,(.c 0)),(21,(.c 0))],[]⟩,[(0,0),(1,1)],[],[]⟩;.cut ([((.lt (.c 1) (.v 0)),.false),((.lt (.v 0) (.c (-1))),.false)]) 1 i_ [] (shT lLong_T1 i_))]
def lLong_L1:List Lf:=
 let p0_:SB×Bool:=((.le (.c 0) (.v 0)),.true)
 let p1_:SB×Bool:=((.le (.c 0) (.v 0)),.false)
 let p2_:SB×Bool:=((.lt (.v 21) (.c 1024)),.true)
 let p3_:SB×Bool:=((.lt (.v 21) (.c 1024)),.false)
 let x4_:SI:=(.ap 8 (.v 22) (.c 0) (.c 0) (.c 0) (.c 2) (.c 0))
 let f0_:List (SB×Bool):=[((.lt (.c 1) (.v 0)),.false),((.lt (.v 0) (.c (-1))),.false)]
 let f1_:List (SB×Bool):=((.lt (.v 21) (.op .add (.v 0) (.c 1024))),.true)::f0_
 let f2_:List (SB×Bool):=((.lt (.v 21) (.op .add (.v 0) (.c 1024))),.false)::f0_
 let f3_:List (SB×Bool):=((.ap 1 (.v 22) (.v 21) (.c 0) (.c 0) (.c 0) (.c 0)),.true)::f1_
 let f4_:List (SB×Bool):=((.ap 1 (.v 22) (.v 21) (.c 0) (.c 0) (.c 0) (.c 0)),.false)::f1_
 let f5_:List (SB×Bool):=((.ap 1 (.v 22) (.c 5000) (.c 0) (.c 0) (.c 0) (.c 0)),.true)::f2_
 let f6_:List (SB×Bool):=((.ap 1 (.v 22) (.c 5000) (.c 0) (.c 0) (.c 0) (.c 0)),.false)::f2_
 let f7_:List (SB×Bool):=((.le (.c 1024) x4_),.true)::f4_
 let f8_:List (SB×Bool):=((.le (.c 1024) x4_),.false)::f4_
 let f9_:List (SB×Bool):=((.le (.c 1024) x4_),.true)::f6_
 let f10_:List (SB×Bool):=((.le (.c 1024) x4_),.false)::f6_
 [(.fin (p2_::f3_) 0 ⟨⟨[],[]⟩,[],[],[]⟩ [(.eb (.c .true) (.c .false))] []),
  (let i_:In:=⟨⟨[(22,(.v 22)),(21,(.op .add (.v 21) (.c 1)))],[]⟩,[(0,0),(1,1)],[],[]⟩;.cut (p3_::f3_) 1 i_ [] (shT lLong_T1 i_)),
  (.fin (p2_::f7_) 0 ⟨⟨[],[]⟩,[],[],[]⟩ [(.eb (.c .true) (.c .false))] []),
  (let i_:In:=⟨⟨[(22,(.v 22)),(21,(.op .add (.v 21) (.c 1)))],[]⟩,[(0,0),(1,1)],[],[]⟩;.cut (p3_::f7_) 1 i_ [] (shT lLong_T1 i_)),
  (let i_:In:=⟨⟨[(22,(.ap 8 (.v 22) (.v 21) (.c 0) (.c 5) (.c 1) (.c 0))),(21,(.op .add (.v 21) (.c 1)))],[]⟩,[(0,0),(1,1)],[],[]⟩;.cut (p2_::f8_) 1 i_ [] (shT lLong_T1 i_)),
  (.fin (p3_::f8_) 0 ⟨⟨[],[]⟩,[],[],[]⟩ [(.eb (.c .true) (.c .false))] []),
  (.fin (p0_::f5_) 0 ⟨⟨[],[]⟩,[],[],[]⟩ [(.eb (.c .true) (.c .false))] []),
  (.fin (p1_::f5_) 0 ⟨⟨[],[]⟩,[],[],[]⟩ [(.eb (.c .true) (.c .false))] []),
  (.fin (p0_::f9_) 0 ⟨⟨[],[]⟩,[],[],[]⟩ [] []),
  (.fin (p1_::f9_) 0 ⟨⟨[],[]⟩,[],[],[]⟩ [(.eb (.c .true) (.c .false))] []),
  (.fin (p0_::f10_) 0 ⟨⟨[],[]⟩,[],[],[]⟩ [(.eb (.c .true) (.c .false))] []),
  (.fin (p1_::f10_) 0 ⟨⟨[],[]⟩,[],[],[]⟩ [] [])]
def lLong_run (T:Tm):=(ex (ccOf Try.prog BF [62,32] lLong) ((fun cc=>[cWorks.ent cc,tKeys.ent cc,tClone.ent cc]) (ccOf Try.prog BF [62,32] lLong)) (dw (ccOf Try.prog BF [62,32] lLong) ((fun cc=>[cWorks.ent cc,tKeys.ent cc,tClone.ent cc]) (ccOf Try.prog BF [62,32] lLong)) 1000 4) (stopX [0,1,2,4,5,6,7,8,9,10,11,12,13,14,15,16,17,18,19,20,21,22,23,24,25,26,27,28,29,30,31,32,33,34,35,36,37,38,39,40,41,42,43,44,45,46,47,48,49,50,51,52,53,54,55,56,57,58,59,60,61,62,63,64,65,66,67,68,69,70,71,72,73,74,75,76,77,78,79,80,81,82,83,84,85,86,87,88,89,90,91,92,93,94,95,96,97,98,99,100,101,102,103,104,105,106,107,108,109,110,111,112,113,114,115,116,117,118,119,120,121,122,123,124,125,126,127,128,129,130,131,132,133,134,135,136,137,138,139,140,141,142,143,144,145,146,147,148,149,150,151,152,153,154,155,156,157,158,159,160,161,162,163,164,165,166,167,168,169,170,171,172,173,174,175,176,177,178,179,180,181,182,183,184,185,186,187,188,189,190,191,192,193,194,195,196,197,198,199,200,201,202,203,204,205,206,207,208,209,210,211,212,213,214,215,216,217,218,219,220,221,222,223,224,225,226,227,228,229,230,231,232,233,234,235,236,237,238,239,240,241,242,243,244,245,246,247,248,249]) 20000 T.f T.fs T.H).lfs (ccOf Try.prog BF [62,32] lLong) ((tm0 lLong Try.f3 (Try.f3.body.getD .skip))::[lLong_T1]) lLong.os
theorem lLong_h0:lLong_run (tm0 lLong Try.f3 (Try.f3.body.getD .skip))=some lLong_L0:=by kernel_rfl
theorem lLong_h1:lLong_run lLong_T1=some lLong_L1:=by kernel_rfl
def lLong_inv:(Nat→Int)→(Nat→Bool)→Nat→(Nat→Int)→(Nat→Bool)→Prop:=fun iv0 _ k iv _=>match k with | 0=>True | _=>0≤iv 21∧iv 21≤1024+iv0 0∧armI (iv 22) (iv 21)
def lLong_mu:(Nat→Int)→(Nat→Bool)→Nat→(Nat→Int)→(Nat→Bool)→Nat:=fun iv0 _ k iv _=>match k with | 0=>2 ^ 90 | _=>(1024+iv0 0 - iv 21).toNat
theorem lLong_b {iv0:Nat→Int} (hin:InB lLong.B iv0):((-9223372036854775808)≤iv0 0∧iv0 0≤9223372036854775807):=by
 have b0:=hin 0 (-9223372036854775808) 9223372036854775807 (by simp [lLong,kI,o1,i64b,i64s,lmap])
 simp only [Int.reduceLE,reduceIte,Int.reduceNeg] at b0
 exact b0
def lLong_ob (k:Nat) (l:List Lf):Prop:=∀ (kv:Kv) (iv0:Nat→Int) (bv0:Nat→Bool),InB lLong.B iv0→FT (sta FI FB kv iv0 bv0) (dlt dyn0) lLong.F→∀ (iv:Nat→Int) (bv:Nat→Bool),Agr 1 iv0 bv0 iv bv→lLong_inv iv0 bv0 k iv bv→∀ lf∈l,LfT (sta FI FB kv) lLong.os (lLong_inv iv0 bv0) (lLong_mu iv0 bv0) k iv bv lf
theorem lLong_o0:lLong_ob 0 lLong_L0:=by
 intro kv iv0 bv0 hin hF iv bv ha hi
 unfold lLong_L0
 refine List.forall_mem_cons.2 ⟨?_,List.forall_mem_cons.2 ⟨?_,List.forall_mem_cons.2 ⟨?_,List.forall_mem_nil _⟩⟩⟩
 all_goals
  intro δ hf
 all_goals
  have b0:=lLong_b hin
 all_goals
  have a0:=ha.1 0 (by omega)
 all_goals
  simp only [FT,TP,SB.tp,SI.tv,sta,IB.eval,and_true,true_and,ObsT,Ob.Tv,rowT,kix,In.tiv,↓tbvT,In.tbv,get_cons,get_nil,reduceIte,Nat.reduceEqDiff,Int.reduceToNat,Int.reduceAdd,Int.reduceSub,Int.reduceLE,Int.reduceLT,Int.reduceEq,ne_eq,Bool.false_eq_true,not_true_eq_false,not_false_eq_true,true_iff,false_iff,iff_true,iff_false,false_implies,implies_true,decT,decide_true,decide_false,Bool.decide_eq_true,ap2,pb2,FI_3,FI_8,FI_9,FI_3g,FI_3k,FI_8s,FI_8l,FI_8d,FB_1h,FB_1a,Int.toNat_natCast,Int.toNat_zero,lLong_inv,lLong_mu,lLong,o1,othT,kI,o1,i64b,i64s,lmap,a0] at hf hi ⊢
 all_goals
  (repeat' (with_reducible apply And.intro))<;>first
  | omega
  | assumption
  | (unfold inM;omega)
  | exact trivial
  | (exact arm_0)
  | (clear hin hF ha;grind)
theorem lLong_o1:lLong_ob 1 lLong_L1:=by
 intro kv iv0 bv0 hin hF iv bv ha hi
 unfold lLong_L1
 refine List.forall_mem_cons.2 ⟨?_,List.forall_mem_cons.2 ⟨?_,List.forall_mem_cons.2 ⟨?_,List.forall_mem_cons.2 ⟨?_,List.forall_mem_cons.2 ⟨?_,List.forall_mem_cons.2 ⟨?_,List.forall_mem_cons.2 ⟨?_,List.forall_mem_cons.2 ⟨?_,List.forall_mem_cons.2 ⟨?_,List.forall_mem_cons.2 ⟨?_,List.forall_mem_cons.2 ⟨?_,List.forall_mem_cons.2 ⟨?_,List.forall_mem_nil _⟩⟩⟩⟩⟩⟩⟩⟩⟩⟩⟩⟩
 all_goals
  intro δ hf
 all_goals
  have b0:=lLong_b hin
 all_goals
  have a0:=ha.1 0 (by omega)
 all_goals
  simp only [FT,TP,SB.tp,SI.tv,sta,IB.eval,and_true,true_and,ObsT,Ob.Tv,rowT,kix,In.tiv,↓tbvT,In.tbv,get_cons,get_nil,reduceIte,Nat.reduceEqDiff,Int.reduceToNat,Int.reduceAdd,Int.reduceSub,Int.reduceLE,Int.reduceLT,Int.reduceEq,ne_eq,Bool.false_eq_true,not_true_eq_false,not_false_eq_true,true_iff,false_iff,iff_true,iff_false,false_implies,implies_true,decT,decide_true,decide_false,Bool.decide_eq_true,ap2,pb2,FI_3,FI_8,FI_9,FI_3g,FI_3k,FI_8s,FI_8l,FI_8d,FB_1h,FB_1a,Int.toNat_natCast,Int.toNat_zero,lLong_inv,lLong_mu,lLong,o1,othT,kI,o1,i64b,i64s,lmap,a0] at hf hi ⊢
 all_goals
  obtain ⟨g0,g1,g2⟩:=hi
 all_goals
  have g3:=g2.1
 all_goals
  have g4:=g2.2
 all_goals
  (repeat' (with_reducible apply And.intro))<;>first
  | omega
  | assumption
  | (unfold inM;omega)
  | exact trivial
  | (exact arm_suc g2 (by omega) (by omega))
  | (exact arm_stay g2 (by omega))
  | (clear hin hF ha;grind)
theorem lLong_c:LsC ((tm0 lLong Try.f3 (Try.f3.body.getD .skip))::[lLong_T1]) lLong.os [lLong_L0,lLong_L1]:=by
 unfold lLong_L0 lLong_L1
 exact ⟨List.forall_mem_cons.2 ⟨⟨⟨_,rfl,rfl⟩,by kernel_rfl⟩,List.forall_mem_cons.2 ⟨⟨⟨_,rfl,rfl⟩,by kernel_rfl⟩,List.forall_mem_cons.2 ⟨⟨⟨_,rfl,rfl⟩,by kernel_rfl⟩,List.forall_mem_nil _⟩⟩⟩,List.forall_mem_cons.2 ⟨⟨⟨_,rfl,rfl⟩,by kernel_rfl⟩,List.forall_mem_cons.2 ⟨⟨⟨_,rfl,rfl⟩,by kernel_rfl⟩,List.forall_mem_cons.2 ⟨⟨⟨_,rfl,rfl⟩,by kernel_rfl⟩,List.forall_mem_cons.2 ⟨⟨⟨_,rfl,rfl⟩,by kernel_rfl⟩,List.forall_mem_cons.2 ⟨⟨⟨_,rfl,rfl⟩,by kernel_rfl⟩,List.forall_mem_cons.2 ⟨⟨⟨_,rfl,rfl⟩,by kernel_rfl⟩,List.forall_mem_cons.2 ⟨⟨⟨_,rfl,rfl⟩,by kernel_rfl⟩,List.forall_mem_cons.2 ⟨⟨⟨_,rfl,rfl⟩,by kernel_rfl⟩,List.forall_mem_cons.2 ⟨⟨⟨_,rfl,rfl⟩,by kernel_rfl⟩,List.forall_mem_cons.2 ⟨⟨⟨_,rfl,rfl⟩,by kernel_rfl⟩,List.forall_mem_cons.2 ⟨⟨⟨_,rfl,rfl⟩,by kernel_rfl⟩,List.forall_mem_cons.2 ⟨⟨⟨_,rfl,rfl⟩,by kernel_rfl⟩,List.forall_mem_nil _⟩⟩⟩⟩⟩⟩⟩⟩⟩⟩⟩⟩,trivial⟩
theorem lLong_ok:lLong.Ok Try.prog FI FB:=
 Con.of_plain (body:=Try.f3.body.getD .skip) pok fiok (EntsFor.cons cWorks_ok (EntsFor.consM tKeys_ok (EntsFor.consM tClone_ok EntsFor.nil))) lLong Try.func3 (by kernel_rfl) 1 [lLong_T1] (by kernel_rfl) [lLong_L0,lLong_L1] ⟨lLong_h0,lLong_h1,trivial⟩ lLong_c
  lLong_inv lLong_mu (fun _ _ _=>trivial) fun kv iv0 bv0 hin hF k l iv bv hk ha hi=>match k,hk,hi with
  | 0,hk,hi=>by
    cases hk
    exact lLong_o0 kv iv0 bv0 hin hF iv bv ha hi
  | 1,hk,hi=>by
    cases hk
    exact lLong_o1 kv iv0 bv0 hin hF iv bv ha hi
  | k+2,hk,_=>by simp at hk
end
end Go.Sx.Ti
