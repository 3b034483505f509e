/- Timers: TimerSame at no list, by contract. -/
import Derived.Test.YtkhklaomjcgjcaaTiB
namespace Go.Sx.Ti
set_option linter.unusedVariables false
set_option linter.unusedSimpArgs false
set_option maxRecDepth 100000
open Go Go.Sx Go.Proofs
theorem eqMC_len {c d:Int} (h:lenC c≠lenC d):¬ eqMC c d:=fun hh=>h hh.1
noncomputable def lSame0_L0:List Lf:=
 let x0_:SI:=(.ap 8 (.c 0) (.c 0) (.c 0) (.c 0) (.c 2) (.c 0))
 let x1_:SI:=(.ap 8 (.c 0) (.v 5) (.c 0) (.v 6) (.c 1) (.c 0))
 let x2_:SI:=(.ap 25 (.c 0) (.c 0) (.c 0) (.v 5) (.v 6) (.c 0))
 let p3_:SB×Bool:=((.ap 20 (.c 0) (.c 0) (.c 0) (.c 0) (.c 0) (.c 0)),.true)
 let p4_:SB×Bool:=((.ap 20 (.c 0) (.c 0) (.c 0) (.c 0) (.c 0) (.c 0)),.false)
 let p5_:SB×Bool:=((.eq x0_ (.c 0)),.true)
 let p6_:SB×Bool:=((.eq x0_ (.c 0)),.false)
 let x7_:SI:=(.ap 22 (.c 0) (.op .imin (.c 1) (.c 1099511627776)) (.c 0) (.c 0) (.c 0) (.c 0))
 let x8_:SI:=(.ap 8 x1_ (.c 0) (.c 0) (.c 0) (.c 2) (.c 0))
 let f0_:List (SB×Bool):=[((.ap 22 (.c 0) (.c 0) (.c 0) (.c 0) (.c 0) (.c 0)),.true),((.le x0_ (.c 4096)),.true)]
 let f1_:List (SB×Bool):=((.eq (.v 4) (.c 0)),.true)::f0_
 let f2_:List (SB×Bool):=((.eq (.v 4) (.c 0)),.false)::f0_
 let f3_:List (SB×Bool):=((.lt (.v 5) (.c 0)),.true)::f1_
 let f4_:List (SB×Bool):=((.lt (.v 5) (.c 0)),.false)::f1_
 let f5_:List (SB×Bool):=((.eq (.v 4) (.c 1)),.true)::f2_
 let f6_:List (SB×Bool):=((.eq (.v 4) (.c 1)),.false)::f2_
 let f7_:List (SB×Bool):=p3_::f3_
 let f8_:List (SB×Bool):=((.lt (.v 6) (.c 0)),.true)::f4_
 let f9_:List (SB×Bool):=((.lt (.v 6) (.c 0)),.false)::f4_
 let f10_:List (SB×Bool):=((.lt (.v 5) (.c 0)),.true)::f5_
 let f11_:List (SB×Bool):=((.lt (.v 5) (.c 0)),.false)::f5_
 let f12_:List (SB×Bool):=((.eq (.v 4) (.c 2)),.true)::f6_
 let f13_:List (SB×Bool):=((.eq (.v 4) (.c 2)),.false)::f6_
 let f14_:List (SB×Bool):=p3_::f8_
 let f15_:List (SB×Bool):=((.le (.v 6) (.c 1099511627776)),.false)::f9_
 let f16_:List (SB×Bool):=p3_::f10_
 let f17_:List (SB×Bool):=p3_::f11_
 let f18_:List (SB×Bool):=p3_::f12_
 let f19_:List (SB×Bool):=((.eq (.v 4) (.c 3)),.true)::f13_
 let f20_:List (SB×Bool):=((.eq (.v 4) (.c 3)),.false)::f13_
 let f21_:List (SB×Bool):=((.le (.c 1) (.d 0)),.true)::((.le (.v 6) (.c 1099511627776)),.true)::f9_
 let f22_:List (SB×Bool):=p3_::f15_
 let f23_:List (SB×Bool):=((.lt (.c 0) x7_),.false)::f18_
 let f24_:List (SB×Bool):=p3_::f19_
 let f25_:List (SB×Bool):=p3_::f20_
 let f26_:List (SB×Bool):=p3_::f21_
 let f27_:List (SB×Bool):=p5_::f26_
 let f28_:List (SB×Bool):=((.ap 21 x1_ x2_ (.c 0) (.c 1) (.c 0) (.c 0)),.true)::f27_
 let f29_:List (SB×Bool):=((.le x8_ (.c 4096)),.true)::f28_
 let f30_:List (SB×Bool):=((.ap 22 x1_ (.c 0) (.c 0) (.c 0) (.c 0) (.c 0)),.false)::f29_
 [(.fin (p5_::f7_) 0 ⟨⟨[],[]⟩,[],[],[]⟩ [] []),
  (.bad (p6_::f7_)),
  (.bad (p4_::f3_)),
  (.fin (p5_::f14_) 0 ⟨⟨[],[]⟩,[],[],[]⟩ [] []),
  (.bad (p6_::f14_)),
  (.bad (p4_::f8_)),
  (.fin (((.ap 22 x1_ (.c 0) (.c 0) (.c 0) (.c 0) (.c 0)),.true)::f29_) 0 ⟨⟨[],[]⟩,[],[],[]⟩ [(.eb (.c .true) (.c .false))] []),
  (.fin (((.ap 22 (.c 0) x1_ (.c 0) (.c 0) (.c 0) (.c 0)),.true)::f30_) 0 ⟨⟨[],[]⟩,[],[],[]⟩ [(.eb (.c .true) (.c .false))] []),
  (.fin (((.ap 22 (.c 0) x1_ (.c 0) (.c 0) (.c 0) (.c 0)),.false)::f30_) 0 ⟨⟨[],[]⟩,[],[],[]⟩ [] []),
  (.bad (((.le x8_ (.c 4096)),.false)::f28_)),
  (.bad (((.ap 21 x1_ x2_ (.c 0) (.c 1) (.c 0) (.c 0)),.false)::f27_)),
  (.bad (p6_::f26_)),
  (.bad (p4_::f21_)),
  (.fin (p5_::f22_) 0 ⟨⟨[],[]⟩,[],[],[]⟩ [] []),
  (.bad (p6_::f22_)),
  (.bad (p4_::f15_)),
  (.fin (p5_::f16_) 0 ⟨⟨[],[]⟩,[],[],[]⟩ [] []),
  (.bad (p6_::f16_)),
  (.bad (p4_::f10_)),
  (.fin (p5_::f17_) 0 ⟨⟨[],[]⟩,[],[],[]⟩ [] []),
  (.bad (p6_::f17_)),
  (.bad (p4_::f11_)),
  (.fin (((.le x7_ (.d 0)),.true)::((.le x7_ x0_),.true)::((.lt (.c 0) x7_),.true)::f18_) 0 ⟨⟨[],[]⟩,[],[],[]⟩ [(.eb (.c .true) (.c .false))] []),
  (.fin (p5_::f23_) 0 ⟨⟨[],[]⟩,[],[],[]⟩ [] []),
  (.bad (p6_::f23_)),
  (.bad (p4_::f12_)),
  (.fin (p5_::f24_) 0 ⟨⟨[],[]⟩,[],[],[]⟩ [] []),
  (.bad (p6_::f24_)),
  (.bad (p4_::f19_)),
  (.fin (p5_::f25_) 0 ⟨⟨[],[]⟩,[],[],[]⟩ [] []),
  (.bad (p6_::f25_)),
  (.bad (p4_::f20_)),
  (.fin ([((.ap 22 (.c 0) (.c 0) (.c 0) (.c 0) (.c 0) (.c 0)),.false),((.le x0_ (.c 4096)),.true)]) 0 ⟨⟨[],[]⟩,[],[],[]⟩ [(.eb (.c .true) (.c .false))] []),
  (.bad ([((.le x0_ (.c 4096)),.false)]))]
noncomputable def lSame0_run (T:Tm):=(ex (ccOf Try.prog BF [62,32] lSame0) ((fun cc=>[cWorks.ent cc,tEqual.ent cc,tIs.ent cc,tIs0.ent cc,tTick.ent cc,tClone.ent cc,rFind.ent cc,rFind0.ent cc,rArm.ent cc,rArm0.ent cc,rCancel.ent cc,rCancel0.ent cc,rTickN.ent cc,rTick0.ent cc,rSame.ent cc,rSame0.ent cc,rSame1.ent cc,rSame2.ent cc]) (ccOf Try.prog BF [62,32] lSame0)) (dw (ccOf Try.prog BF [62,32] lSame0) ((fun cc=>[cWorks.ent cc,tEqual.ent cc,tIs.ent cc,tIs0.ent cc,tTick.ent cc,tClone.ent cc,rFind.ent cc,rFind0.ent cc,rArm.ent cc,rArm0.ent cc,rCancel.ent cc,rCancel0.ent cc,rTickN.ent cc,rTick0.ent cc,rSame.ent cc,rSame0.ent cc,rSame1.ent cc,rSame2.ent cc]) (ccOf Try.prog BF [62,32] lSame0)) 1000 4) (stopX [7,25]) 20000 T.f T.fs T.H).lfs (ccOf Try.prog BF [62,32] lSame0) ((tm0 lSame0 Try.f7 (Try.f7.body.getD .skip))::[]) lSame0.os
theorem lSame0_h0:lSame0_run (tm0 lSame0 Try.f7 (Try.f7.body.getD .skip))=some lSame0_L0:=by kernel_rfl
def lSame0_inv:(Nat→Int)→(Nat→Bool)→Nat→(Nat→Int)→(Nat→Bool)→Prop:=fun _ _ _ _ _=>True
noncomputable def lSame0_mu:(Nat→Int)→(Nat→Bool)→Nat→(Nat→Int)→(Nat→Bool)→Nat:=fun _ _ _ _ _=>0
theorem lSame0_b {iv0:Nat→Int} (hin:InB lSame0.B iv0):((-9223372036854775808)≤iv0 4∧iv0 4≤9223372036854775807)∧((-9223372036854775808)≤iv0 5∧iv0 5≤9223372036854775807)∧((-9223372036854775808)≤iv0 6∧iv0 6≤9223372036854775807):=by
 have b4:=hin 4 (-9223372036854775808) 9223372036854775807 (by simp [lSame0,kA,lA,gA,bA,bA4,fT,i64b,o1,kT,kI,xA,bA6])
 simp only [Int.reduceLE,reduceIte,Int.reduceNeg] at b4
 have b5:=hin 5 (-9223372036854775808) 9223372036854775807 (by simp [lSame0,kA,lA,gA,bA,bA4,fT,i64b,o1,kT,kI,xA,bA6])
 simp only [Int.reduceLE,reduceIte,Int.reduceNeg] at b5
 have b6:=hin 6 (-9223372036854775808) 9223372036854775807 (by simp [lSame0,kA,lA,gA,bA,bA4,fT,i64b,o1,kT,kI,xA,bA6])
 simp only [Int.reduceLE,reduceIte,Int.reduceNeg] at b6
 exact ⟨b4,b5,b6⟩
def lSame0_ob (k:Nat) (l:List Lf):Prop:=∀ (kv:Kv) (iv0:Nat→Int) (bv0:Nat→Bool),InB lSame0.B iv0→FT (sta FI FB kv iv0 bv0) (dlt dyn0) lSame0.F→∀ (iv:Nat→Int) (bv:Nat→Bool),Agr 7 iv0 bv0 iv bv→lSame0_inv iv0 bv0 k iv bv→∀ lf∈l,LfT (sta FI FB kv) lSame0.os (lSame0_inv iv0 bv0) (lSame0_mu iv0 bv0) k iv bv lf
set_option maxHeartbeats 0 in
theorem lSame0_o0:lSame0_ob 0 lSame0_L0:=by
 intro kv iv0 bv0 hin hF iv bv ha hi
 unfold lSame0_L0
 refine List.forall_mem_cons.2 ⟨?_,List.forall_mem_cons.2 ⟨?_,List.forall_mem_cons.2 ⟨?_,List.forall_mem_cons.2 ⟨?_,List.forall_mem_cons.2 ⟨?_,List.forall_mem_cons.2 ⟨?_,List.forall_mem_cons.2 ⟨?_,List.forall_mem_cons.2 ⟨?_,List.forall_mem_cons.2 ⟨?_,List.forall_mem_cons.2 ⟨?_,List.forall_mem_cons.2 ⟨?_,List.forall_mem_cons.2 ⟨?_,List.forall_mem_cons.2 ⟨?_,List.forall_mem_cons.2 ⟨?_,List.forall_mem_cons.2 ⟨?_,List.forall_mem_cons.2 ⟨?_,List.forall_mem_cons.2 ⟨?_,List.forall_mem_cons.2 ⟨?_,List.forall_mem_cons.2 ⟨?_,List.forall_mem_cons.2 ⟨?_,List.forall_mem_cons.2 ⟨?_,List.forall_mem_cons.2 ⟨?_,List.forall_mem_cons.2 ⟨?_,List.forall_mem_cons.2 ⟨?_,List.forall_mem_cons.2 ⟨?_,List.forall_mem_cons.2 ⟨?_,List.forall_mem_cons.2 ⟨?_,List.forall_mem_cons.2 ⟨?_,List.forall_mem_cons.2 ⟨?_,List.forall_mem_cons.2 ⟨?_,List.forall_mem_cons.2 ⟨?_,List.forall_mem_cons.2 ⟨?_,List.forall_mem_cons.2 ⟨?_,List.forall_mem_cons.2 ⟨?_,List.forall_mem_nil _⟩⟩⟩⟩⟩⟩⟩⟩⟩⟩⟩⟩⟩⟩⟩⟩⟩⟩⟩⟩⟩⟩⟩⟩⟩⟩⟩⟩⟩⟩⟩⟩⟩⟩
 all_goals
  intro δ hf
 all_goals
  obtain ⟨b4,b5,b6⟩:=lSame0_b hin
 all_goals
  have a4:=ha.1 4 (by omega)
  have a5:=ha.1 5 (by omega)
  have a6:=ha.1 6 (by omega)
 all_goals
  simp only [FT,TP,SB.tp,SI.tv,sta,IB.eval,and_true,true_and,ObsT,Ob.Tv,rowT,kix,In.tiv,↓tbvT,In.tbv,get_cons,get_nil,reduceIte,Nat.reduceEqDiff,Int.reduceToNat,Int.reduceAdd,Int.reduceSub,Int.reduceLE,Int.reduceLT,Int.reduceEq,ne_eq,Bool.false_eq_true,not_true_eq_false,not_false_eq_true,true_iff,false_iff,iff_true,iff_false,false_implies,implies_true,decT,decide_true,decide_false,Bool.decide_eq_true,ap2,pb2,FI_3,FI_8,FI_9,FI_3g,FI_3k,FI_8s,FI_8l,FI_8d,FB_1h,FB_1a,Int.toNat_natCast,Int.toNat_zero,FI_20,FI_21,FI_22,FI_25,FB_20,FB_21,FB_22,lSame0_inv,lSame0_mu,lSame0,o1,othT,kA,lA,gA,bA,bA4,fT,i64b,o1,kT,kI,xA,bA6,a4,a5,a6] at hf hi ⊢
 all_goals
  have q2:=relO_0.2 (relE_ins0 (k:=iv0 5) (a:=iv0 6) kinC_zero lenC_zero b5 b6)
 all_goals
  have l0:=lenC_zero
 all_goals
  have k0:=kinC_zero
 all_goals
  have z1:=hasC_zero (iv0 5)
 all_goals
  have z2:=mg_zero (iv0 5)
 all_goals
  have d0:=dueC_zero
 all_goals
  have m0:=eqMC_refl 0
 all_goals
  have l1:=lenC_setM 0 (iv0 5) (iv0 6)
 all_goals
  have n1:=@eqMC_len 0 (setM 0 (iv0 5) (iv0 6))
 all_goals
  have n2:=@eqMC_len (setM 0 (iv0 5) (iv0 6)) 0
 all_goals
  try simp only [dueC_zero,rmC_0,lenC_zero] at hf ⊢
 all_goals
  (repeat' (with_reducible apply And.intro))<;>first
  | omega
  | assumption
  | (unfold inM;omega)
  | exact trivial
  | (have k1:=q2.1;clear hin hF ha;grind)
theorem lSame0_c:LsC ((tm0 lSame0 Try.f7 (Try.f7.body.getD .skip))::[]) lSame0.os [lSame0_L0]:=by
 unfold lSame0_L0
 exact ⟨List.forall_mem_cons.2 ⟨⟨⟨_,rfl,rfl⟩,by kernel_rfl⟩,List.forall_mem_cons.2 ⟨trivial,List.forall_mem_cons.2 ⟨trivial,List.forall_mem_cons.2 ⟨⟨⟨_,rfl,rfl⟩,by kernel_rfl⟩,List.forall_mem_cons.2 ⟨trivial,List.forall_mem_cons.2 ⟨trivial,List.forall_mem_cons.2 ⟨⟨⟨_,rfl,rfl⟩,by kernel_rfl⟩,List.forall_mem_cons.2 ⟨⟨⟨_,rfl,rfl⟩,by kernel_rfl⟩,List.forall_mem_cons.2 ⟨⟨⟨_,rfl,rfl⟩,by kernel_rfl⟩,List.forall_mem_cons.2 ⟨trivial,List.forall_mem_cons.2 ⟨trivial,List.forall_mem_cons.2 ⟨trivial,List.forall_mem_cons.2 ⟨trivial,List.forall_mem_cons.2 ⟨⟨⟨_,rfl,rfl⟩,by kernel_rfl⟩,List.forall_mem_cons.2 ⟨trivial,List.forall_mem_cons.2 ⟨trivial,List.forall_mem_cons.2 ⟨⟨⟨_,rfl,rfl⟩,by kernel_rfl⟩,List.forall_mem_cons.2 ⟨trivial,List.forall_mem_cons.2 ⟨trivial,List.forall_mem_cons.2 ⟨⟨⟨_,rfl,rfl⟩,by kernel_rfl⟩,List.forall_mem_cons.2 ⟨trivial,List.forall_mem_cons.2 ⟨trivial,List.forall_mem_cons.2 ⟨⟨⟨_,rfl,rfl⟩,by kernel_rfl⟩,List.forall_mem_cons.2 ⟨⟨⟨_,rfl,rfl⟩,by kernel_rfl⟩,List.forall_mem_cons.2 ⟨trivial,List.forall_mem_cons.2 ⟨trivial,List.forall_mem_cons.2 ⟨⟨⟨_,rfl,rfl⟩,by kernel_rfl⟩,List.forall_mem_cons.2 ⟨trivial,List.forall_mem_cons.2 ⟨trivial,List.forall_mem_cons.2 ⟨⟨⟨_,rfl,rfl⟩,by kernel_rfl⟩,List.forall_mem_cons.2 ⟨trivial,List.forall_mem_cons.2 ⟨trivial,List.forall_mem_cons.2 ⟨⟨⟨_,rfl,rfl⟩,by kernel_rfl⟩,List.forall_mem_cons.2 ⟨trivial,List.forall_mem_nil _⟩⟩⟩⟩⟩⟩⟩⟩⟩⟩⟩⟩⟩⟩⟩⟩⟩⟩⟩⟩⟩⟩⟩⟩⟩⟩⟩⟩⟩⟩⟩⟩⟩⟩,trivial⟩
theorem lSame0_ok:lSame0.Ok Try.prog FI FB:=
 Con.of_plain (body:=Try.f7.body.getD .skip) pok fiok (EntsFor.cons cWorks_ok (EntsFor.consM tEqual_ok (EntsFor.consM tIs_ok (EntsFor.consM tIs0_ok (EntsFor.consM tTick_ok (EntsFor.consM tClone_ok (EntsFor.cons rFind_ok (EntsFor.cons rFind0_ok (EntsFor.cons rArm_ok (EntsFor.cons rArm0_ok (EntsFor.cons rCancel_ok (EntsFor.cons rCancel0_ok (EntsFor.cons rTickN_ok (EntsFor.cons rTick0_ok (EntsFor.cons rSame_ok (EntsFor.cons rSame0_ok (EntsFor.cons rSame1_ok (EntsFor.cons rSame2_ok EntsFor.nil)))))))))))))))))) lSame0 Try.func7 (by kernel_rfl) 7 [] (by kernel_rfl) [lSame0_L0] ⟨lSame0_h0,trivial⟩ lSame0_c
  lSame0_inv lSame0_mu (fun _ _ _=>trivial) fun kv iv0 bv0 hin hF k l iv bv hk ha hi=>match k,hk,hi with
  | 0,hk,hi=>by
    cases hk
    exact lSame0_o0 kv iv0 bv0 hin hF iv bv ha hi
  | k+1,hk,_=>by simp at hk
end Go.Sx.Ti
