/- Timers: TimerNone, TimerLong, by contract. -/
import Derived.Test.YtkhklaomjcgjcaaTiQ
namespace Go.Sx.Ti
set_option linter.unusedVariables false
set_option linter.unusedSimpArgs false
set_option maxRecDepth 100000
open Go Go.Sx Go.Proofs
noncomputable def lNone:Con:=⟨6,[0,1],[.it .i64 (.v 0),.it .i64 (.v 1)],[],i64s [0,1],[],o1 (.bo (.c true))⟩
noncomputable def lNone_L0:List Lf:=
 let x0_:SI:=(.ap 8 (.c 0) (.c 0) (.c 0) (.c 0) (.c 2) (.c 0))
 let p1_:SB×Bool:=((.ap 20 (.c 0) (.c 0) (.c 0) (.c 0) (.c 0) (.c 0)),.true)
 let f0_:List (SB×Bool):=[((.le x0_ (.c 1000000)),.true),p1_]
 [(.fin (((.le x0_ (.d 0)),.true)::((.lt (.c 0) x0_),.true)::f0_) 0 ⟨⟨[],[]⟩,[],[],[]⟩ [(.eb (.c .true) (.c .false))] []),
  (.fin (((.lt (.c 0) x0_),.false)::f0_) 0 ⟨⟨[],[]⟩,[],[],[]⟩ [] []),
  (.bad ([((.le x0_ (.c 1000000)),.false),p1_])),
  (.bad ([((.ap 20 (.c 0) (.c 0) (.c 0) (.c 0) (.c 0) (.c 0)),.false)]))]
noncomputable def lNone_run (T:Tm):=(ex (ccOf Try.prog BF [62,32] lNone) ((fun cc=>[cWorks.ent cc,tKeys.ent cc,tClone.ent cc]) (ccOf Try.prog BF [62,32] lNone)) (dw (ccOf Try.prog BF [62,32] lNone) ((fun cc=>[cWorks.ent cc,tKeys.ent cc,tClone.ent cc]) (ccOf Try.prog BF [62,32] lNone)) 1000 4) (stopX [0,1,2,3,4,5,6,7,8,9,10,11,12,13,14,15,16,17,18,19,20,21,22,23,24,25,26,27,28,29,30,31,32,33,34,35,36,37,38,39,40,41,42,43,44,45,46,47,48,49,50,51,52,53,54,55,56,57,58,59,60,61,62,63,64,65,66,67,68,69,70,71,72,73,74,75,76,77,78,79,80,81,82,83,84,85,86,87,88,89,90,91,92,93,94,95,96,97,98,99,100,101,102,103,104,105,106,107,108,109,110,111,112,113,114,115,116,117,118,119,120,121,122,123,124,125,126,127,128,129,130,131,132,133,134,135,136,137,138,139,140,141,142,143,144,145,146,147,148,149,150,151,152,153,154,155,156,157,158,159,160,161,162,163,164,165,166,167,168,169,170,171,172,173,174,175,176,177,178,179,180,181,182,183,184,185,186,187,188,189,190,191,192,193,194,195,196,197,198,199,200,201,202,203,204,205,206,207,208,209,210,211,212,213,214,215,216,217,218,219,220,221,222,223,224,225,226,227,228,229,230,231,232,233,234,235,236,237,238,239,240,241,242,243,244,245,246,247,248,249]) 20000 T.f T.fs T.H).lfs (ccOf Try.prog BF [62,32] lNone) ((tm0 lNone Try.f6 (Try.f6.body.getD .skip))::[]) lNone.os
theorem lNone_h0:lNone_run (tm0 lNone Try.f6 (Try.f6.body.getD .skip))=some lNone_L0:=by kernel_rfl
def lNone_inv:(Nat→Int)→(Nat→Bool)→Nat→(Nat→Int)→(Nat→Bool)→Prop:=fun _ _ _ _ _=>True
noncomputable def lNone_mu:(Nat→Int)→(Nat→Bool)→Nat→(Nat→Int)→(Nat→Bool)→Nat:=fun _ _ _ _ _=>0
theorem lNone_b {iv0:Nat→Int} (hin:InB lNone.B iv0):((-9223372036854775808)≤iv0 0∧iv0 0≤9223372036854775807)∧((-9223372036854775808)≤iv0 1∧iv0 1≤9223372036854775807):=by
 have b0:=hin 0 (-9223372036854775808) 9223372036854775807 (by simp [lNone,kI,o1,i64b,i64s,lmap])
 simp only [Int.reduceLE,reduceIte,Int.reduceNeg] at b0
 have b1:=hin 1 (-9223372036854775808) 9223372036854775807 (by simp [lNone,kI,o1,i64b,i64s,lmap])
 simp only [Int.reduceLE,reduceIte,Int.reduceNeg] at b1
 exact ⟨b0,b1⟩
def lNone_ob (k:Nat) (l:List Lf):Prop:=∀ (kv:Kv) (iv0:Nat→Int) (bv0:Nat→Bool),InB lNone.B iv0→FT (sta FI FB kv iv0 bv0) (dlt dyn0) lNone.F→∀ (iv:Nat→Int) (bv:Nat→Bool),Agr 2 iv0 bv0 iv bv→lNone_inv iv0 bv0 k iv bv→∀ lf∈l,LfT (sta FI FB kv) lNone.os (lNone_inv iv0 bv0) (lNone_mu iv0 bv0) k iv bv lf
set_option maxHeartbeats 0 in
theorem lNone_o0:lNone_ob 0 lNone_L0:=by
 intro kv iv0 bv0 hin hF iv bv ha hi
 unfold lNone_L0
 refine List.forall_mem_cons.2 ⟨?_,List.forall_mem_cons.2 ⟨?_,List.forall_mem_cons.2 ⟨?_,List.forall_mem_cons.2 ⟨?_,List.forall_mem_nil _⟩⟩⟩⟩
 all_goals
  intro δ hf
 all_goals
  obtain ⟨b0,b1⟩:=lNone_b hin
 all_goals
  have a0:=ha.1 0 (by omega)
  have a1:=ha.1 1 (by omega)
 all_goals
  simp only [FT,TP,SB.tp,SI.tv,sta,IB.eval,and_true,true_and,ObsT,Ob.Tv,rowT,kix,In.tiv,↓tbvT,In.tbv,get_cons,get_nil,reduceIte,Nat.reduceEqDiff,Int.reduceToNat,Int.reduceAdd,Int.reduceSub,Int.reduceLE,Int.reduceLT,Int.reduceEq,ne_eq,Bool.false_eq_true,not_true_eq_false,not_false_eq_true,true_iff,false_iff,iff_true,iff_false,false_implies,implies_true,decT,decide_true,decide_false,Bool.decide_eq_true,ap2,pb2,FI_3,FI_8,FI_9,FI_3g,FI_3k,FI_8s,FI_8l,FI_8d,FB_1h,FB_1a,Int.toNat_natCast,Int.toNat_zero,FI_20,FB_20,lNone_inv,lNone_mu,lNone,o1,othT,kI,o1,i64b,i64s,lmap,a0,a1] at hf hi ⊢
 all_goals
  try simp only [lenC_zero] at hf
 all_goals
  (repeat' (with_reducible apply And.intro))<;>first
  | omega
  | assumption
  | (unfold inM;omega)
  | exact trivial
  | (have h5:=kinC_zero;clear hin hF ha;grind)
theorem lNone_c:LsC ((tm0 lNone Try.f6 (Try.f6.body.getD .skip))::[]) lNone.os [lNone_L0]:=by
 unfold lNone_L0
 exact ⟨List.forall_mem_cons.2 ⟨⟨⟨_,rfl,rfl⟩,by kernel_rfl⟩,List.forall_mem_cons.2 ⟨⟨⟨_,rfl,rfl⟩,by kernel_rfl⟩,List.forall_mem_cons.2 ⟨trivial,List.forall_mem_cons.2 ⟨trivial,List.forall_mem_nil _⟩⟩⟩⟩,trivial⟩
theorem lNone_ok:lNone.Ok Try.prog FI FB:=
 Con.of_plain (body:=Try.f6.body.getD .skip) pok fiok (EntsFor.cons cWorks_ok (EntsFor.consM tKeys_ok (EntsFor.consM tClone_ok EntsFor.nil))) lNone Try.func6 (by kernel_rfl) 2 [] (by kernel_rfl) [lNone_L0] ⟨lNone_h0,trivial⟩ lNone_c
  lNone_inv lNone_mu (fun _ _ _=>trivial) fun kv iv0 bv0 hin hF k l iv bv hk ha hi=>match k,hk,hi with
  | 0,hk,hi=>by
    cases hk
    exact lNone_o0 kv iv0 bv0 hin hF iv bv ha hi
  | k+1,hk,_=>by simp at hk
end Go.Sx.Ti
