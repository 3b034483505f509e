/- Timers: the example that all statements run. -/
import Derived.Test.YtkhklaomjcgjcaaTiP
namespace Go.Sx.Ti
set_option linter.unusedVariables false
set_option linter.unusedSimpArgs false
set_option maxRecDepth 100000
noncomputable section
open Go Go.Sx Go.Proofs
def cWorks:Con:=⟨8,[],[],[],[],[],o1 (.bo (.c true))⟩
theorem kinC_zero:kinC 0:=fun x h=>by rw [hasC_zero] at h;cases h
theorem kinC_del {c x:Int} (h:kinC c):kinC (delM c x):=fun k hk=>by
 rw [hasC_delM] at hk
 by_cases e:k=x
 ·rw [if_pos e] at hk;cases hk
 ·rw [if_neg e] at hk;exact h k hk
theorem lenC_zero:lenC 0=0:=len0 fun _ h=>h
theorem dueC_zero (x:Int):dueC 0 x=0:=by
 have:=dueC_spec (c:=0) (now:=x) (by rw [lenC_zero];omega)
 rw [lenC_zero] at this;omega
def W3:Int:=setM (setM (setM 0 7 2) 3 2) 5 1
theorem W3_eq:setM (setM (setM 0 7 2) 3 2) 5 1=W3:=rfl
theorem mg_W3 (x:Int):mg W3 x=if x=5 then 1 else if x=3 then 2 else if x=7 then 2 else 0:=by
 unfold W3
 rw [mg_set x (by unfold in64;omega),mg_set x (by unfold in64;omega),mg_set x (by unfold in64;omega),mg_zero]
theorem has_W3 (x:Int):hasC W3 x=true↔x=5∨x=3∨x=7:=by
 unfold W3
 rw [hasC_setM,hasC_setM,hasC_setM,hasC_zero]
 by_cases h5:x=5<;>by_cases h3:x=3<;>by_cases h7:x=7<;>simp [h5,h3,h7]
theorem kin_W3:kinC W3:=fun x h=>by rw [has_W3] at h;unfold in64;omega
theorem KL_W3:KL W3=[5,3,7]:=by
 refine (KL_uniq ?_ fun x=>?_).symm
 ·simp [ltK,mg_W3]
 ·rw [has_W3];simp
theorem len_W3:lenC W3=3:=by rw [← KL_len,KL_W3];rfl
theorem due_W3:dueC W3 1=1:=dueC_eq (by omega) (by rw [len_W3];omega) (by rw [len_W3];omega) (fun j hj=>by
  have:j=0:=by omega
  subst this;unfold kL;rw [KL_W3,mg_W3];simp) (fun _=>by
  show ¬ mg W3 (kL W3 1)≤1
  unfold kL;rw [KL_W3,mg_W3];simp)
theorem rm_W3:rmC W3 1=delM W3 5:=by rw [rmC_1];unfold kL;rw [KL_W3];rfl
theorem mg_D3 (x:Int):mg (delM W3 5) x=if x=3 then 2 else if x=7 then 2 else 0:=by
 rw [mg_del,mg_W3]
 by_cases h5:x=5<;>simp [h5]
theorem has_D3 (x:Int):hasC (delM W3 5) x=true↔x=3∨x=7:=by
 rw [hasC_delM]
 by_cases h5:x=5
 ·subst h5;simp
 ·rw [if_neg h5,has_W3];simp [h5]
theorem KL_D3:KL (delM W3 5)=[3,7]:=by
 refine (KL_uniq ?_ fun x=>?_).symm
 ·simp [ltK,mg_D3]
 ·rw [has_D3];simp
theorem kin_D3:kinC (delM W3 5):=kinC_del kin_W3
theorem len_D3:lenC (delM W3 5)=2:=by rw [← KL_len,KL_D3];rfl
theorem due_D3:dueC (delM W3 5) 2=2:=dueC_eq (by omega) (by rw [len_D3];omega) (by rw [len_D3];omega) (fun j hj=>by
  have:j=0∨j=1:=by omega
  rcases this with rfl | rfl<;>(unfold kL;rw [KL_D3,mg_D3];simp)) (fun h=>by rw [len_D3] at h;omega)
theorem same_W3:sameI (KS W3) 1 (setC 0 0 0 5) 1:=⟨rfl,fun j hj=>by
  have:j=0:=by omega
  subst this
  rw [fl_KS kin_W3 (by rw [len_W3];omega),fl_set0 _ _ _ (by unfold in64;omega),if_pos (by simp)]
  unfold kL;rw [KL_W3];rfl⟩
theorem same_D3:sameI (KS (delM W3 5)) 2 (setC (setC 0 0 0 3) 1 0 7) 2:=⟨rfl,fun j hj=>by
  rw [fl_KS kin_D3 (by rw [len_D3];omega),fl_set0 _ _ _ (by unfold in64;omega),fl_set0 _ _ _ (by unfold in64;omega)]
  unfold kL;rw [KL_D3]
  have:j=0∨j=1:=by omega
  rcases this with rfl | rfl<;>simp⟩
def cWorks_L0:List Lf:=
 let x0_:SI:=(.ap 8 (.c 0) (.c 0) (.c 0) (.c 0) (.c 2) (.c 0))
 let x1_:SI:=(.ap 8 (.c 0) (.c 0) (.c 0) (.c 5) (.c 0) (.c 0))
 let p2_:SB×Bool:=((.ap 20 (.c 0) (.c 0) (.c 0) (.c 0) (.c 0) (.c 0)),.true)
 let p3_:SB×Bool:=((.ap 20 (.c 0) (.c 0) (.c 0) (.c 0) (.c 0) (.c 0)),.false)
 let p4_:SB×Bool:=((.le x0_ (.c 4096)),.true)
 let p5_:SB×Bool:=((.le x0_ (.c 4096)),.false)
 let x6_:SI:=(.op .imin (.op .add (.op .imin (.c 1) (.c 1099511627776)) (.c 1)) (.c 1099511627776))
 let x7_:SI:=(.ap 8 (.ap 8 (.c 0) (.c 0) (.c 0) (.c 3) (.c 0) (.c 0)) (.c 1) (.c 0) (.c 7) (.c 0) (.c 0))
 let x8_:SI:=(.ap 22 (.c 0) (.op .imin (.c 1099511627777) (.c 1099511627776)) (.c 0) (.c 0) (.c 0) (.c 0))
 let p9_:SB×Bool:=((.lt (.c 0) x8_),.true)
 let p10_:SB×Bool:=((.lt (.c 0) x8_),.false)
 let x11_:SI:=(.ap 8 (.ap 8 (.ap 8 (.c 0) (.c 7) (.c 0) (.c 2) (.c 1) (.c 0)) (.c 3) (.c 0) (.c 2) (.c 1) (.c 0)) (.c 5) (.c 0) (.c 1) (.c 1) (.c 0))
 let p12_:SB×Bool:=((.le x8_ x0_),.true)
 let x13_:SI:=(.ap 8 x11_ (.c 0) (.c 0) (.c 0) (.c 2) (.c 0))
 let x14_:SI:=(.ap 20 x11_ (.c 0) (.c 0) (.c 0) (.c 0) (.c 0))
 let p15_:SB×Bool:=((.ap 20 x11_ (.c 0) (.c 0) (.c 0) (.c 0) (.c 0)),.true)
 let x16_:SI:=(.ap 22 x11_ (.op .imin (.c 1) (.c 1099511627776)) (.c 0) (.c 0) (.c 0) (.c 0))
 let x17_:SI:=(.ap 22 x11_ x6_ (.c 0) (.c 0) (.c 0) (.c 0))
 let x18_:SI:=(.ap 23 x11_ x16_ (.c 0) (.c 0) (.c 0) (.c 0))
 let x19_:SI:=(.ap 8 x18_ (.c 0) (.c 0) (.c 0) (.c 2) (.c 0))
 let x20_:SI:=(.ap 20 x18_ (.c 0) (.c 0) (.c 0) (.c 0) (.c 0))
 let p21_:SB×Bool:=((.ap 23 x14_ x16_ x1_ (.c 1) (.c 0) (.c 0)),.true)
 let p22_:SB×Bool:=((.ap 23 x14_ x16_ x1_ (.c 1) (.c 0) (.c 0)),.false)
 let x23_:SI:=(.ap 22 x18_ x6_ (.c 0) (.c 0) (.c 0) (.c 0))
 let p24_:SB×Bool:=((.ap 23 x20_ x23_ x7_ (.c 2) (.c 0) (.c 0)),.true)
 let p25_:SB×Bool:=((.ap 23 x20_ x23_ x7_ (.c 2) (.c 0) (.c 0)),.false)
 let f0_:List (SB×Bool):=[((.le x13_ (.c 4096)),.true),p15_]
 let f1_:List (SB×Bool):=((.lt (.c 0) x16_),.false)::f0_
 let f2_:List (SB×Bool):=((.lt (.c 0) x17_),.false)::f1_
 let f3_:List (SB×Bool):=((.le x16_ (.d 0)),.true)::((.le x16_ x13_),.true)::((.lt (.c 0) x16_),.true)::f0_
 let f4_:List (SB×Bool):=p2_::f2_
 let f5_:List (SB×Bool):=((.ap 20 x18_ (.c 0) (.c 0) (.c 0) (.c 0) (.c 0)),.true)::f3_
 let f6_:List (SB×Bool):=((.le x17_ (.d 0)),.true)::((.le x17_ x13_),.true)::((.lt (.c 0) x17_),.true)::f1_
 let f7_:List (SB×Bool):=p4_::f4_
 let f8_:List (SB×Bool):=((.le x19_ (.c 4096)),.true)::f5_
 let f9_:List (SB×Bool):=p2_::f6_
 let f10_:List (SB×Bool):=((.lt (.c 0) x23_),.false)::f8_
 let f11_:List (SB×Bool):=p4_::f9_
 let f12_:List (SB×Bool):=p2_::f10_
 let f13_:List (SB×Bool):=((.le x23_ (.d 1)),.true)::((.le x23_ x19_),.true)::((.lt (.c 0) x23_),.true)::f8_
 let f14_:List (SB×Bool):=p4_::f12_
 let f15_:List (SB×Bool):=p2_::f13_
 let f16_:List (SB×Bool):=p10_::f14_
 let f17_:List (SB×Bool):=p4_::f15_
 let f18_:List (SB×Bool):=p10_::f17_
 let f19_:List (SB×Bool):=((.le x8_ (.d 1)),.true)::p12_::p9_::f14_
 let f20_:List (SB×Bool):=p21_::f18_
 let f21_:List (SB×Bool):=((.le x8_ (.d 2)),.true)::p12_::p9_::f17_
 let f22_:List (SB×Bool):=p21_::f21_
 [(.fin (p24_::f22_) 0 ⟨⟨[],[]⟩,[],[],[]⟩ [(.eb (.c .true) (.c .false))] []),
  (.fin (p25_::f22_) 0 ⟨⟨[],[]⟩,[],[],[]⟩ [(.eb (.c .true) (.c .false))] []),
  (.fin (p22_::f21_) 0 ⟨⟨[],[]⟩,[],[],[]⟩ [(.eb (.c .true) (.c .false))] []),
  (.fin (p24_::f20_) 0 ⟨⟨[],[]⟩,[],[],[]⟩ [] []),
  (.fin (p25_::f20_) 0 ⟨⟨[],[]⟩,[],[],[]⟩ [(.eb (.c .true) (.c .false))] []),
  (.fin (p22_::f18_) 0 ⟨⟨[],[]⟩,[],[],[]⟩ [(.eb (.c .true) (.c .false))] []),
  (.bad (p5_::f15_)),
  (.bad (p3_::f13_)),
  (.fin (p21_::f19_) 0 ⟨⟨[],[]⟩,[],[],[]⟩ [(.eb (.c .true) (.c .false))] []),
  (.fin (p22_::f19_) 0 ⟨⟨[],[]⟩,[],[],[]⟩ [(.eb (.c .true) (.c .false))] []),
  (.fin (p21_::f16_) 0 ⟨⟨[],[]⟩,[],[],[]⟩ [(.eb (.c .true) (.c .false))] []),
  (.fin (p22_::f16_) 0 ⟨⟨[],[]⟩,[],[],[]⟩ [(.eb (.c .true) (.c .false))] []),
  (.bad (p5_::f12_)),
  (.bad (p3_::f10_)),
  (.bad (((.le x19_ (.c 4096)),.false)::f5_)),
  (.bad (((.ap 20 x18_ (.c 0) (.c 0) (.c 0) (.c 0) (.c 0)),.false)::f3_)),
  (.fin (((.le x8_ (.d 1)),.true)::p12_::p9_::f11_) 0 ⟨⟨[],[]⟩,[],[],[]⟩ [(.eb (.c .true) (.c .false))] []),
  (.fin (p10_::f11_) 0 ⟨⟨[],[]⟩,[],[],[]⟩ [(.eb (.c .true) (.c .false))] []),
  (.bad (p5_::f9_)),
  (.bad (p3_::f6_)),
  (.fin (((.le x8_ (.d 0)),.true)::p12_::p9_::f7_) 0 ⟨⟨[],[]⟩,[],[],[]⟩ [(.eb (.c .true) (.c .false))] []),
  (.fin (p10_::f7_) 0 ⟨⟨[],[]⟩,[],[],[]⟩ [(.eb (.c .true) (.c .false))] []),
  (.bad (p5_::f4_)),
  (.bad (p3_::f2_)),
  (.bad ([((.le x13_ (.c 4096)),.false),p15_])),
  (.bad ([((.ap 20 x11_ (.c 0) (.c 0) (.c 0) (.c 0) (.c 0)),.false)]))]
def cWorks_run (T:Tm):=(ex (ccOf Try.prog BF [62,32] cWorks) ((fun cc=>[tTick.ent cc,tKeys.ent cc,tClone.ent cc,rSame.ent cc,rSame0.ent cc,rSame1.ent cc,rSame2.ent cc]) (ccOf Try.prog BF [62,32] cWorks)) (dw (ccOf Try.prog BF [62,32] cWorks) ((fun cc=>[tTick.ent cc,tKeys.ent cc,tClone.ent cc,rSame.ent cc,rSame0.ent cc,rSame1.ent cc,rSame2.ent cc]) (ccOf Try.prog BF [62,32] cWorks)) 1000 4) (stopX [0,1,2,3,4,5,6,7,8,9,10,11,12,13,14,15,16,17,18,19,20,21,22,23,24,25,26,27,28,29,30,31,32,33,34,35,36,37,38,39,40,41,42,43,44,45,46,47,48,49,50,51,52,53,54,55,56,57,58,59,60,61,62,63,64,65,66,67,68,69,70,71,72,73,74,75,76,77,78,79,80,81,82,83,84,85,86,87,88,89,90,91,92,93,94,95,96,97,98,99,100,101,102,103,104,105,106,107,108,109,110,111,112,113,114,115,116,117,118,119,120,121,122,123,124,125,126,127,128,129,130,131,132,133,134,135,136,137,138,139,140,141,142,143,144,145,146,147,148,149,150,151,152,153,154,155,156,157,158,159,160,161,162,163,164,165,166,167,168,169,170,171,172,173,174,175,176,177,178,179,180,181,182,183,184,185,186,187,188,189,190,191,192,193,194,195,196,197,198,199,200,201,202,203,204,205,206,207,208,209,210,211,212,213,214,215,216,217,218,219,220,221,222,223,224,225,226,227,228,229,230,231,232,233,234,235,236,237,238,239,240,241,242,243,244,245,246,247,248,249]) 20000 T.f T.fs T.H).lfs (ccOf Try.prog BF [62,32] cWorks) ((tm0 cWorks Try.f8 (Try.f8.body.getD .skip))::[]) cWorks.os
theorem cWorks_h0:cWorks_run (tm0 cWorks Try.f8 (Try.f8.body.getD .skip))=some cWorks_L0:=by kernel_rfl
def cWorks_inv:(Nat→Int)→(Nat→Bool)→Nat→(Nat→Int)→(Nat→Bool)→Prop:=fun _ _ _ _ _=>True
def cWorks_mu:(Nat→Int)→(Nat→Bool)→Nat→(Nat→Int)→(Nat→Bool)→Nat:=fun _ _ _ _ _=>0
def cWorks_ob (k:Nat) (l:List Lf):Prop:=∀ (kv:Kv) (iv0:Nat→Int) (bv0:Nat→Bool),InB cWorks.B iv0→FT (sta FI FB kv iv0 bv0) (dlt dyn0) cWorks.F→∀ (iv:Nat→Int) (bv:Nat→Bool),Agr 0 iv0 bv0 iv bv→cWorks_inv iv0 bv0 k iv bv→∀ lf∈l,LfT (sta FI FB kv) cWorks.os (cWorks_inv iv0 bv0) (cWorks_mu iv0 bv0) k iv bv lf
set_option maxHeartbeats 0 in
theorem cWorks_o0:cWorks_ob 0 cWorks_L0:=by
 intro kv iv0 bv0 hin hF iv bv ha hi
 unfold cWorks_L0
 refine List.forall_mem_cons.2 ⟨?_,List.forall_mem_cons.2 ⟨?_,List.forall_mem_cons.2 ⟨?_,List.forall_mem_cons.2 ⟨?_,List.forall_mem_cons.2 ⟨?_,List.forall_mem_cons.2 ⟨?_,List.forall_mem_cons.2 ⟨?_,List.forall_mem_cons.2 ⟨?_,List.forall_mem_cons.2 ⟨?_,List.forall_mem_cons.2 ⟨?_,List.forall_mem_cons.2 ⟨?_,List.forall_mem_cons.2 ⟨?_,List.forall_mem_cons.2 ⟨?_,List.forall_mem_cons.2 ⟨?_,List.forall_mem_cons.2 ⟨?_,List.forall_mem_cons.2 ⟨?_,List.forall_mem_cons.2 ⟨?_,List.forall_mem_cons.2 ⟨?_,List.forall_mem_cons.2 ⟨?_,List.forall_mem_cons.2 ⟨?_,List.forall_mem_cons.2 ⟨?_,List.forall_mem_cons.2 ⟨?_,List.forall_mem_cons.2 ⟨?_,List.forall_mem_cons.2 ⟨?_,List.forall_mem_cons.2 ⟨?_,List.forall_mem_cons.2 ⟨?_,List.forall_mem_nil _⟩⟩⟩⟩⟩⟩⟩⟩⟩⟩⟩⟩⟩⟩⟩⟩⟩⟩⟩⟩⟩⟩⟩⟩⟩⟩
 all_goals
  intro δ hf
 all_goals
  simp only [FT,TP,SB.tp,SI.tv,sta,IB.eval,and_true,true_and,ObsT,Ob.Tv,rowT,kix,In.tiv,↓tbvT,In.tbv,get_cons,get_nil,reduceIte,Nat.reduceEqDiff,Int.reduceToNat,Int.reduceAdd,Int.reduceSub,Int.reduceLE,Int.reduceLT,Int.reduceEq,ne_eq,Bool.false_eq_true,not_true_eq_false,not_false_eq_true,true_iff,false_iff,iff_true,iff_false,false_implies,implies_true,decT,decide_true,decide_false,Bool.decide_eq_true,ap2,pb2,FI_3,FI_8,FI_9,FI_3g,FI_3k,FI_8s,FI_8l,FI_8d,FB_1h,FB_1a,Int.toNat_natCast,Int.toNat_zero,FI_20,FI_22,FI_23,FB_20,FB_22,FB_23,cWorks_inv,cWorks_mu,cWorks,o1,othT,kI,o1] at hf hi ⊢
 all_goals
  simp only [W3_eq,due_W3,rm_W3,due_D3,dueC_zero,lenC_zero,len_W3,len_D3] at hf
 all_goals
  (repeat' (with_reducible apply And.intro))<;>first
  | omega
  | assumption
  | (unfold inM;omega)
  | exact trivial
  | (have h1:=same_W3;have h2:=same_D3;have h3:=kin_W3;have h4:=kin_D3;have h5:=kinC_zero;clear hin hF ha;grind)
theorem cWorks_c:LsC ((tm0 cWorks Try.f8 (Try.f8.body.getD .skip))::[]) cWorks.os [cWorks_L0]:=by
 unfold cWorks_L0
 exact ⟨List.forall_mem_cons.2 ⟨⟨⟨_,rfl,rfl⟩,by kernel_rfl⟩,List.forall_mem_cons.2 ⟨⟨⟨_,rfl,rfl⟩,by kernel_rfl⟩,List.forall_mem_cons.2 ⟨⟨⟨_,rfl,rfl⟩,by kernel_rfl⟩,List.forall_mem_cons.2 ⟨⟨⟨_,rfl,rfl⟩,by kernel_rfl⟩,List.forall_mem_cons.2 ⟨⟨⟨_,rfl,rfl⟩,by kernel_rfl⟩,List.forall_mem_cons.2 ⟨⟨⟨_,rfl,rfl⟩,by kernel_rfl⟩,List.forall_mem_cons.2 ⟨trivial,List.forall_mem_cons.2 ⟨trivial,List.forall_mem_cons.2 ⟨⟨⟨_,rfl,rfl⟩,by kernel_rfl⟩,List.forall_mem_cons.2 ⟨⟨⟨_,rfl,rfl⟩,by kernel_rfl⟩,List.forall_mem_cons.2 ⟨⟨⟨_,rfl,rfl⟩,by kernel_rfl⟩,List.forall_mem_cons.2 ⟨⟨⟨_,rfl,rfl⟩,by kernel_rfl⟩,List.forall_mem_cons.2 ⟨trivial,List.forall_mem_cons.2 ⟨trivial,List.forall_mem_cons.2 ⟨trivial,List.forall_mem_cons.2 ⟨trivial,List.forall_mem_cons.2 ⟨⟨⟨_,rfl,rfl⟩,by kernel_rfl⟩,List.forall_mem_cons.2 ⟨⟨⟨_,rfl,rfl⟩,by kernel_rfl⟩,List.forall_mem_cons.2 ⟨trivial,List.forall_mem_cons.2 ⟨trivial,List.forall_mem_cons.2 ⟨⟨⟨_,rfl,rfl⟩,by kernel_rfl⟩,List.forall_mem_cons.2 ⟨⟨⟨_,rfl,rfl⟩,by kernel_rfl⟩,List.forall_mem_cons.2 ⟨trivial,List.forall_mem_cons.2 ⟨trivial,List.forall_mem_cons.2 ⟨trivial,List.forall_mem_cons.2 ⟨trivial,List.forall_mem_nil _⟩⟩⟩⟩⟩⟩⟩⟩⟩⟩⟩⟩⟩⟩⟩⟩⟩⟩⟩⟩⟩⟩⟩⟩⟩⟩,trivial⟩
theorem cWorks_ok:cWorks.Ok Try.prog FI FB:=
 Con.of_plain (body:=Try.f8.body.getD .skip) pok fiok (EntsFor.consM tTick_ok (EntsFor.consM tKeys_ok (EntsFor.consM tClone_ok (EntsFor.cons rSame_ok (EntsFor.cons rSame0_ok (EntsFor.cons rSame1_ok (EntsFor.cons rSame2_ok EntsFor.nil))))))) cWorks Try.func8 (by kernel_rfl) 0 [] (by kernel_rfl) [cWorks_L0] ⟨cWorks_h0,trivial⟩ cWorks_c
  cWorks_inv cWorks_mu (fun _ _ _=>trivial) fun kv iv0 bv0 hin hF k l iv bv hk ha hi=>match k,hk,hi with
  | 0,hk,hi=>by
    cases hk
    exact cWorks_o0 kv iv0 bv0 hin hF iv bv ha hi
  | k+1,hk,_=>by simp at hk
end
end Go.Sx.Ti
