/- Tokens: who waits, by contract. -/
import Derived.Test.YtfailpbjhlhhiaaGreatTkB
namespace Go.Sx.Tk
set_option linter.unusedVariables false
set_option linter.unusedSimpArgs false
set_option maxRecDepth 100000
set_option maxHeartbeats 0
noncomputable section
open Go Go.Sx Go.Proofs
def lW:SV:=.fs 3 (.v 0)
def mayV (i:Nat):SB:=.ap 32 (.v i) (.v (i+1)) (.v (i+2)) (.v (i+3)) (.v (i+4)) (.c 0)
def wMay:Con:=⟨119,[0,1,2,3,4,5],[.ag (ints [0,1,2,3,4,5])],[],i64s [0,1,2,3,4,5],[],o1 (.bo (mayV 0)),[]⟩
def qMay:Con:=⟨134,[0,1,2,3,4],[.ag (ints [0,1,2,3,4])],[],i64s [0,1,2,3,4],[],o1 (.bo (mayV 0)),[]⟩
def qFind:Con:=⟨45,[0,1],[lW,.it .i64 (.v 1)],[],[i64b 1],fH,[⟨[],.it .i64 (apM 21 (.v 1)),[],0,0,[(.lt (apM 21 (.v 1)) (SI.fl (.v 0)),true),(.le (.c (-1)) (apM 21 (.v 1)),true)]⟩],[]⟩
def wRight:Con:=⟨116,[0],[lW],[],[],fH,o1 (.bo (pbN 30)),[]⟩
def qRight:Con:=⟨64,[0],[lW],[],[],fH,o1 (.bo (pbN 30)),[]⟩
def wCheck:Con:=⟨206,[0],[lW],[],[],fH,[⟨[(pbN 30,true)],.it .i64 (.c 0),[],0,0,[]⟩,⟨[(pbN 30,false)],.it .i64 (.c 2),[],0,0,[]⟩],[]⟩
def wMay_L0:List Lf:=
 let f0_:List (SB×Bool):=[((.lt (.c 255) (.v 0)),.false),((.lt (.v 0) (.c 0)),.false)]
 let f1_:List (SB×Bool):=((.lt (.v 1) (.c 1)),.false)::f0_
 let f2_:List (SB×Bool):=((.lt (.c 1099511627776) (.v 1)),.false)::f1_
 let f3_:List (SB×Bool):=((.lt (.v 2) (.c 1)),.false)::f2_
 let f4_:List (SB×Bool):=((.lt (.c 5) (.v 2)),.false)::f3_
 let f5_:List (SB×Bool):=((.lt (.v 3) (.c 0)),.false)::f4_
 let f6_:List (SB×Bool):=((.lt (.c 3) (.v 3)),.false)::f5_
 let f7_:List (SB×Bool):=((.lt (.v 4) (.c 0)),.false)::f6_
 [(.fin ([((.lt (.v 0) (.c 0)),.true)]) 0 ⟨⟨[],[]⟩,[],[],[]⟩ [(.eb (.ap 32 (.v 0) (.v 1) (.v 2) (.v 3) (.v 4) (.c 0)) (.c .false))] []),
  (.fin ([((.lt (.c 255) (.v 0)),.true),((.lt (.v 0) (.c 0)),.false)]) 0 ⟨⟨[],[]⟩,[],[],[]⟩ [(.eb (.ap 32 (.v 0) (.v 1) (.v 2) (.v 3) (.v 4) (.c 0)) (.c .false))] []),
  (.fin (((.lt (.v 1) (.c 1)),.true)::f0_) 0 ⟨⟨[],[]⟩,[],[],[]⟩ [(.eb (.ap 32 (.v 0) (.v 1) (.v 2) (.v 3) (.v 4) (.c 0)) (.c .false))] []),
  (.fin (((.lt (.c 1099511627776) (.v 1)),.true)::f1_) 0 ⟨⟨[],[]⟩,[],[],[]⟩ [(.eb (.ap 32 (.v 0) (.v 1) (.v 2) (.v 3) (.v 4) (.c 0)) (.c .false))] []),
  (.fin (((.lt (.v 2) (.c 1)),.true)::f2_) 0 ⟨⟨[],[]⟩,[],[],[]⟩ [(.eb (.ap 32 (.v 0) (.v 1) (.v 2) (.v 3) (.v 4) (.c 0)) (.c .false))] []),
  (.fin (((.lt (.c 5) (.v 2)),.true)::f3_) 0 ⟨⟨[],[]⟩,[],[],[]⟩ [(.eb (.ap 32 (.v 0) (.v 1) (.v 2) (.v 3) (.v 4) (.c 0)) (.c .false))] []),
  (.fin (((.lt (.v 3) (.c 0)),.true)::f4_) 0 ⟨⟨[],[]⟩,[],[],[]⟩ [(.eb (.ap 32 (.v 0) (.v 1) (.v 2) (.v 3) (.v 4) (.c 0)) (.c .false))] []),
  (.fin (((.lt (.c 3) (.v 3)),.true)::f5_) 0 ⟨⟨[],[]⟩,[],[],[]⟩ [(.eb (.ap 32 (.v 0) (.v 1) (.v 2) (.v 3) (.v 4) (.c 0)) (.c .false))] []),
  (.fin (((.lt (.v 4) (.c 0)),.true)::f6_) 0 ⟨⟨[],[]⟩,[],[],[]⟩ [(.eb (.ap 32 (.v 0) (.v 1) (.v 2) (.v 3) (.v 4) (.c 0)) (.c .false))] []),
  (.fin (((.lt (.c 64) (.v 4)),.true)::f7_) 0 ⟨⟨[],[]⟩,[],[],[]⟩ [(.eb (.ap 32 (.v 0) (.v 1) (.v 2) (.v 3) (.v 4) (.c 0)) (.c .false))] []),
  (.fin (((.lt (.c 64) (.v 4)),.false)::f7_) 0 ⟨⟨[],[]⟩,[],[],[]⟩ [(.eb (.ap 32 (.v 0) (.v 1) (.v 2) (.v 3) (.v 4) (.c 0)) (.c .true))] [])]
def wMay_run (T:Tm):=(ex (ccOf Tryz.prog BF [29,73,75,100] wMay) ((fun _=>[]) (ccOf Tryz.prog BF [29,73,75,100] wMay)) (dw (ccOf Tryz.prog BF [29,73,75,100] wMay) ((fun _=>[]) (ccOf Tryz.prog BF [29,73,75,100] wMay)) 1000 4) (stopX [119]) 4000 T.f T.fs T.H).lfs (ccOf Tryz.prog BF [29,73,75,100] wMay) ((tm0 wMay Tryz.f119 (Tryz.f119.body.getD .skip))::[]) wMay.os
theorem wMay_h0:wMay_run (tm0 wMay Tryz.f119 (Tryz.f119.body.getD .skip))=some wMay_L0:=by kernel_rfl
def wMay_inv:(Nat→Int)→(Nat→Bool)→Nat→(Nat→Int)→(Nat→Bool)→Prop:=fun _ _ _ _ _=>True
def wMay_mu:(Nat→Int)→(Nat→Bool)→Nat→(Nat→Int)→(Nat→Bool)→Nat:=fun _ _ _ _ _=>0
theorem wMay_b {iv0:Nat→Int} (hin:InB wMay.B iv0):((-9223372036854775808)≤iv0 0∧iv0 0≤9223372036854775807)∧((-9223372036854775808)≤iv0 1∧iv0 1≤9223372036854775807)∧((-9223372036854775808)≤iv0 2∧iv0 2≤9223372036854775807)∧((-9223372036854775808)≤iv0 3∧iv0 3≤9223372036854775807)∧((-9223372036854775808)≤iv0 4∧iv0 4≤9223372036854775807)∧((-9223372036854775808)≤iv0 5∧iv0 5≤9223372036854775807):=by
 have b0:=hin 0 (-9223372036854775808) 9223372036854775807 (by simp [wMay,o1,flF,fH,lH,apN,pbN,apM,pbM,oMo,rowV,zeroV,i64b,SI.fl,flay,flayL,lW,mayV,ints,i64s,lmap])
 simp only [Int.reduceLE,reduceIte,Int.reduceNeg] at b0
 have b1:=hin 1 (-9223372036854775808) 9223372036854775807 (by simp [wMay,o1,flF,fH,lH,apN,pbN,apM,pbM,oMo,rowV,zeroV,i64b,SI.fl,flay,flayL,lW,mayV,ints,i64s,lmap])
 simp only [Int.reduceLE,reduceIte,Int.reduceNeg] at b1
 have b2:=hin 2 (-9223372036854775808) 9223372036854775807 (by simp [wMay,o1,flF,fH,lH,apN,pbN,apM,pbM,oMo,rowV,zeroV,i64b,SI.fl,flay,flayL,lW,mayV,ints,i64s,lmap])
 simp only [Int.reduceLE,reduceIte,Int.reduceNeg] at b2
 have b3:=hin 3 (-9223372036854775808) 9223372036854775807 (by simp [wMay,o1,flF,fH,lH,apN,pbN,apM,pbM,oMo,rowV,zeroV,i64b,SI.fl,flay,flayL,lW,mayV,ints,i64s,lmap])
 simp only [Int.reduceLE,reduceIte,Int.reduceNeg] at b3
 have b4:=hin 4 (-9223372036854775808) 9223372036854775807 (by simp [wMay,o1,flF,fH,lH,apN,pbN,apM,pbM,oMo,rowV,zeroV,i64b,SI.fl,flay,flayL,lW,mayV,ints,i64s,lmap])
 simp only [Int.reduceLE,reduceIte,Int.reduceNeg] at b4
 have b5:=hin 5 (-9223372036854775808) 9223372036854775807 (by simp [wMay,o1,flF,fH,lH,apN,pbN,apM,pbM,oMo,rowV,zeroV,i64b,SI.fl,flay,flayL,lW,mayV,ints,i64s,lmap])
 simp only [Int.reduceLE,reduceIte,Int.reduceNeg] at b5
 exact ⟨b0,b1,b2,b3,b4,b5⟩
def wMay_ob (k:Nat) (l:List Lf):Prop:=∀ (kv:Kv) (iv0:Nat→Int) (bv0:Nat→Bool),InB wMay.B iv0→FT (sta FI FB kv iv0 bv0) (dlt dyn0) wMay.F→∀ (iv:Nat→Int) (bv:Nat→Bool),Agr 6 iv0 bv0 iv bv→wMay_inv iv0 bv0 k iv bv→∀ lf∈l,LfT (sta FI FB kv) wMay.os (wMay_inv iv0 bv0) (wMay_mu iv0 bv0) k iv bv lf
theorem wMay_o0:wMay_ob 0 wMay_L0:=by
 intro kv iv0 bv0 hin hF iv bv ha hi
 unfold wMay_L0
 refine List.forall_mem_cons.2 ⟨?_,List.forall_mem_cons.2 ⟨?_,List.forall_mem_cons.2 ⟨?_,List.forall_mem_cons.2 ⟨?_,List.forall_mem_cons.2 ⟨?_,List.forall_mem_cons.2 ⟨?_,List.forall_mem_cons.2 ⟨?_,List.forall_mem_cons.2 ⟨?_,List.forall_mem_cons.2 ⟨?_,List.forall_mem_cons.2 ⟨?_,List.forall_mem_cons.2 ⟨?_,List.forall_mem_nil _⟩⟩⟩⟩⟩⟩⟩⟩⟩⟩⟩
 all_goals
  intro δ hf
 all_goals
  obtain ⟨b0,b1,b2,b3,b4,b5⟩:=wMay_b hin
 all_goals
  have a0:=ha.1 0 (by omega)
  have a1:=ha.1 1 (by omega)
  have a2:=ha.1 2 (by omega)
  have a3:=ha.1 3 (by omega)
  have a4:=ha.1 4 (by omega)
  have a5:=ha.1 5 (by omega)
 all_goals
  simp only [FT,TP,SB.tp,SI.tv,sta,IB.eval,and_true,true_and,ObsT,Ob.Tv,rowT,kix,In.tiv,↓tbvT,In.tbv,get_cons,get_nil,reduceIte,Nat.reduceEqDiff,Int.reduceToNat,Int.reduceAdd,Int.reduceSub,Int.reduceLE,Int.reduceLT,Int.reduceEq,ne_eq,Bool.false_eq_true,not_true_eq_false,not_false_eq_true,true_iff,false_iff,iff_true,iff_false,false_implies,implies_true,decT,decide_true,decide_false,Bool.decide_eq_true,ap2,pb2,FI_3,FI_3g,FI_4,FI_8,FI_8m,FI_9,FI_8c,FI_8z,FB_0,FB_2,Int.toNat_natCast,Int.toNat_zero,FB_32,wMay_inv,wMay_mu,wMay,o1,othT,o1,flF,fH,lH,apN,pbN,apM,pbM,oMo,rowV,zeroV,i64b,SI.fl,flay,flayL,lW,mayV,ints,i64s,lmap,a0,a1,a2,a3,a4,a5] at hf hi ⊢
 all_goals
  (repeat' (with_reducible apply And.intro))<;>first
  | omega
  | assumption
  | (unfold inM;omega)
  | (unfold mayW;omega)
  | (simp only [mayW];omega)
theorem wMay_c:LsC ((tm0 wMay Tryz.f119 (Tryz.f119.body.getD .skip))::[]) wMay.os [wMay_L0]:=by
 unfold wMay_L0
 exact ⟨List.forall_mem_cons.2 ⟨⟨⟨_,rfl,rfl⟩,by kernel_rfl⟩,List.forall_mem_cons.2 ⟨⟨⟨_,rfl,rfl⟩,by kernel_rfl⟩,List.forall_mem_cons.2 ⟨⟨⟨_,rfl,rfl⟩,by kernel_rfl⟩,List.forall_mem_cons.2 ⟨⟨⟨_,rfl,rfl⟩,by kernel_rfl⟩,List.forall_mem_cons.2 ⟨⟨⟨_,rfl,rfl⟩,by kernel_rfl⟩,List.forall_mem_cons.2 ⟨⟨⟨_,rfl,rfl⟩,by kernel_rfl⟩,List.forall_mem_cons.2 ⟨⟨⟨_,rfl,rfl⟩,by kernel_rfl⟩,List.forall_mem_cons.2 ⟨⟨⟨_,rfl,rfl⟩,by kernel_rfl⟩,List.forall_mem_cons.2 ⟨⟨⟨_,rfl,rfl⟩,by kernel_rfl⟩,List.forall_mem_cons.2 ⟨⟨⟨_,rfl,rfl⟩,by kernel_rfl⟩,List.forall_mem_cons.2 ⟨⟨⟨_,rfl,rfl⟩,by kernel_rfl⟩,List.forall_mem_nil _⟩⟩⟩⟩⟩⟩⟩⟩⟩⟩⟩,trivial⟩
theorem wMay_ok:wMay.Ok Tryz.prog FI FB:=
 Con.of_plain (body:=Tryz.f119.body.getD .skip) pok fiok EntsFor.nil wMay Tryz.func119 (by kernel_rfl) 6 [] (by kernel_rfl) [wMay_L0] ⟨wMay_h0,trivial⟩ wMay_c
  wMay_inv wMay_mu (fun _ _ _=>trivial) fun kv iv0 bv0 hin hF k l iv bv hk ha hi=>match k,hk,hi with
  | 0,hk,hi=>by
    cases hk
    exact wMay_o0 kv iv0 bv0 hin hF iv bv ha hi
  | k+1,hk,_=>by simp at hk
def qMay_L0:List Lf:=
 let f0_:List (SB×Bool):=[((.lt (.v 0) (.c 256)),.true),((.le (.c 0) (.v 0)),.true)]
 let f1_:List (SB×Bool):=((.le (.c 1) (.v 1)),.true)::f0_
 let f2_:List (SB×Bool):=((.le (.v 1) (.c 1099511627776)),.true)::f1_
 let f3_:List (SB×Bool):=((.eq (.v 2) (.c 0)),.false)::f2_
 let f4_:List (SB×Bool):=((.le (.c 0) (.v 2)),.true)::f3_
 let f5_:List (SB×Bool):=((.le (.v 2) (.c 5)),.true)::f4_
 let f6_:List (SB×Bool):=((.le (.c 0) (.v 3)),.true)::f5_
 let f7_:List (SB×Bool):=((.le (.v 3) (.c 3)),.true)::f6_
 [(.fin (((.eq (.v 2) (.c 0)),.true)::f2_) 0 ⟨⟨[],[]⟩,[],[],[]⟩ [(.eb (.ap 32 (.v 0) (.v 1) (.v 2) (.v 3) (.v 4) (.c 0)) (.c .false))] []),
  (.fin (((.le (.c 0) (.v 4)),.true)::f7_) 0 ⟨⟨[],[]⟩,[],[],[]⟩ [(.eb (.ap 32 (.v 0) (.v 1) (.v 2) (.v 3) (.v 4) (.c 0)) (.le (.v 4) (.c 64)))] []),
  (.fin (((.le (.c 0) (.v 4)),.false)::f7_) 0 ⟨⟨[],[]⟩,[],[],[]⟩ [(.eb (.ap 32 (.v 0) (.v 1) (.v 2) (.v 3) (.v 4) (.c 0)) (.c .false))] []),
  (.fin (((.le (.v 3) (.c 3)),.false)::f6_) 0 ⟨⟨[],[]⟩,[],[],[]⟩ [(.eb (.ap 32 (.v 0) (.v 1) (.v 2) (.v 3) (.v 4) (.c 0)) (.c .false))] []),
  (.fin (((.le (.c 0) (.v 3)),.false)::f5_) 0 ⟨⟨[],[]⟩,[],[],[]⟩ [(.eb (.ap 32 (.v 0) (.v 1) (.v 2) (.v 3) (.v 4) (.c 0)) (.c .false))] []),
  (.fin (((.le (.v 2) (.c 5)),.false)::f4_) 0 ⟨⟨[],[]⟩,[],[],[]⟩ [(.eb (.ap 32 (.v 0) (.v 1) (.v 2) (.v 3) (.v 4) (.c 0)) (.c .false))] []),
  (.fin (((.le (.c 0) (.v 2)),.false)::f3_) 0 ⟨⟨[],[]⟩,[],[],[]⟩ [(.eb (.ap 32 (.v 0) (.v 1) (.v 2) (.v 3) (.v 4) (.c 0)) (.c .false))] []),
  (.fin (((.le (.v 1) (.c 1099511627776)),.false)::f1_) 0 ⟨⟨[],[]⟩,[],[],[]⟩ [(.eb (.ap 32 (.v 0) (.v 1) (.v 2) (.v 3) (.v 4) (.c 0)) (.c .false))] []),
  (.fin (((.le (.c 1) (.v 1)),.false)::f0_) 0 ⟨⟨[],[]⟩,[],[],[]⟩ [(.eb (.ap 32 (.v 0) (.v 1) (.v 2) (.v 3) (.v 4) (.c 0)) (.c .false))] []),
  (.fin ([((.lt (.v 0) (.c 256)),.false),((.le (.c 0) (.v 0)),.true)]) 0 ⟨⟨[],[]⟩,[],[],[]⟩ [(.eb (.ap 32 (.v 0) (.v 1) (.v 2) (.v 3) (.v 4) (.c 0)) (.c .false))] []),
  (.fin ([((.le (.c 0) (.v 0)),.false)]) 0 ⟨⟨[],[]⟩,[],[],[]⟩ [(.eb (.ap 32 (.v 0) (.v 1) (.v 2) (.v 3) (.v 4) (.c 0)) (.c .false))] [])]
def qMay_run (T:Tm):=(ex (ccOf Tryz.prog BF [29,73,75,100] qMay) ((fun _=>[]) (ccOf Tryz.prog BF [29,73,75,100] qMay)) (dw (ccOf Tryz.prog BF [29,73,75,100] qMay) ((fun _=>[]) (ccOf Tryz.prog BF [29,73,75,100] qMay)) 1000 4) (stopX []) 4000 T.f T.fs T.H).lfs (ccOf Tryz.prog BF [29,73,75,100] qMay) ((tm0 qMay Tryz.f134 (Tryz.f134.body.getD .skip))::[]) qMay.os
theorem qMay_h0:qMay_run (tm0 qMay Tryz.f134 (Tryz.f134.body.getD .skip))=some qMay_L0:=by kernel_rfl
def qMay_inv:(Nat→Int)→(Nat→Bool)→Nat→(Nat→Int)→(Nat→Bool)→Prop:=fun _ _ _ _ _=>True
def qMay_mu:(Nat→Int)→(Nat→Bool)→Nat→(Nat→Int)→(Nat→Bool)→Nat:=fun _ _ _ _ _=>0
theorem qMay_b {iv0:Nat→Int} (hin:InB qMay.B iv0):((-9223372036854775808)≤iv0 0∧iv0 0≤9223372036854775807)∧((-9223372036854775808)≤iv0 1∧iv0 1≤9223372036854775807)∧((-9223372036854775808)≤iv0 2∧iv0 2≤9223372036854775807)∧((-9223372036854775808)≤iv0 3∧iv0 3≤9223372036854775807)∧((-9223372036854775808)≤iv0 4∧iv0 4≤9223372036854775807):=by
 have b0:=hin 0 (-9223372036854775808) 9223372036854775807 (by simp [qMay,o1,flF,fH,lH,apN,pbN,apM,pbM,oMo,rowV,zeroV,i64b,SI.fl,flay,flayL,lW,mayV,ints,i64s,lmap])
 simp only [Int.reduceLE,reduceIte,Int.reduceNeg] at b0
 have b1:=hin 1 (-9223372036854775808) 9223372036854775807 (by simp [qMay,o1,flF,fH,lH,apN,pbN,apM,pbM,oMo,rowV,zeroV,i64b,SI.fl,flay,flayL,lW,mayV,ints,i64s,lmap])
 simp only [Int.reduceLE,reduceIte,Int.reduceNeg] at b1
 have b2:=hin 2 (-9223372036854775808) 9223372036854775807 (by simp [qMay,o1,flF,fH,lH,apN,pbN,apM,pbM,oMo,rowV,zeroV,i64b,SI.fl,flay,flayL,lW,mayV,ints,i64s,lmap])
 simp only [Int.reduceLE,reduceIte,Int.reduceNeg] at b2
 have b3:=hin 3 (-9223372036854775808) 9223372036854775807 (by simp [qMay,o1,flF,fH,lH,apN,pbN,apM,pbM,oMo,rowV,zeroV,i64b,SI.fl,flay,flayL,lW,mayV,ints,i64s,lmap])
 simp only [Int.reduceLE,reduceIte,Int.reduceNeg] at b3
 have b4:=hin 4 (-9223372036854775808) 9223372036854775807 (by simp [qMay,o1,flF,fH,lH,apN,pbN,apM,pbM,oMo,rowV,zeroV,i64b,SI.fl,flay,flayL,lW,mayV,ints,i64s,lmap])
 simp only [Int.reduceLE,reduceIte,Int.reduceNeg] at b4
 exact ⟨b0,b1,b2,b3,b4⟩
def qMay_ob (k:Nat) (l:List Lf):Prop:=∀ (kv:Kv) (iv0:Nat→Int) (bv0:Nat→Bool),InB qMay.B iv0→FT (sta FI FB kv iv0 bv0) (dlt dyn0) qMay.F→∀ (iv:Nat→Int) (bv:Nat→Bool),Agr 5 iv0 bv0 iv bv→qMay_inv iv0 bv0 k iv bv→∀ lf∈l,LfT (sta FI FB kv) qMay.os (qMay_inv iv0 bv0) (qMay_mu iv0 bv0) k iv bv lf
theorem qMay_o0:qMay_ob 0 qMay_L0:=by
 intro kv iv0 bv0 hin hF iv bv ha hi
 unfold qMay_L0
 refine List.forall_mem_cons.2 ⟨?_,List.forall_mem_cons.2 ⟨?_,List.forall_mem_cons.2 ⟨?_,List.forall_mem_cons.2 ⟨?_,List.forall_mem_cons.2 ⟨?_,List.forall_mem_cons.2 ⟨?_,List.forall_mem_cons.2 ⟨?_,List.forall_mem_cons.2 ⟨?_,List.forall_mem_cons.2 ⟨?_,List.forall_mem_cons.2 ⟨?_,List.forall_mem_cons.2 ⟨?_,List.forall_mem_nil _⟩⟩⟩⟩⟩⟩⟩⟩⟩⟩⟩
 all_goals
  intro δ hf
 all_goals
  obtain ⟨b0,b1,b2,b3,b4⟩:=qMay_b hin
 all_goals
  have a0:=ha.1 0 (by omega)
  have a1:=ha.1 1 (by omega)
  have a2:=ha.1 2 (by omega)
  have a3:=ha.1 3 (by omega)
  have a4:=ha.1 4 (by omega)
 all_goals
  simp only [FT,TP,SB.tp,SI.tv,sta,IB.eval,and_true,true_and,ObsT,Ob.Tv,rowT,kix,In.tiv,↓tbvT,In.tbv,get_cons,get_nil,reduceIte,Nat.reduceEqDiff,Int.reduceToNat,Int.reduceAdd,Int.reduceSub,Int.reduceLE,Int.reduceLT,Int.reduceEq,ne_eq,Bool.false_eq_true,not_true_eq_false,not_false_eq_true,true_iff,false_iff,iff_true,iff_false,false_implies,implies_true,decT,decide_true,decide_false,Bool.decide_eq_true,ap2,pb2,FI_3,FI_3g,FI_4,FI_8,FI_8m,FI_9,FI_8c,FI_8z,FB_0,FB_2,Int.toNat_natCast,Int.toNat_zero,FB_32,qMay_inv,qMay_mu,qMay,o1,othT,o1,flF,fH,lH,apN,pbN,apM,pbM,oMo,rowV,zeroV,i64b,SI.fl,flay,flayL,lW,mayV,ints,i64s,lmap,a0,a1,a2,a3,a4] at hf hi ⊢
 all_goals
  (repeat' (with_reducible apply And.intro))<;>first
  | omega
  | assumption
  | (unfold inM;omega)
  | (unfold mayW;omega)
  | (simp only [mayW];omega)
theorem qMay_c:LsC ((tm0 qMay Tryz.f134 (Tryz.f134.body.getD .skip))::[]) qMay.os [qMay_L0]:=by
 unfold qMay_L0
 exact ⟨List.forall_mem_cons.2 ⟨⟨⟨_,rfl,rfl⟩,by kernel_rfl⟩,List.forall_mem_cons.2 ⟨⟨⟨_,rfl,rfl⟩,by kernel_rfl⟩,List.forall_mem_cons.2 ⟨⟨⟨_,rfl,rfl⟩,by kernel_rfl⟩,List.forall_mem_cons.2 ⟨⟨⟨_,rfl,rfl⟩,by kernel_rfl⟩,List.forall_mem_cons.2 ⟨⟨⟨_,rfl,rfl⟩,by kernel_rfl⟩,List.forall_mem_cons.2 ⟨⟨⟨_,rfl,rfl⟩,by kernel_rfl⟩,List.forall_mem_cons.2 ⟨⟨⟨_,rfl,rfl⟩,by kernel_rfl⟩,List.forall_mem_cons.2 ⟨⟨⟨_,rfl,rfl⟩,by kernel_rfl⟩,List.forall_mem_cons.2 ⟨⟨⟨_,rfl,rfl⟩,by kernel_rfl⟩,List.forall_mem_cons.2 ⟨⟨⟨_,rfl,rfl⟩,by kernel_rfl⟩,List.forall_mem_cons.2 ⟨⟨⟨_,rfl,rfl⟩,by kernel_rfl⟩,List.forall_mem_nil _⟩⟩⟩⟩⟩⟩⟩⟩⟩⟩⟩,trivial⟩
theorem qMay_ok:qMay.Ok Tryz.prog FI FB:=
 Con.of_plain (body:=Tryz.f134.body.getD .skip) pok fiok EntsFor.nil qMay Tryz.func134 (by kernel_rfl) 5 [] (by kernel_rfl) [qMay_L0] ⟨qMay_h0,trivial⟩ qMay_c
  qMay_inv qMay_mu (fun _ _ _=>trivial) fun kv iv0 bv0 hin hF k l iv bv hk ha hi=>match k,hk,hi with
  | 0,hk,hi=>by
    cases hk
    exact qMay_o0 kv iv0 bv0 hin hF iv bv ha hi
  | k+1,hk,_=>by simp at hk
def qFind_T1:Tm:=⟨⟨45,20,[(5,(.it .i64 (.v 22))),(0,(.fs 3 (.v 0))),(1,(.it .i64 (.v 1)))],[(.code (atC Tryz.f45 [1,0,1,0,0])),(.inLoop (atC Tryz.f45 [1,0,1,0,0])),(.inBlock 0),(.code (atC Tryz.f45 [1,1]))],[],.none⟩,[],
    ⟨[],0,0,0,[((.le (.ap 200 (.v 0) (.c 0) (.c 0) (.c 0) (.c 0) (.c 0)) (.c 300)),.true)],[0],[(1,((-9223372036854775808),9223372036854775807)),(22,(0,(-1)))]⟩,[22]⟩
def qFind_L0:List Lf:=
 [(.cut ([((.le (.ap 200 (.v 0) (.c 0) (.c 0) (.c 0) (.c 0) (.c 0)) (.c 300)),.true)]) 1 ⟨⟨[(22,(.c 0))],[]⟩,[],[],[]⟩ [] (shT qFind_T1 ⟨⟨[(22,(.c 0))],[]⟩,[],[],[]⟩))]
def qFind_L1:List Lf:=
 let x0_:SI:=(.ap 3 (.v 0) (.v 22) (.c 0) (.c 0) (.c 0) (.c 0))
 let x1_:SI:=(.ap 200 (.v 0) (.c 0) (.c 0) (.c 0) (.c 0) (.c 0))
 let x2_:SI:=(.ap 21 (.v 0) x1_ (.v 1) (.c 0) (.c 0) (.c 0))
 let f0_:List (SB×Bool):=[((.lt (.v 22) x1_),.true),((.le x1_ (.c 300)),.true)]
 [(.fin (((.eq x0_ (.v 1)),.true)::f0_) 0 ⟨⟨[],[]⟩,[],[],[]⟩ [(.ei (.ap 21 (.v 0) x1_ (.v 1) (.c 0) (.c 0) (.c 0)) (.v 22)),(.fa (.lt x2_ x1_) .true)] []),
  (let i_:In:=⟨⟨[(22,(.wk .i64 (.op .add (.v 22) (.c 1))))],[]⟩,[],[],[]⟩;.cut (((.eq x0_ (.v 1)),.false)::f0_) 1 i_ [(.rn (.wk .i64 (.op .add (.v 22) (.c 1))) 0 (-1))] (shT qFind_T1 i_)),
  (.fin ([((.lt (.v 22) x1_),.false),((.le x1_ (.c 300)),.true)]) 0 ⟨⟨[],[]⟩,[],[],[]⟩ [(.ei (.ap 21 (.v 0) x1_ (.v 1) (.c 0) (.c 0) (.c 0)) (.c (-1))),(.fa (.lt x2_ x1_) .true)] [])]
def qFind_run (T:Tm):=(ex (ccOf Tryz.prog BF [29,73,75,100] qFind) ((fun _=>[]) (ccOf Tryz.prog BF [29,73,75,100] qFind)) (dw (ccOf Tryz.prog BF [29,73,75,100] qFind) ((fun _=>[]) (ccOf Tryz.prog BF [29,73,75,100] qFind)) 1000 4) (stopX []) 4000 T.f T.fs T.H).lfs (ccOf Tryz.prog BF [29,73,75,100] qFind) ((tm0 qFind Tryz.f45 (Tryz.f45.body.getD .skip))::[qFind_T1]) qFind.os
theorem qFind_h0:qFind_run (tm0 qFind Tryz.f45 (Tryz.f45.body.getD .skip))=some qFind_L0:=by kernel_rfl
theorem qFind_h1:qFind_run qFind_T1=some qFind_L1:=by kernel_rfl
def qFind_inv:(Nat→Int)→(Nat→Bool)→Nat→(Nat→Int)→(Nat→Bool)→Prop:=fun iv0 _ k iv _=>match k with
 | 0=>True
 | _=>0≤iv 22∧iv 22≤(flenC (iv0 0))∧∀ j:Nat,(j:Int) < iv 22→fl (iv0 0) j 0≠iv0 1
def qFind_mu:(Nat→Int)→(Nat→Bool)→Nat→(Nat→Int)→(Nat→Bool)→Nat:=fun iv0 _ k iv _=>match k with | 0=>2 ^ 80 | _=>((flenC (iv0 0)) - iv 22).toNat
theorem qFind_b {iv0:Nat→Int} (hin:InB qFind.B iv0):((-9223372036854775808)≤iv0 1∧iv0 1≤9223372036854775807):=by
 have b1:=hin 1 (-9223372036854775808) 9223372036854775807 (by simp [qFind,o1,flF,fH,lH,apN,pbN,apM,pbM,oMo,rowV,zeroV,i64b,SI.fl,flay,flayL,lW,mayV,ints,i64s,lmap])
 simp only [Int.reduceLE,reduceIte,Int.reduceNeg] at b1
 exact b1
def qFind_ob (k:Nat) (l:List Lf):Prop:=∀ (kv:Kv) (iv0:Nat→Int) (bv0:Nat→Bool),InB qFind.B iv0→FT (sta FI FB kv iv0 bv0) (dlt dyn0) qFind.F→∀ (iv:Nat→Int) (bv:Nat→Bool),Agr 2 iv0 bv0 iv bv→qFind_inv iv0 bv0 k iv bv→∀ lf∈l,LfT (sta FI FB kv) qFind.os (qFind_inv iv0 bv0) (qFind_mu iv0 bv0) k iv bv lf
theorem qFind_o0:qFind_ob 0 qFind_L0:=by
 intro kv iv0 bv0 hin hF iv bv ha hi
 unfold qFind_L0
 refine List.forall_mem_cons.2 ⟨?_,List.forall_mem_nil _⟩
 all_goals
  intro δ hf
 all_goals
  have b1:=qFind_b hin
 all_goals
  have a0:=ha.1 0 (by omega)
  have a1:=ha.1 1 (by omega)
 all_goals
  simp only [FT,TP,SB.tp,SI.tv,sta,IB.eval,and_true,true_and,ObsT,Ob.Tv,rowT,kix,In.tiv,↓tbvT,In.tbv,get_cons,get_nil,reduceIte,Nat.reduceEqDiff,Int.reduceToNat,Int.reduceAdd,Int.reduceSub,Int.reduceLE,Int.reduceLT,Int.reduceEq,ne_eq,Bool.false_eq_true,not_true_eq_false,not_false_eq_true,true_iff,false_iff,iff_true,iff_false,false_implies,implies_true,decT,decide_true,decide_false,Bool.decide_eq_true,ap2,pb2,FI_3,FI_3g,FI_4,FI_8,FI_8m,FI_9,FI_8c,FI_8z,FI_200,FB_0,FB_2,Int.toNat_natCast,Int.toNat_zero,FI_21,qFind_inv,qFind_mu,qFind,o1,othT,o1,flF,fH,lH,apN,pbN,apM,pbM,oMo,rowV,zeroV,i64b,SI.fl,flay,flayL,lW,mayV,ints,i64s,lmap,a0,a1] at hf hi ⊢
 all_goals
  have n0:=flenC_nn (iv0 0)
 all_goals
  (repeat' (with_reducible apply And.intro))<;>first
  | omega
  | assumption
  | (unfold inM;omega)
  | exact fun j hj=>by omega
theorem qFind_o1:qFind_ob 1 qFind_L1:=by
 intro kv iv0 bv0 hin hF iv bv ha hi
 unfold qFind_L1
 refine List.forall_mem_cons.2 ⟨?_,List.forall_mem_cons.2 ⟨?_,List.forall_mem_cons.2 ⟨?_,List.forall_mem_nil _⟩⟩⟩
 all_goals
  intro δ hf
 all_goals
  have b1:=qFind_b hin
 all_goals
  have a0:=ha.1 0 (by omega)
  have a1:=ha.1 1 (by omega)
 all_goals
  simp only [FT,TP,SB.tp,SI.tv,sta,IB.eval,and_true,true_and,ObsT,Ob.Tv,rowT,kix,In.tiv,↓tbvT,In.tbv,get_cons,get_nil,reduceIte,Nat.reduceEqDiff,Int.reduceToNat,Int.reduceAdd,Int.reduceSub,Int.reduceLE,Int.reduceLT,Int.reduceEq,ne_eq,Bool.false_eq_true,not_true_eq_false,not_false_eq_true,true_iff,false_iff,iff_true,iff_false,false_implies,implies_true,decT,decide_true,decide_false,Bool.decide_eq_true,ap2,pb2,FI_3,FI_3g,FI_4,FI_8,FI_8m,FI_9,FI_8c,FI_8z,FI_200,FB_0,FB_2,Int.toNat_natCast,Int.toNat_zero,FI_21,qFind_inv,qFind_mu,qFind,o1,othT,o1,flF,fH,lH,apN,pbN,apM,pbM,oMo,rowV,zeroV,i64b,SI.fl,flay,flayL,lW,mayV,ints,i64s,lmap,a0,a1] at hf hi ⊢
 all_goals
  have n0:=flenC_nn (iv0 0)
 all_goals
  have w1:IntKind.i64.wrap (iv 22+1)=iv 22+1:=by rw [wrap_i64];omega
 all_goals
  have w2:IntKind.i64.wrap (iv 22+-1)=iv 22+-1:=by rw [wrap_i64];omega
 all_goals
  try simp only [w1,w2] at hf
 all_goals
  try simp only [w1,w2]
 all_goals
  (repeat' (with_reducible apply And.intro))<;>first
  | omega
  | assumption
  | (unfold inM;omega)
  | exact all_succ hi.1 hi.2.2 (by omega)
  | exact fndW_at (by omega) hi.1 (by omega) hf.1 hi.2.2
  | (rw [fndW_at (by omega) hi.1 (by omega) hf.1 hi.2.2];omega)
  | exact fndW_no (by omega) hf.1 hi.2.2
  | (rw [fndW_no (by omega) hf.1 hi.2.2];omega)
theorem qFind_c:LsC ((tm0 qFind Tryz.f45 (Tryz.f45.body.getD .skip))::[qFind_T1]) qFind.os [qFind_L0,qFind_L1]:=by
 unfold qFind_L0 qFind_L1
 exact ⟨List.forall_mem_cons.2 ⟨⟨⟨_,rfl,rfl⟩,by kernel_rfl⟩,List.forall_mem_nil _⟩,List.forall_mem_cons.2 ⟨⟨⟨_,rfl,rfl⟩,by kernel_rfl⟩,List.forall_mem_cons.2 ⟨⟨⟨_,rfl,rfl⟩,by kernel_rfl⟩,List.forall_mem_cons.2 ⟨⟨⟨_,rfl,rfl⟩,by kernel_rfl⟩,List.forall_mem_nil _⟩⟩⟩,trivial⟩
theorem qFind_ok:qFind.Ok Tryz.prog FI FB:=
 Con.of_plain (body:=Tryz.f45.body.getD .skip) pok fiok EntsFor.nil qFind Tryz.func45 (by kernel_rfl) 2 [qFind_T1] (by kernel_rfl) [qFind_L0,qFind_L1] ⟨qFind_h0,qFind_h1,trivial⟩ qFind_c
  qFind_inv qFind_mu (fun _ _ _=>trivial) fun kv iv0 bv0 hin hF k l iv bv hk ha hi=>match k,hk,hi with
  | 0,hk,hi=>by
    cases hk
    exact qFind_o0 kv iv0 bv0 hin hF iv bv ha hi
  | 1,hk,hi=>by
    cases hk
    exact qFind_o1 kv iv0 bv0 hin hF iv bv ha hi
  | k+2,hk,_=>by simp at hk
def wRight_T1:Tm:=⟨⟨114,19,[(8,(.it .i64 (.v 21))),(7,(.it .i64 (.ap 200 (.v 0) (.c 0) (.c 0) (.c 0) (.c 0) (.c 0)))),(0,(.fs 3 (.v 0))),(1,(.fn 219 [] [(.pt (.n 2) (.c 0))]))],[(.code (atC Tryz.f114 [1,0,1,0,0])),(.inLoop (atC Tryz.f114 [1,0,1,0,0])),(.inBlock 0),(.code (atC Tryz.f114 [1,1]))],[],.none⟩,[⟨218,9,[(6,(.fn 219 [] [(.pt (.n 2) (.c 0))])),(5,(.fs 3 (.v 0)))],[(.inRegion (opsC (atC Tryz.f218 [1,0])) [2,3,4]),(.code Code.ret)],[],.none⟩,⟨157,9,[(6,(.fn 219 [] [(.pt (.n 2) (.c 0))])),(5,(.fs 3 (.v 0)))],[(.inRegion (opsC (atC Tryz.f157 [1,0])) [2,3,4]),(.code Code.ret)],[],.none⟩,⟨116,13,[(10,(.fn 180 [] [(.pt (.n 1) (.c 0))])),(9,(.fs 3 (.v 0))),(8,(.bo (.le (.ap 200 (.v 0) (.c 0) (.c 0) (.c 0) (.c 0) (.c 0)) (.c 256))))],[(.inRegion (opsC (atC Tryz.f116 [1,1,0])) [6,7,8]),(.code Code.ret)],[],.none⟩],
    ⟨[(0,(.mapc .i64 .i64 (.v 22))),(1,(.cells [(.mp (.n 0))] 255)),(2,(.cells [(.fn 180 [] [(.pt (.n 1) (.c 0))])] 179))],3,0,0,[((.le (.ap 200 (.v 0) (.c 0) (.c 0) (.c 0) (.c 0) (.c 0)) (.c 256)),.true),((.le (.ap 200 (.v 0) (.c 0) (.c 0) (.c 0) (.c 0) (.c 0)) (.c 300)),.true)],[0],[(21,(0,(-1)))]⟩,[21,22]⟩
def wRight_L0:List Lf:=
 let x0_:SI:=(.ap 200 (.v 0) (.c 0) (.c 0) (.c 0) (.c 0) (.c 0))
 [(let i_:In:=⟨⟨[(22,(.c 0)),(21,(.c 0))],[]⟩,[(0,0),(1,1),(2,2)],[],[]⟩;.cut ([((.le x0_ (.c 256)),.true),((.le x0_ (.c 300)),.true)]) 1 i_ [] (shT wRight_T1 i_)),
  (.fin ([((.le x0_ (.c 256)),.false),((.le x0_ (.c 300)),.true)]) 0 ⟨⟨[],[]⟩,[],[],[]⟩ [(.eb (.ap 30 (.v 0) x0_ (.c 0) (.c 0) (.c 0) (.c 0)) (.c .false))] [])]
def wRight_L1:List Lf:=
 let x0_:SI:=(.ap 3 (.v 0) (.v 21) (.c 0) (.c 0) (.c 0) (.c 0))
 let x1_:SI:=(.ap 3 (.v 0) (.v 21) (.c 1) (.c 0) (.c 0) (.c 0))
 let x2_:SI:=(.ap 3 (.v 0) (.v 21) (.c 2) (.c 0) (.c 0) (.c 0))
 let x3_:SI:=(.ap 3 (.v 0) (.v 21) (.c 3) (.c 0) (.c 0) (.c 0))
 let x4_:SI:=(.ap 3 (.v 0) (.v 21) (.c 4) (.c 0) (.c 0) (.c 0))
 let x5_:SI:=(.ap 200 (.v 0) (.c 0) (.c 0) (.c 0) (.c 0) (.c 0))
 let x6_:SI:=(.wk .i64 (.op .add (.ap 3 (.v 22) x0_ (.c 0) (.c 1) (.c 0) (.c 0)) (.c 1)))
 let f0_:List (SB×Bool):=[((.le x5_ (.c 256)),.true),((.le x5_ (.c 300)),.true)]
 let f1_:List (SB×Bool):=((.lt (.v 21) x5_),.true)::f0_
 let f2_:List (SB×Bool):=((.ap 32 x0_ x1_ x2_ x3_ x4_ (.c 0)),.true)::f1_
 [(let i_:In:=⟨⟨[(22,(.ap 8 (.v 22) x0_ (.c 0) x6_ (.c 1) (.c 0))),(21,(.wk .i64 (.op .add (.v 21) (.c 1))))],[]⟩,[(0,0),(1,1),(2,2)],[],[]⟩;.cut (((.eq x6_ (.c 1)),.true)::f2_) 1 i_ [(.rn (.wk .i64 (.op .add (.v 21) (.c 1))) 0 (-1))] (shT wRight_T1 i_)),
  (.fin (((.eq x6_ (.c 1)),.false)::f2_) 0 ⟨⟨[],[]⟩,[],[],[]⟩ [(.eb (.ap 30 (.v 0) x5_ (.c 0) (.c 0) (.c 0) (.c 0)) (.c .false))] []),
  (.fin (((.ap 32 x0_ x1_ x2_ x3_ x4_ (.c 0)),.false)::f1_) 0 ⟨⟨[],[]⟩,[],[],[]⟩ [(.eb (.ap 30 (.v 0) x5_ (.c 0) (.c 0) (.c 0) (.c 0)) (.c .false))] []),
  (.fin (((.lt (.v 21) x5_),.false)::f0_) 0 ⟨⟨[],[]⟩,[],[],[]⟩ [(.eb (.ap 30 (.v 0) x5_ (.c 0) (.c 0) (.c 0) (.c 0)) (.c .true))] [])]
def wRight_run (T:Tm):=(ex (ccOf Tryz.prog BF [29,73,75,100] wRight) ((fun cc=>[wMay.ent cc]) (ccOf Tryz.prog BF [29,73,75,100] wRight)) (dw (ccOf Tryz.prog BF [29,73,75,100] wRight) ((fun cc=>[wMay.ent cc]) (ccOf Tryz.prog BF [29,73,75,100] wRight)) 1000 4) (stopX []) 4000 T.f T.fs T.H).lfs (ccOf Tryz.prog BF [29,73,75,100] wRight) ((tm0 wRight Tryz.f116 (Tryz.f116.body.getD .skip))::[wRight_T1]) wRight.os
theorem wRight_h0:wRight_run (tm0 wRight Tryz.f116 (Tryz.f116.body.getD .skip))=some wRight_L0:=by kernel_rfl
theorem wRight_h1:wRight_run wRight_T1=some wRight_L1:=by kernel_rfl
def wRight_inv:(Nat→Int)→(Nat→Bool)→Nat→(Nat→Int)→(Nat→Bool)→Prop:=fun iv0 _ k iv _=>match k with
 | 0=>True
 | _=>(flenC (iv0 0))≤256∧0≤iv 21∧iv 21≤(flenC (iv0 0))∧mayX (iv0 0) (iv 21)∧seenW (iv 22) (iv0 0) (iv 21)
def wRight_mu:(Nat→Int)→(Nat→Bool)→Nat→(Nat→Int)→(Nat→Bool)→Nat:=fun iv0 _ k iv _=>match k with | 0=>2 ^ 80 | _=>((flenC (iv0 0)) - iv 21).toNat
def wRight_ob (k:Nat) (l:List Lf):Prop:=∀ (kv:Kv) (iv0:Nat→Int) (bv0:Nat→Bool),InB wRight.B iv0→FT (sta FI FB kv iv0 bv0) (dlt dyn0) wRight.F→∀ (iv:Nat→Int) (bv:Nat→Bool),Agr 1 iv0 bv0 iv bv→wRight_inv iv0 bv0 k iv bv→∀ lf∈l,LfT (sta FI FB kv) wRight.os (wRight_inv iv0 bv0) (wRight_mu iv0 bv0) k iv bv lf
theorem wRight_o0:wRight_ob 0 wRight_L0:=by
 intro kv iv0 bv0 hin hF iv bv ha hi
 unfold wRight_L0
 refine List.forall_mem_cons.2 ⟨?_,List.forall_mem_cons.2 ⟨?_,List.forall_mem_nil _⟩⟩
 all_goals
  intro δ hf
 all_goals
  have a0:=ha.1 0 (by omega)
 all_goals
  simp only [FT,TP,SB.tp,SI.tv,sta,IB.eval,and_true,true_and,ObsT,Ob.Tv,rowT,kix,In.tiv,↓tbvT,In.tbv,get_cons,get_nil,reduceIte,Nat.reduceEqDiff,Int.reduceToNat,Int.reduceAdd,Int.reduceSub,Int.reduceLE,Int.reduceLT,Int.reduceEq,ne_eq,Bool.false_eq_true,not_true_eq_false,not_false_eq_true,true_iff,false_iff,iff_true,iff_false,false_implies,implies_true,decT,decide_true,decide_false,Bool.decide_eq_true,ap2,pb2,FI_3,FI_3g,FI_4,FI_8,FI_8m,FI_9,FI_8c,FI_8z,FI_200,FB_0,FB_2,Int.toNat_natCast,Int.toNat_zero,FB_30,FB_32,wRight_inv,wRight_mu,wRight,o1,othT,o1,flF,fH,lH,apN,pbN,apM,pbM,oMo,rowV,zeroV,i64b,SI.fl,flay,flayL,lW,mayV,ints,i64s,lmap,a0] at hf hi ⊢
 all_goals
  have n0:=flenC_nn (iv0 0)
 all_goals
  (repeat' (with_reducible apply And.intro))<;>first
  | omega
  | assumption
  | (unfold inM;omega)
  | exact seenW_zero _
  | exact fun i hi=>by omega
  | (exact fun h=>absurd h.1 (by omega))
theorem wRight_o1:wRight_ob 1 wRight_L1:=by
 intro kv iv0 bv0 hin hF iv bv ha hi
 unfold wRight_L1
 refine List.forall_mem_cons.2 ⟨?_,List.forall_mem_cons.2 ⟨?_,List.forall_mem_cons.2 ⟨?_,List.forall_mem_cons.2 ⟨?_,List.forall_mem_nil _⟩⟩⟩⟩
 all_goals
  intro δ hf
 all_goals
  have a0:=ha.1 0 (by omega)
 all_goals
  simp only [FT,TP,SB.tp,SI.tv,sta,IB.eval,and_true,true_and,ObsT,Ob.Tv,rowT,kix,In.tiv,↓tbvT,In.tbv,get_cons,get_nil,reduceIte,Nat.reduceEqDiff,Int.reduceToNat,Int.reduceAdd,Int.reduceSub,Int.reduceLE,Int.reduceLT,Int.reduceEq,ne_eq,Bool.false_eq_true,not_true_eq_false,not_false_eq_true,true_iff,false_iff,iff_true,iff_false,false_implies,implies_true,decT,decide_true,decide_false,Bool.decide_eq_true,ap2,pb2,FI_3,FI_3g,FI_4,FI_8,FI_8m,FI_9,FI_8c,FI_8z,FI_200,FB_0,FB_2,Int.toNat_natCast,Int.toNat_zero,FB_30,FB_32,wRight_inv,wRight_mu,wRight,o1,othT,o1,flF,fH,lH,apN,pbN,apM,pbM,oMo,rowV,zeroV,i64b,SI.fl,flay,flayL,lW,mayV,ints,i64s,lmap,a0] at hf hi ⊢
 all_goals
  have n0:=flenC_nn (iv0 0)
 all_goals
  have w1:IntKind.i64.wrap (iv 21+1)=iv 21+1:=by rw [wrap_i64];omega
 all_goals
  have w2:IntKind.i64.wrap (iv 21+-1)=iv 21+-1:=by rw [wrap_i64];omega
 all_goals
  try simp only [w1,w2] at hf
 all_goals
  try simp only [w1,w2]
 all_goals
  obtain ⟨g0,g1,g2,g3,g4⟩:=hi
 all_goals
  have e1:=@mayX_ext (iv0 0) (iv 21) g3 g1
 all_goals
  have e2:=fun h=>@mayX_not (iv0 0) (flenC (iv0 0)) (iv 21) g1 h
 all_goals
  have e3:=fun x=>@seenW_new (iv 22) (iv0 0) (iv 21) x g4
 all_goals
  have e4:=fun x=>@seenW_old (iv 22) (iv0 0) (iv 21) x g4
 all_goals
  have e5:=@seenW_extM (iv 22) (iv0 0) (iv 21) g4 g1
 all_goals
  have e6:=@rgtW_end (iv0 0) (flenC (iv0 0)) (iv 21) g3
 all_goals
  (repeat' (with_reducible apply And.intro))<;>first
  | omega
  | assumption
  | (unfold inM;omega)
  | (clear hin hF ha;grind)
theorem wRight_c:LsC ((tm0 wRight Tryz.f116 (Tryz.f116.body.getD .skip))::[wRight_T1]) wRight.os [wRight_L0,wRight_L1]:=by
 unfold wRight_L0 wRight_L1
 exact ⟨List.forall_mem_cons.2 ⟨⟨⟨_,rfl,rfl⟩,by kernel_rfl⟩,List.forall_mem_cons.2 ⟨⟨⟨_,rfl,rfl⟩,by kernel_rfl⟩,List.forall_mem_nil _⟩⟩,List.forall_mem_cons.2 ⟨⟨⟨_,rfl,rfl⟩,by kernel_rfl⟩,List.forall_mem_cons.2 ⟨⟨⟨_,rfl,rfl⟩,by kernel_rfl⟩,List.forall_mem_cons.2 ⟨⟨⟨_,rfl,rfl⟩,by kernel_rfl⟩,List.forall_mem_cons.2 ⟨⟨⟨_,rfl,rfl⟩,by kernel_rfl⟩,List.forall_mem_nil _⟩⟩⟩⟩,trivial⟩
theorem wRight_ok:wRight.Ok Tryz.prog FI FB:=
 Con.of_plain (body:=Tryz.f116.body.getD .skip) pok fiok (EntsFor.cons wMay_ok EntsFor.nil) wRight Tryz.func116 (by kernel_rfl) 1 [wRight_T1] (by kernel_rfl) [wRight_L0,wRight_L1] ⟨wRight_h0,wRight_h1,trivial⟩ wRight_c
  wRight_inv wRight_mu (fun _ _ _=>trivial) fun kv iv0 bv0 hin hF k l iv bv hk ha hi=>match k,hk,hi with
  | 0,hk,hi=>by
    cases hk
    exact wRight_o0 kv iv0 bv0 hin hF iv bv ha hi
  | 1,hk,hi=>by
    cases hk
    exact wRight_o1 kv iv0 bv0 hin hF iv bv ha hi
  | k+2,hk,_=>by simp at hk
def qRight_T1:Tm:=⟨⟨64,34,[(3,(.it .i64 (.v 21))),(0,(.fs 3 (.v 0)))],[(.code (atC Tryz.f64 [1,0,1,0,0])),(.inLoop (atC Tryz.f64 [1,0,1,0,0])),(.inBlock 0),(.code (atC Tryz.f64 [1,1]))],[],.none⟩,[],
    ⟨[],0,0,0,[((.le (.ap 200 (.v 0) (.c 0) (.c 0) (.c 0) (.c 0) (.c 0)) (.c 300)),.true)],[0],[(21,(0,(-1)))]⟩,[21]⟩
def qRight_L0:List Lf:=
 [(.cut ([((.le (.ap 200 (.v 0) (.c 0) (.c 0) (.c 0) (.c 0) (.c 0)) (.c 300)),.true)]) 1 ⟨⟨[(21,(.c 0))],[]⟩,[],[],[]⟩ [] (shT qRight_T1 ⟨⟨[(21,(.c 0))],[]⟩,[],[],[]⟩))]
def qRight_L1:List Lf:=
 let x0_:SI:=(.ap 3 (.v 0) (.v 21) (.c 0) (.c 0) (.c 0) (.c 0))
 let x1_:SI:=(.ap 3 (.v 0) (.v 21) (.c 1) (.c 0) (.c 0) (.c 0))
 let x2_:SI:=(.ap 3 (.v 0) (.v 21) (.c 2) (.c 0) (.c 0) (.c 0))
 let x3_:SI:=(.ap 3 (.v 0) (.v 21) (.c 3) (.c 0) (.c 0) (.c 0))
 let x4_:SI:=(.ap 3 (.v 0) (.v 21) (.c 4) (.c 0) (.c 0) (.c 0))
 let x5_:SI:=(.ap 200 (.v 0) (.c 0) (.c 0) (.c 0) (.c 0) (.c 0))
 let x6_:SI:=(.ap 21 (.v 0) x5_ x0_ (.c 0) (.c 0) (.c 0))
 let f0_:List (SB×Bool):=[((.lt (.v 21) x5_),.true),((.le x5_ (.c 300)),.true)]
 let f1_:List (SB×Bool):=((.le (.v 21) (.c 256)),.true)::f0_
 let f2_:List (SB×Bool):=((.lt x6_ x5_),.true)::((.le (.c (-1)) x6_),.true)::((.ap 32 x0_ x1_ x2_ x3_ x4_ (.c 0)),.true)::f1_
 [(.cut (((.eq x6_ (.v 21)),.true)::f2_) 1 ⟨⟨[(21,(.op .add (.v 21) (.c 1)))],[]⟩,[],[],[]⟩ [] (shT qRight_T1 ⟨⟨[(21,(.op .add (.v 21) (.c 1)))],[]⟩,[],[],[]⟩)),
  (.fin (((.eq x6_ (.v 21)),.false)::f2_) 0 ⟨⟨[],[]⟩,[],[],[]⟩ [(.eb (.ap 30 (.v 0) x5_ (.c 0) (.c 0) (.c 0) (.c 0)) (.c .false))] []),
  (.fin (((.ap 32 x0_ x1_ x2_ x3_ x4_ (.c 0)),.false)::f1_) 0 ⟨⟨[],[]⟩,[],[],[]⟩ [(.eb (.ap 30 (.v 0) x5_ (.c 0) (.c 0) (.c 0) (.c 0)) (.c .false))] []),
  (.fin (((.le (.v 21) (.c 256)),.false)::f0_) 0 ⟨⟨[],[]⟩,[],[],[]⟩ [(.eb (.ap 30 (.v 0) x5_ (.c 0) (.c 0) (.c 0) (.c 0)) (.c .false))] []),
  (.fin ([((.lt (.v 21) x5_),.false),((.le x5_ (.c 300)),.true)]) 0 ⟨⟨[],[]⟩,[],[],[]⟩ [(.eb (.ap 30 (.v 0) x5_ (.c 0) (.c 0) (.c 0) (.c 0)) (.le x5_ (.c 256)))] [])]
def qRight_run (T:Tm):=(ex (ccOf Tryz.prog BF [29,73,75,100] qRight) ((fun cc=>[qMay.ent cc,qFind.ent cc]) (ccOf Tryz.prog BF [29,73,75,100] qRight)) (dw (ccOf Tryz.prog BF [29,73,75,100] qRight) ((fun cc=>[qMay.ent cc,qFind.ent cc]) (ccOf Tryz.prog BF [29,73,75,100] qRight)) 1000 4) (stopX []) 4000 T.f T.fs T.H).lfs (ccOf Tryz.prog BF [29,73,75,100] qRight) ((tm0 qRight Tryz.f64 (Tryz.f64.body.getD .skip))::[qRight_T1]) qRight.os
theorem qRight_h0:qRight_run (tm0 qRight Tryz.f64 (Tryz.f64.body.getD .skip))=some qRight_L0:=by kernel_rfl
theorem qRight_h1:qRight_run qRight_T1=some qRight_L1:=by kernel_rfl
def qRight_inv:(Nat→Int)→(Nat→Bool)→Nat→(Nat→Int)→(Nat→Bool)→Prop:=fun iv0 _ k iv _=>match k with
 | 0=>True
 | _=>0≤iv 21∧iv 21≤(flenC (iv0 0))∧iv 21≤257∧mayX (iv0 0) (iv 21)
def qRight_mu:(Nat→Int)→(Nat→Bool)→Nat→(Nat→Int)→(Nat→Bool)→Nat:=fun iv0 _ k iv _=>match k with | 0=>2 ^ 80 | _=>((flenC (iv0 0)) - iv 21).toNat
def qRight_ob (k:Nat) (l:List Lf):Prop:=∀ (kv:Kv) (iv0:Nat→Int) (bv0:Nat→Bool),InB qRight.B iv0→FT (sta FI FB kv iv0 bv0) (dlt dyn0) qRight.F→∀ (iv:Nat→Int) (bv:Nat→Bool),Agr 1 iv0 bv0 iv bv→qRight_inv iv0 bv0 k iv bv→∀ lf∈l,LfT (sta FI FB kv) qRight.os (qRight_inv iv0 bv0) (qRight_mu iv0 bv0) k iv bv lf
theorem qRight_o0:qRight_ob 0 qRight_L0:=by
 intro kv iv0 bv0 hin hF iv bv ha hi
 unfold qRight_L0
 refine List.forall_mem_cons.2 ⟨?_,List.forall_mem_nil _⟩
 all_goals
  intro δ hf
 all_goals
  have a0:=ha.1 0 (by omega)
 all_goals
  simp only [FT,TP,SB.tp,SI.tv,sta,IB.eval,and_true,true_and,ObsT,Ob.Tv,rowT,kix,In.tiv,↓tbvT,In.tbv,get_cons,get_nil,reduceIte,Nat.reduceEqDiff,Int.reduceToNat,Int.reduceAdd,Int.reduceSub,Int.reduceLE,Int.reduceLT,Int.reduceEq,ne_eq,Bool.false_eq_true,not_true_eq_false,not_false_eq_true,true_iff,false_iff,iff_true,iff_false,false_implies,implies_true,decT,decide_true,decide_false,Bool.decide_eq_true,ap2,pb2,FI_3,FI_3g,FI_4,FI_8,FI_8m,FI_9,FI_8c,FI_8z,FI_200,FB_0,FB_2,Int.toNat_natCast,Int.toNat_zero,FI_21,FI_64,FB_30,FB_32,qRight_inv,qRight_mu,qRight,o1,othT,o1,flF,fH,lH,apN,pbN,apM,pbM,oMo,rowV,zeroV,i64b,SI.fl,flay,flayL,lW,mayV,ints,i64s,lmap,a0] at hf hi ⊢
 all_goals
  have n0:=flenC_nn (iv0 0)
 all_goals
  (repeat' (with_reducible apply And.intro))<;>first
  | omega
  | assumption
  | (unfold inM;omega)
  | exact fun i hi=>by omega
theorem qRight_o1:qRight_ob 1 qRight_L1:=by
 intro kv iv0 bv0 hin hF iv bv ha hi
 unfold qRight_L1
 refine List.forall_mem_cons.2 ⟨?_,List.forall_mem_cons.2 ⟨?_,List.forall_mem_cons.2 ⟨?_,List.forall_mem_cons.2 ⟨?_,List.forall_mem_cons.2 ⟨?_,List.forall_mem_nil _⟩⟩⟩⟩⟩
 all_goals
  intro δ hf
 all_goals
  have a0:=ha.1 0 (by omega)
 all_goals
  simp only [FT,TP,SB.tp,SI.tv,sta,IB.eval,and_true,true_and,ObsT,Ob.Tv,rowT,kix,In.tiv,↓tbvT,In.tbv,get_cons,get_nil,reduceIte,Nat.reduceEqDiff,Int.reduceToNat,Int.reduceAdd,Int.reduceSub,Int.reduceLE,Int.reduceLT,Int.reduceEq,ne_eq,Bool.false_eq_true,not_true_eq_false,not_false_eq_true,true_iff,false_iff,iff_true,iff_false,false_implies,implies_true,decT,decide_true,decide_false,Bool.decide_eq_true,ap2,pb2,FI_3,FI_3g,FI_4,FI_8,FI_8m,FI_9,FI_8c,FI_8z,FI_200,FB_0,FB_2,Int.toNat_natCast,Int.toNat_zero,FI_21,FI_64,FB_30,FB_32,qRight_inv,qRight_mu,qRight,o1,othT,o1,flF,fH,lH,apN,pbN,apM,pbM,oMo,rowV,zeroV,i64b,SI.fl,flay,flayL,lW,mayV,ints,i64s,lmap,a0] at hf hi ⊢
 all_goals
  have n0:=flenC_nn (iv0 0)
 all_goals
  have w1:IntKind.i64.wrap (iv 21+1)=iv 21+1:=by rw [wrap_i64];omega
 all_goals
  have w2:IntKind.i64.wrap (iv 21+-1)=iv 21+-1:=by rw [wrap_i64];omega
 all_goals
  try simp only [w1,w2] at hf
 all_goals
  try simp only [w1,w2]
 all_goals
  have hfa:=@fndW_is (iv0 0) (flenC (iv0 0)) (iv 21)
 all_goals
  (repeat' (with_reducible apply And.intro))<;>first
  | omega
  | assumption
  | (unfold inM;omega)
  | (exact mayX_ext hi.2.2.2 hi.1 (by first | exact hf.1 | exact hf.2.1 | exact hf.2.2.2.1) ((hfa (by omega) (by omega) (by omega)).1 (by first | exact hf.1 | exact hf.2.1)))
  | (exact mayX_not hi.1 (by omega) fun h=>by first | exact hf.1 h.1 | exact hf.1 ((hfa (by omega) (by omega) (by omega)).2 h.2))
  | (exact fun h=>absurd h.1 (by omega))
  | (constructor<;>intro h<;>first | omega | exact h.1 | (refine ⟨by omega,?_⟩;rw [show (flenC (iv0 0))=iv 21 by omega];exact hi.2.2.2))
  | (refine ⟨by omega,?_⟩;rw [show (flenC (iv0 0))=iv 21 by omega];exact hi.2.2.2)
theorem qRight_c:LsC ((tm0 qRight Tryz.f64 (Tryz.f64.body.getD .skip))::[qRight_T1]) qRight.os [qRight_L0,qRight_L1]:=by
 unfold qRight_L0 qRight_L1
 exact ⟨List.forall_mem_cons.2 ⟨⟨⟨_,rfl,rfl⟩,by kernel_rfl⟩,List.forall_mem_nil _⟩,List.forall_mem_cons.2 ⟨⟨⟨_,rfl,rfl⟩,by kernel_rfl⟩,List.forall_mem_cons.2 ⟨⟨⟨_,rfl,rfl⟩,by kernel_rfl⟩,List.forall_mem_cons.2 ⟨⟨⟨_,rfl,rfl⟩,by kernel_rfl⟩,List.forall_mem_cons.2 ⟨⟨⟨_,rfl,rfl⟩,by kernel_rfl⟩,List.forall_mem_cons.2 ⟨⟨⟨_,rfl,rfl⟩,by kernel_rfl⟩,List.forall_mem_nil _⟩⟩⟩⟩⟩,trivial⟩
theorem qRight_ok:qRight.Ok Tryz.prog FI FB:=
 Con.of_plain (body:=Tryz.f64.body.getD .skip) pok fiok (EntsFor.cons qMay_ok (EntsFor.cons qFind_ok EntsFor.nil)) qRight Tryz.func64 (by kernel_rfl) 1 [qRight_T1] (by kernel_rfl) [qRight_L0,qRight_L1] ⟨qRight_h0,qRight_h1,trivial⟩ qRight_c
  qRight_inv qRight_mu (fun _ _ _=>trivial) fun kv iv0 bv0 hin hF k l iv bv hk ha hi=>match k,hk,hi with
  | 0,hk,hi=>by
    cases hk
    exact qRight_o0 kv iv0 bv0 hin hF iv bv ha hi
  | 1,hk,hi=>by
    cases hk
    exact qRight_o1 kv iv0 bv0 hin hF iv bv ha hi
  | k+2,hk,_=>by simp at hk
def wCheck_L0:List Lf:=
 let x0_:SI:=(.ap 200 (.v 0) (.c 0) (.c 0) (.c 0) (.c 0) (.c 0))
 [(.fin ([((.ap 30 (.v 0) x0_ (.c 0) (.c 0) (.c 0) (.c 0)),.true),((.le x0_ (.c 300)),.true)]) 0 ⟨⟨[],[]⟩,[],[],[]⟩ [] []),
  (.fin ([((.ap 30 (.v 0) x0_ (.c 0) (.c 0) (.c 0) (.c 0)),.false),((.le x0_ (.c 300)),.true)]) 1 ⟨⟨[],[]⟩,[],[],[]⟩ [] [])]
def wCheck_run (T:Tm):=(ex (ccOf Tryz.prog BF [29,73,75,100] wCheck) ((fun cc=>[wRight.ent cc]) (ccOf Tryz.prog BF [29,73,75,100] wCheck)) (dw (ccOf Tryz.prog BF [29,73,75,100] wCheck) ((fun cc=>[wRight.ent cc]) (ccOf Tryz.prog BF [29,73,75,100] wCheck)) 1000 4) (stopX []) 4000 T.f T.fs T.H).lfs (ccOf Tryz.prog BF [29,73,75,100] wCheck) ((tm0 wCheck Tryz.f206 (Tryz.f206.body.getD .skip))::[]) wCheck.os
theorem wCheck_h0:wCheck_run (tm0 wCheck Tryz.f206 (Tryz.f206.body.getD .skip))=some wCheck_L0:=by kernel_rfl
def wCheck_inv:(Nat→Int)→(Nat→Bool)→Nat→(Nat→Int)→(Nat→Bool)→Prop:=fun _ _ _ _ _=>True
def wCheck_mu:(Nat→Int)→(Nat→Bool)→Nat→(Nat→Int)→(Nat→Bool)→Nat:=fun _ _ _ _ _=>0
def wCheck_ob (k:Nat) (l:List Lf):Prop:=∀ (kv:Kv) (iv0:Nat→Int) (bv0:Nat→Bool),InB wCheck.B iv0→FT (sta FI FB kv iv0 bv0) (dlt dyn0) wCheck.F→∀ (iv:Nat→Int) (bv:Nat→Bool),Agr 1 iv0 bv0 iv bv→wCheck_inv iv0 bv0 k iv bv→∀ lf∈l,LfT (sta FI FB kv) wCheck.os (wCheck_inv iv0 bv0) (wCheck_mu iv0 bv0) k iv bv lf
theorem wCheck_o0:wCheck_ob 0 wCheck_L0:=by
 intro kv iv0 bv0 hin hF iv bv ha hi
 unfold wCheck_L0
 refine List.forall_mem_cons.2 ⟨?_,List.forall_mem_cons.2 ⟨?_,List.forall_mem_nil _⟩⟩
 all_goals
  intro δ hf
 all_goals
  have a0:=ha.1 0 (by omega)
 all_goals
  simp only [FT,TP,SB.tp,SI.tv,sta,IB.eval,and_true,true_and,ObsT,Ob.Tv,rowT,kix,In.tiv,↓tbvT,In.tbv,get_cons,get_nil,reduceIte,Nat.reduceEqDiff,Int.reduceToNat,Int.reduceAdd,Int.reduceSub,Int.reduceLE,Int.reduceLT,Int.reduceEq,ne_eq,Bool.false_eq_true,not_true_eq_false,not_false_eq_true,true_iff,false_iff,iff_true,iff_false,false_implies,implies_true,decT,decide_true,decide_false,Bool.decide_eq_true,ap2,pb2,FI_3,FI_3g,FI_4,FI_8,FI_8m,FI_9,FI_8c,FI_8z,FI_200,FB_0,FB_2,Int.toNat_natCast,Int.toNat_zero,FB_30,wCheck_inv,wCheck_mu,wCheck,o1,othT,o1,flF,fH,lH,apN,pbN,apM,pbM,oMo,rowV,zeroV,i64b,SI.fl,flay,flayL,lW,mayV,ints,i64s,lmap,a0] at hf hi ⊢
 all_goals
  (repeat' (with_reducible apply And.intro))<;>first
  | omega
  | assumption
  | (unfold inM;omega)
  | exact fun _ h=>h hf.1
  | exact fun _ h=>hf.1 h
theorem wCheck_c:LsC ((tm0 wCheck Tryz.f206 (Tryz.f206.body.getD .skip))::[]) wCheck.os [wCheck_L0]:=by
 unfold wCheck_L0
 exact ⟨List.forall_mem_cons.2 ⟨⟨⟨_,rfl,rfl⟩,by kernel_rfl⟩,List.forall_mem_cons.2 ⟨⟨⟨_,rfl,rfl⟩,by kernel_rfl⟩,List.forall_mem_nil _⟩⟩,trivial⟩
theorem wCheck_ok:wCheck.Ok Tryz.prog FI FB:=
 Con.of_plain (body:=Tryz.f206.body.getD .skip) pok fiok (EntsFor.cons wRight_ok EntsFor.nil) wCheck Tryz.func206 (by kernel_rfl) 1 [] (by kernel_rfl) [wCheck_L0] ⟨wCheck_h0,trivial⟩ wCheck_c
  wCheck_inv wCheck_mu (fun _ _ _=>trivial) fun kv iv0 bv0 hin hF k l iv bv hk ha hi=>match k,hk,hi with
  | 0,hk,hi=>by
    cases hk
    exact wCheck_o0 kv iv0 bv0 hin hF iv bv ha hi
  | k+1,hk,_=>by simp at hk
end
end Go.Sx.Tk
