/- The pool: the document's answers. -/
import Derived.Test.YtbcbpicfnfkdeaaPkO
namespace Go.Sx.Pk
set_option linter.unusedVariables false
set_option linter.unusedSimpArgs false
set_option maxRecDepth 100000
set_option maxHeartbeats 0
noncomputable section
open Go Go.Sx Go.Proofs
def wP (i:Nat):SV:=.ag [.it .i64 (.v i),.fs 2 (.v (i+1))]
def pk0:SV:=.ag [.it .i64 (.c 0),.it .i64 (.c 0),.fs 0 (.c 0)]
def pkAt (c j:SI):SV:=.ag [.it .i64 (.ap 3 c j (.c 0) (.c 0) (.c 0) (.c 0)),.it .i64 (.ap 3 c j (.c 1) (.c 0) (.c 0) (.c 0)),.fs 0 (.ap 8 c j (.c 2) (.c 0) (.c 10) (.c 0))]
def mayO (k:SI):List Out:=o1 (.it .i64 (.ap 20 (.v 0) (.v 2) (.v 3) (SI.fl (.v 4)) k (.c 0)))
def cMay:Con:=⟨41,[0,1,2,3,4],[wP 0,pkV 2],[],i64s [2,3,0],[],mayO (SI.fl (.v 1)),[]⟩
def cMayO:Con:=⟨41,[0,1,2,3,4,5,6],[.ag [.it .i64 (.v 0),.sl (.k 0) (.v 5) (.v 1) (.v 6)],pkV 2],[],i64s [2,3,0],[],mayO (.v 1),[]⟩
def cRTake:Con:=⟨30,[0,1,2],[wP 0,.it .i64 (.v 2)],[],i64s [0,2],[flF 1 4096],[
 ⟨[(.le (.c 0) (.v 2),true),(.lt (.v 2) (SI.fl (.v 1)),true)],.tp [.ag [.it .i64 (.v 0),.fs 2 (.ap 26 (.v 1) (.v 2) (.c 0) (.c 0) (.c 0) (.c 0))],pkAt (.v 1) (.v 2),.it .i64 (.c 0)],[],0,0,[]⟩,
 ⟨[((.and (.le (.c 0) (.v 2)) (.lt (.v 2) (SI.fl (.v 1)))),false)],.tp [wP 0,pk0,.it .i64 (.c 4)],[],0,0,[]⟩],[29]⟩
def cRDbl:Con:=⟨31,[0,1,2],[wP 0,.it .i64 (.v 2)],[],i64s [0,2],[flF 1 4096],[
 ⟨[(.le (.c 0) (.v 2),true),(.lt (.v 2) (SI.fl (.v 1)),true),(.lt (SI.fl (.v 1)) (.c 4096),true)],.tp [.ag [.it .i64 (.v 0),.fs 2 (.ap 27 (.v 1) (.v 2) (.c 0) (.c 0) (.c 0) (.c 0))],.it .i64 (.c 0)],[],0,0,[]⟩,
 ⟨[(.le (.c 0) (.v 2),true),(.lt (.v 2) (SI.fl (.v 1)),true),(.lt (SI.fl (.v 1)) (.c 4096),false)],.tp [wP 0,.it .i64 (.c 200)],[],0,0,[]⟩,
 ⟨[((.and (.le (.c 0) (.v 2)) (.lt (.v 2) (SI.fl (.v 1)))),false)],.tp [wP 0,.it .i64 (.c 4)],[],0,0,[]⟩],[29]⟩
def cRPut:Con:=⟨29,[0,1,2],[wP 0,.fs 2 (.v 2)],[],i64s [0],[flF 1 4096],o1 (.tp [.ag [.it .i64 (.v 0),.fs 2 (.ap 25 (.v 0) (.v 1) (.v 2) (.c 0) (.c 0) (.c 0))],.it .i64 (.ap 21 (.v 0) (SI.fl (.v 1)) (.v 2) (.c 0) (.c 0) (.c 0))]),[29]⟩
def cMay_L0:List Lf:=
 let x0_:SI:=(.ap 200 (.v 4) (.c 0) (.c 0) (.c 0) (.c 0) (.c 0))
 let x1_:SI:=(.ap 200 (.v 1) (.c 0) (.c 0) (.c 0) (.c 0) (.c 0))
 let f0_:List (SB×Bool):=[((.le (.v 0) (.v 2)),.false),((.lt (.v 2) (.c 0)),.false)]
 let f1_:List (SB×Bool):=((.lt (.v 3) (.c 0)),.false)::f0_
 let f2_:List (SB×Bool):=((.le (.v 0) (.v 3)),.false)::f1_
 let f3_:List (SB×Bool):=((.eq (.v 2) (.v 3)),.false)::f2_
 let f4_:List (SB×Bool):=((.lt (.c 65536) x0_),.false)::f3_
 [(.fin ([((.lt (.v 2) (.c 0)),.true)]) 0 ⟨⟨[],[]⟩,[],[],[]⟩ [(.ei (.ap 20 (.v 0) (.v 2) (.v 3) x0_ x1_ (.c 0)) (.c 2))] []),
  (.fin ([((.le (.v 0) (.v 2)),.true),((.lt (.v 2) (.c 0)),.false)]) 0 ⟨⟨[],[]⟩,[],[],[]⟩ [(.ei (.ap 20 (.v 0) (.v 2) (.v 3) x0_ x1_ (.c 0)) (.c 2))] []),
  (.fin (((.lt (.v 3) (.c 0)),.true)::f0_) 0 ⟨⟨[],[]⟩,[],[],[]⟩ [(.ei (.ap 20 (.v 0) (.v 2) (.v 3) x0_ x1_ (.c 0)) (.c 2))] []),
  (.fin (((.le (.v 0) (.v 3)),.true)::f1_) 0 ⟨⟨[],[]⟩,[],[],[]⟩ [(.ei (.ap 20 (.v 0) (.v 2) (.v 3) x0_ x1_ (.c 0)) (.c 2))] []),
  (.fin (((.eq (.v 2) (.v 3)),.true)::f2_) 0 ⟨⟨[],[]⟩,[],[],[]⟩ [(.ei (.ap 20 (.v 0) (.v 2) (.v 3) x0_ x1_ (.c 0)) (.c 2))] []),
  (.fin (((.lt (.c 65536) x0_),.true)::f3_) 0 ⟨⟨[],[]⟩,[],[],[]⟩ [(.ei (.ap 20 (.v 0) (.v 2) (.v 3) x0_ x1_ (.c 0)) (.c 3))] []),
  (.fin (((.le (.c 4096) x1_),.true)::f4_) 0 ⟨⟨[],[]⟩,[],[],[]⟩ [(.ei (.ap 20 (.v 0) (.v 2) (.v 3) x0_ x1_ (.c 0)) (.c 200))] []),
  (.fin (((.le (.c 4096) x1_),.false)::f4_) 0 ⟨⟨[],[]⟩,[],[],[]⟩ [(.ei (.ap 20 (.v 0) (.v 2) (.v 3) x0_ x1_ (.c 0)) (.c 0))] [])]
def cMay_run (T:Tm):=(ex (ccOf Try.prog BF [] cMay) ((fun _=>[]) (ccOf Try.prog BF [] cMay)) (dw (ccOf Try.prog BF [] cMay) ((fun _=>[]) (ccOf Try.prog BF [] cMay)) 1000 4) (stopX [0,1,2,3,4,5,6,7,8,9,10,11,12,13,14,15,16,17,18,19,20,21,22,23,24,25,26,27,28,29,30,31,32,33,34,35,36,37,38,39,40,41,42,43,44,45,46,47,48,49,50,51,52,53,54,55,56,57,58,59,60,61,62,63,64,65,66,67,68,69,70,71,72,73,74,75,76,77,78,79,80,81,82,83,84,85,86,87,88,89,90,91,92,93,94,95,96,97,98,99,100,101,102,103,104,105,106,107,108,109,110,111,112,113,114,115,116,117,118,119,120,121,122,123,124,125,126,127,128,129,130,131,132,133,134,135,136,137,138,139,140,141,142,143,144,145,146,147,148,149,150,151,152,153,154,155,156,157,158,159,160,161,162,163,164,165,166,167,168,169,170,171,172,173,174,175,176,177,178,179,180,181,182,183,184,185,186,187,188,189,190,191,192,193,194,195,196,197,198,199,200,201,202,203,204,205,206,207,208,209,210,211,212,213,214,215,216,217,218,219,220,221,222,223,224,225,226,227,228,229,230,231,232,233,234,235,236,237,238,239,240,241,242,243,244,245,246,247,248,249]) 4000 T.f T.fs T.H).lfs (ccOf Try.prog BF [] cMay) ((tm0 cMay Try.f41 (Try.f41.body.getD .skip))::[]) cMay.os
theorem cMay_h0:cMay_run (tm0 cMay Try.f41 (Try.f41.body.getD .skip))=some cMay_L0:=by kernel_rfl
def cMay_inv:(Nat→Int)→(Nat→Bool)→Nat→(Nat→Int)→(Nat→Bool)→Prop:=fun _ _ _ _ _=>True
def cMay_mu:(Nat→Int)→(Nat→Bool)→Nat→(Nat→Int)→(Nat→Bool)→Nat:=fun _ _ _ _ _=>0
theorem cMay_b {iv0:Nat→Int} (hin:InB cMay.B iv0):((-9223372036854775808)≤iv0 0∧iv0 0≤9223372036854775807)∧((-9223372036854775808)≤iv0 2∧iv0 2≤9223372036854775807)∧((-9223372036854775808)≤iv0 3∧iv0 3≤9223372036854775807):=by
 have b0:=hin 0 (-9223372036854775808) 9223372036854775807 (by simp [cMay,o1,i64b,kP,pkV,flF,i64s,lmap,SI.fl,flay,flayL,wP,pk0,pkAt,mayO,i64b])
 simp only [Int.reduceLE,reduceIte,Int.reduceNeg] at b0
 have b2:=hin 2 (-9223372036854775808) 9223372036854775807 (by simp [cMay,o1,i64b,kP,pkV,flF,i64s,lmap,SI.fl,flay,flayL,wP,pk0,pkAt,mayO,i64b])
 simp only [Int.reduceLE,reduceIte,Int.reduceNeg] at b2
 have b3:=hin 3 (-9223372036854775808) 9223372036854775807 (by simp [cMay,o1,i64b,kP,pkV,flF,i64s,lmap,SI.fl,flay,flayL,wP,pk0,pkAt,mayO,i64b])
 simp only [Int.reduceLE,reduceIte,Int.reduceNeg] at b3
 exact ⟨b0,b2,b3⟩
def cMay_ob (k:Nat) (l:List Lf):Prop:=∀ (kv:Kv) (iv0:Nat→Int) (bv0:Nat→Bool),InB cMay.B iv0→FT (sta FI FB kv iv0 bv0) (dlt dyn0) cMay.F→∀ (iv:Nat→Int) (bv:Nat→Bool),Agr 5 iv0 bv0 iv bv→cMay_inv iv0 bv0 k iv bv→∀ lf∈l,LfT (sta FI FB kv) cMay.os (cMay_inv iv0 bv0) (cMay_mu iv0 bv0) k iv bv lf
theorem cMay_o0:cMay_ob 0 cMay_L0:=by
 intro kv iv0 bv0 hin hF iv bv ha hi
 unfold cMay_L0
 refine List.forall_mem_cons.2 ⟨?_,List.forall_mem_cons.2 ⟨?_,List.forall_mem_cons.2 ⟨?_,List.forall_mem_cons.2 ⟨?_,List.forall_mem_cons.2 ⟨?_,List.forall_mem_cons.2 ⟨?_,List.forall_mem_cons.2 ⟨?_,List.forall_mem_cons.2 ⟨?_,List.forall_mem_nil _⟩⟩⟩⟩⟩⟩⟩⟩
 all_goals
  intro δ hf
 all_goals
  obtain ⟨b0,b2,b3⟩:=cMay_b hin
 all_goals
  have a0:=ha.1 0 (by omega)
  have a1:=ha.1 1 (by omega)
  have a2:=ha.1 2 (by omega)
  have a3:=ha.1 3 (by omega)
  have a4:=ha.1 4 (by omega)
 all_goals
  simp only [FT,TP,SB.tp,SI.tv,sta,IB.eval,and_true,true_and,ObsT,Ob.Tv,rowT,kix,In.tiv,↓tbvT,In.tbv,get_cons,get_nil,reduceIte,Nat.reduceEqDiff,Int.reduceToNat,Int.reduceAdd,Int.reduceSub,Int.reduceLE,Int.reduceLT,Int.reduceEq,ne_eq,Bool.false_eq_true,not_true_eq_false,not_false_eq_true,true_iff,false_iff,iff_true,iff_false,false_implies,implies_true,decT,decide_true,decide_false,Bool.decide_eq_true,ap2,pb2,FI_3,FI_4,FI_8,FI_9,FI_8c,FI_8z,FI_200,FB_2,Int.toNat_natCast,Int.toNat_zero,FI_20,cMay_inv,cMay_mu,cMay,o1,othT,o1,i64b,kP,pkV,flF,i64s,lmap,SI.fl,flay,flayL,wP,pk0,pkAt,mayO,i64b,a0,a1,a2,a3,a4] at hf hi ⊢
 all_goals
  unfold mayN
 all_goals
  (repeat' (with_reducible apply And.intro))<;>first
  | omega
  | assumption
  | (unfold inM;omega)
  | exact trivial
  | (repeat (first | split | omega))
  | (clear hin hF ha;grind)
theorem cMay_c:LsC ((tm0 cMay Try.f41 (Try.f41.body.getD .skip))::[]) cMay.os [cMay_L0]:=by
 unfold cMay_L0
 exact ⟨List.forall_mem_cons.2 ⟨⟨⟨_,rfl,rfl⟩,by kernel_rfl⟩,List.forall_mem_cons.2 ⟨⟨⟨_,rfl,rfl⟩,by kernel_rfl⟩,List.forall_mem_cons.2 ⟨⟨⟨_,rfl,rfl⟩,by kernel_rfl⟩,List.forall_mem_cons.2 ⟨⟨⟨_,rfl,rfl⟩,by kernel_rfl⟩,List.forall_mem_cons.2 ⟨⟨⟨_,rfl,rfl⟩,by kernel_rfl⟩,List.forall_mem_cons.2 ⟨⟨⟨_,rfl,rfl⟩,by kernel_rfl⟩,List.forall_mem_cons.2 ⟨⟨⟨_,rfl,rfl⟩,by kernel_rfl⟩,List.forall_mem_cons.2 ⟨⟨⟨_,rfl,rfl⟩,by kernel_rfl⟩,List.forall_mem_nil _⟩⟩⟩⟩⟩⟩⟩⟩,trivial⟩
theorem cMay_ok:cMay.Ok Try.prog FI FB:=
 Con.of_plain (body:=Try.f41.body.getD .skip) pok fiok EntsFor.nil cMay Try.func41 (by kernel_rfl) 5 [] (by kernel_rfl) [cMay_L0] ⟨cMay_h0,trivial⟩ cMay_c
  cMay_inv cMay_mu (fun _ _ _=>trivial) fun kv iv0 bv0 hin hF k l iv bv hk ha hi=>match k,hk,hi with
  | 0,hk,hi=>by
    cases hk
    exact cMay_o0 kv iv0 bv0 hin hF iv bv ha hi
  | k+1,hk,_=>by simp at hk
def cMayO_L0:List Lf:=
 let x0_:SI:=(.ap 200 (.v 4) (.c 0) (.c 0) (.c 0) (.c 0) (.c 0))
 let f0_:List (SB×Bool):=[((.le (.v 0) (.v 2)),.false),((.lt (.v 2) (.c 0)),.false)]
 let f1_:List (SB×Bool):=((.lt (.v 3) (.c 0)),.false)::f0_
 let f2_:List (SB×Bool):=((.le (.v 0) (.v 3)),.false)::f1_
 let f3_:List (SB×Bool):=((.eq (.v 2) (.v 3)),.false)::f2_
 let f4_:List (SB×Bool):=((.lt (.c 65536) x0_),.false)::f3_
 [(.fin ([((.lt (.v 2) (.c 0)),.true)]) 0 ⟨⟨[],[]⟩,[],[],[]⟩ [(.ei (.ap 20 (.v 0) (.v 2) (.v 3) x0_ (.v 1) (.c 0)) (.c 2))] []),
  (.fin ([((.le (.v 0) (.v 2)),.true),((.lt (.v 2) (.c 0)),.false)]) 0 ⟨⟨[],[]⟩,[],[],[]⟩ [(.ei (.ap 20 (.v 0) (.v 2) (.v 3) x0_ (.v 1) (.c 0)) (.c 2))] []),
  (.fin (((.lt (.v 3) (.c 0)),.true)::f0_) 0 ⟨⟨[],[]⟩,[],[],[]⟩ [(.ei (.ap 20 (.v 0) (.v 2) (.v 3) x0_ (.v 1) (.c 0)) (.c 2))] []),
  (.fin (((.le (.v 0) (.v 3)),.true)::f1_) 0 ⟨⟨[],[]⟩,[],[],[]⟩ [(.ei (.ap 20 (.v 0) (.v 2) (.v 3) x0_ (.v 1) (.c 0)) (.c 2))] []),
  (.fin (((.eq (.v 2) (.v 3)),.true)::f2_) 0 ⟨⟨[],[]⟩,[],[],[]⟩ [(.ei (.ap 20 (.v 0) (.v 2) (.v 3) x0_ (.v 1) (.c 0)) (.c 2))] []),
  (.fin (((.lt (.c 65536) x0_),.true)::f3_) 0 ⟨⟨[],[]⟩,[],[],[]⟩ [(.ei (.ap 20 (.v 0) (.v 2) (.v 3) x0_ (.v 1) (.c 0)) (.c 3))] []),
  (.fin (((.le (.c 4096) (.v 1)),.true)::f4_) 0 ⟨⟨[],[]⟩,[],[],[]⟩ [(.ei (.ap 20 (.v 0) (.v 2) (.v 3) x0_ (.v 1) (.c 0)) (.c 200))] []),
  (.fin (((.le (.c 4096) (.v 1)),.false)::f4_) 0 ⟨⟨[],[]⟩,[],[],[]⟩ [(.ei (.ap 20 (.v 0) (.v 2) (.v 3) x0_ (.v 1) (.c 0)) (.c 0))] [])]
def cMayO_run (T:Tm):=(ex (ccOf Try.prog BF [] cMayO) ((fun _=>[]) (ccOf Try.prog BF [] cMayO)) (dw (ccOf Try.prog BF [] cMayO) ((fun _=>[]) (ccOf Try.prog BF [] cMayO)) 1000 4) (stopX [0,1,2,3,4,5,6,7,8,9,10,11,12,13,14,15,16,17,18,19,20,21,22,23,24,25,26,27,28,29,30,31,32,33,34,35,36,37,38,39,40,41,42,43,44,45,46,47,48,49,50,51,52,53,54,55,56,57,58,59,60,61,62,63,64,65,66,67,68,69,70,71,72,73,74,75,76,77,78,79,80,81,82,83,84,85,86,87,88,89,90,91,92,93,94,95,96,97,98,99,100,101,102,103,104,105,106,107,108,109,110,111,112,113,114,115,116,117,118,119,120,121,122,123,124,125,126,127,128,129,130,131,132,133,134,135,136,137,138,139,140,141,142,143,144,145,146,147,148,149,150,151,152,153,154,155,156,157,158,159,160,161,162,163,164,165,166,167,168,169,170,171,172,173,174,175,176,177,178,179,180,181,182,183,184,185,186,187,188,189,190,191,192,193,194,195,196,197,198,199,200,201,202,203,204,205,206,207,208,209,210,211,212,213,214,215,216,217,218,219,220,221,222,223,224,225,226,227,228,229,230,231,232,233,234,235,236,237,238,239,240,241,242,243,244,245,246,247,248,249]) 4000 T.f T.fs T.H).lfs (ccOf Try.prog BF [] cMayO) ((tm0 cMayO Try.f41 (Try.f41.body.getD .skip))::[]) cMayO.os
theorem cMayO_h0:cMayO_run (tm0 cMayO Try.f41 (Try.f41.body.getD .skip))=some cMayO_L0:=by kernel_rfl
def cMayO_inv:(Nat→Int)→(Nat→Bool)→Nat→(Nat→Int)→(Nat→Bool)→Prop:=fun _ _ _ _ _=>True
def cMayO_mu:(Nat→Int)→(Nat→Bool)→Nat→(Nat→Int)→(Nat→Bool)→Nat:=fun _ _ _ _ _=>0
theorem cMayO_b {iv0:Nat→Int} (hin:InB cMayO.B iv0):((-9223372036854775808)≤iv0 0∧iv0 0≤9223372036854775807)∧((-9223372036854775808)≤iv0 2∧iv0 2≤9223372036854775807)∧((-9223372036854775808)≤iv0 3∧iv0 3≤9223372036854775807):=by
 have b0:=hin 0 (-9223372036854775808) 9223372036854775807 (by simp [cMayO,o1,i64b,kP,pkV,flF,i64s,lmap,SI.fl,flay,flayL,wP,pk0,pkAt,mayO,i64b])
 simp only [Int.reduceLE,reduceIte,Int.reduceNeg] at b0
 have b2:=hin 2 (-9223372036854775808) 9223372036854775807 (by simp [cMayO,o1,i64b,kP,pkV,flF,i64s,lmap,SI.fl,flay,flayL,wP,pk0,pkAt,mayO,i64b])
 simp only [Int.reduceLE,reduceIte,Int.reduceNeg] at b2
 have b3:=hin 3 (-9223372036854775808) 9223372036854775807 (by simp [cMayO,o1,i64b,kP,pkV,flF,i64s,lmap,SI.fl,flay,flayL,wP,pk0,pkAt,mayO,i64b])
 simp only [Int.reduceLE,reduceIte,Int.reduceNeg] at b3
 exact ⟨b0,b2,b3⟩
def cMayO_ob (k:Nat) (l:List Lf):Prop:=∀ (kv:Kv) (iv0:Nat→Int) (bv0:Nat→Bool),InB cMayO.B iv0→FT (sta FI FB kv iv0 bv0) (dlt dyn0) cMayO.F→∀ (iv:Nat→Int) (bv:Nat→Bool),Agr 7 iv0 bv0 iv bv→cMayO_inv iv0 bv0 k iv bv→∀ lf∈l,LfT (sta FI FB kv) cMayO.os (cMayO_inv iv0 bv0) (cMayO_mu iv0 bv0) k iv bv lf
theorem cMayO_o0:cMayO_ob 0 cMayO_L0:=by
 intro kv iv0 bv0 hin hF iv bv ha hi
 unfold cMayO_L0
 refine List.forall_mem_cons.2 ⟨?_,List.forall_mem_cons.2 ⟨?_,List.forall_mem_cons.2 ⟨?_,List.forall_mem_cons.2 ⟨?_,List.forall_mem_cons.2 ⟨?_,List.forall_mem_cons.2 ⟨?_,List.forall_mem_cons.2 ⟨?_,List.forall_mem_cons.2 ⟨?_,List.forall_mem_nil _⟩⟩⟩⟩⟩⟩⟩⟩
 all_goals
  intro δ hf
 all_goals
  obtain ⟨b0,b2,b3⟩:=cMayO_b hin
 all_goals
  have a0:=ha.1 0 (by omega)
  have a1:=ha.1 1 (by omega)
  have a2:=ha.1 2 (by omega)
  have a3:=ha.1 3 (by omega)
  have a4:=ha.1 4 (by omega)
  have a5:=ha.1 5 (by omega)
  have a6:=ha.1 6 (by omega)
 all_goals
  simp only [FT,TP,SB.tp,SI.tv,sta,IB.eval,and_true,true_and,ObsT,Ob.Tv,rowT,kix,In.tiv,↓tbvT,In.tbv,get_cons,get_nil,reduceIte,Nat.reduceEqDiff,Int.reduceToNat,Int.reduceAdd,Int.reduceSub,Int.reduceLE,Int.reduceLT,Int.reduceEq,ne_eq,Bool.false_eq_true,not_true_eq_false,not_false_eq_true,true_iff,false_iff,iff_true,iff_false,false_implies,implies_true,decT,decide_true,decide_false,Bool.decide_eq_true,ap2,pb2,FI_3,FI_4,FI_8,FI_9,FI_8c,FI_8z,FI_200,FB_2,Int.toNat_natCast,Int.toNat_zero,FI_20,cMayO_inv,cMayO_mu,cMayO,o1,othT,o1,i64b,kP,pkV,flF,i64s,lmap,SI.fl,flay,flayL,wP,pk0,pkAt,mayO,i64b,a0,a1,a2,a3,a4,a5,a6] at hf hi ⊢
 all_goals
  unfold mayN
 all_goals
  (repeat' (with_reducible apply And.intro))<;>first
  | omega
  | assumption
  | (unfold inM;omega)
  | exact trivial
  | (repeat (first | split | omega))
  | (clear hin hF ha;grind)
theorem cMayO_c:LsC ((tm0 cMayO Try.f41 (Try.f41.body.getD .skip))::[]) cMayO.os [cMayO_L0]:=by
 unfold cMayO_L0
 exact ⟨List.forall_mem_cons.2 ⟨⟨⟨_,rfl,rfl⟩,by kernel_rfl⟩,List.forall_mem_cons.2 ⟨⟨⟨_,rfl,rfl⟩,by kernel_rfl⟩,List.forall_mem_cons.2 ⟨⟨⟨_,rfl,rfl⟩,by kernel_rfl⟩,List.forall_mem_cons.2 ⟨⟨⟨_,rfl,rfl⟩,by kernel_rfl⟩,List.forall_mem_cons.2 ⟨⟨⟨_,rfl,rfl⟩,by kernel_rfl⟩,List.forall_mem_cons.2 ⟨⟨⟨_,rfl,rfl⟩,by kernel_rfl⟩,List.forall_mem_cons.2 ⟨⟨⟨_,rfl,rfl⟩,by kernel_rfl⟩,List.forall_mem_cons.2 ⟨⟨⟨_,rfl,rfl⟩,by kernel_rfl⟩,List.forall_mem_nil _⟩⟩⟩⟩⟩⟩⟩⟩,trivial⟩
theorem cMayO_ok:cMayO.Ok Try.prog FI FB:=
 Con.of_plain (body:=Try.f41.body.getD .skip) pok fiok EntsFor.nil cMayO Try.func41 (by kernel_rfl) 7 [] (by kernel_rfl) [cMayO_L0] ⟨cMayO_h0,trivial⟩ cMayO_c
  cMayO_inv cMayO_mu (fun _ _ _=>trivial) fun kv iv0 bv0 hin hF k l iv bv hk ha hi=>match k,hk,hi with
  | 0,hk,hi=>by
    cases hk
    exact cMayO_o0 kv iv0 bv0 hin hF iv bv ha hi
  | k+1,hk,_=>by simp at hk
def cRTake_L0:List Lf:=
 let x0_:SI:=(.wk .i64 (.op .add (.v 2) (.c 1)))
 let x1_:SI:=(.ap 200 (.v 1) (.c 0) (.c 0) (.c 0) (.c 0) (.c 0))
 let x2_:SI:=(.ap 200 (.c 0) (.c 0) (.c 0) (.c 0) (.c 0) (.c 0))
 let x3_:SI:=(.op .sub x1_ x0_)
 let x4_:SI:=(.op .add (.v 2) x3_)
 let x5_:SI:=(.ap 9 (.ap 8 (.v 1) (.v 2) (.c 0) (.c 0) (.c 11) (.c 0)) (.v 2) (.ap 8 (.ap 9 (.c 0) (.c 0) (.v 1) x0_ x3_ (.c 0)) x3_ (.c 0) (.c 0) (.c 11) (.c 0)) (.c 0) x3_ (.c 0))
 let x6_:SI:=(.ap 8 x5_ x4_ (.c 0) (.c 0) (.c 11) (.c 0))
 let f0_:List (SB×Bool):=[((.le (.c 0) (.v 2)),.true),((.le x1_ (.c 4096)),.true)]
 let f1_:List (SB×Bool):=((.lt (.v 2) x1_),.true)::f0_
 let f2_:List (SB×Bool):=((.le (.c 0) x0_),.true)::f1_
 let f3_:List (SB×Bool):=((.le x0_ x1_),.true)::f2_
 [(.fin (((.le x4_ (.d 1)),.true)::((.le (.v 2) (.d 0)),.true)::((.le x4_ (.c 16777216)),.true)::f3_) 0 ⟨⟨[],[]⟩,[],[],[]⟩ [(.fa (.eq (.ap 200 (.ap 26 (.v 1) (.v 2) (.c 0) (.c 0) (.c 0) (.c 0)) (.c 0) (.c 0) (.c 0) (.c 0) (.c 0)) (.ap 200 x6_ (.c 0) (.c 0) (.c 0) (.c 0) (.c 0))) .true),(.ar [(.nt .i64),(.nt .i64),(.fs 0)] (.ap 26 (.v 1) (.v 2) (.c 0) (.c 0) (.c 0) (.c 0)) (.ap 8 x5_ x4_ (.c 0) (.c 0) (.c 11) (.c 0)) (.ap 200 x6_ (.c 0) (.c 0) (.c 0) (.c 0) (.c 0)))] []),
  (.bad (((.le x4_ (.c 16777216)),.false)::f3_)),
  (.bad (((.le x0_ x1_),.false)::f2_)),
  (.bad (((.le (.c 0) x0_),.false)::f1_)),
  (.fin (((.lt (.v 2) x1_),.false)::f0_) 1 ⟨⟨[],[]⟩,[],[],[]⟩ [(.fa (.eq x2_ (.c 0)) .true)] []),
  (.fin ([((.le (.c 0) (.v 2)),.false),((.le x1_ (.c 4096)),.true)]) 1 ⟨⟨[],[]⟩,[],[],[]⟩ [(.fa (.eq x2_ (.c 0)) .true)] [])]
def cRTake_run (T:Tm):=(ex (ccOf Try.prog BF [] cRTake) ((fun _=>[]) (ccOf Try.prog BF [] cRTake)) (dw (ccOf Try.prog BF [] cRTake) ((fun _=>[]) (ccOf Try.prog BF [] cRTake)) 1000 4) (stopX [0,1,2,3,4,5,6,7,8,9,10,11,12,13,14,15,16,17,18,19,20,21,22,23,24,25,26,27,28,29,30,31,32,33,34,35,36,37,38,39,40,41,42,43,44,45,46,47,48,49,50,51,52,53,54,55,56,57,58,59,60,61,62,63,64,65,66,67,68,69,70,71,72,73,74,75,76,77,78,79,80,81,82,83,84,85,86,87,88,89,90,91,92,93,94,95,96,97,98,99,100,101,102,103,104,105,106,107,108,109,110,111,112,113,114,115,116,117,118,119,120,121,122,123,124,125,126,127,128,129,130,131,132,133,134,135,136,137,138,139,140,141,142,143,144,145,146,147,148,149,150,151,152,153,154,155,156,157,158,159,160,161,162,163,164,165,166,167,168,169,170,171,172,173,174,175,176,177,178,179,180,181,182,183,184,185,186,187,188,189,190,191,192,193,194,195,196,197,198,199,200,201,202,203,204,205,206,207,208,209,210,211,212,213,214,215,216,217,218,219,220,221,222,223,224,225,226,227,228,229,230,231,232,233,234,235,236,237,238,239,240,241,242,243,244,245,246,247,248,249]) 4000 T.f T.fs T.H).lfs (ccOf Try.prog BF [] cRTake) ((tm0 cRTake Try.f30 (Try.f30.body.getD .skip))::[]) cRTake.os
theorem cRTake_h0:cRTake_run (tm0 cRTake Try.f30 (Try.f30.body.getD .skip))=some cRTake_L0:=by kernel_rfl
def cRTake_inv:(Nat→Int)→(Nat→Bool)→Nat→(Nat→Int)→(Nat→Bool)→Prop:=fun _ _ _ _ _=>True
def cRTake_mu:(Nat→Int)→(Nat→Bool)→Nat→(Nat→Int)→(Nat→Bool)→Nat:=fun _ _ _ _ _=>0
theorem cRTake_b {iv0:Nat→Int} (hin:InB cRTake.B iv0):((-9223372036854775808)≤iv0 0∧iv0 0≤9223372036854775807)∧((-9223372036854775808)≤iv0 2∧iv0 2≤9223372036854775807):=by
 have b0:=hin 0 (-9223372036854775808) 9223372036854775807 (by simp [cRTake,o1,i64b,kP,pkV,flF,i64s,lmap,SI.fl,flay,flayL,wP,pk0,pkAt,mayO,i64b])
 simp only [Int.reduceLE,reduceIte,Int.reduceNeg] at b0
 have b2:=hin 2 (-9223372036854775808) 9223372036854775807 (by simp [cRTake,o1,i64b,kP,pkV,flF,i64s,lmap,SI.fl,flay,flayL,wP,pk0,pkAt,mayO,i64b])
 simp only [Int.reduceLE,reduceIte,Int.reduceNeg] at b2
 exact ⟨b0,b2⟩
def cRTake_ob (k:Nat) (l:List Lf):Prop:=∀ (kv:Kv) (iv0:Nat→Int) (bv0:Nat→Bool),InB cRTake.B iv0→FT (sta FI FB kv iv0 bv0) (dlt dyn0) cRTake.F→∀ (iv:Nat→Int) (bv:Nat→Bool),Agr 3 iv0 bv0 iv bv→cRTake_inv iv0 bv0 k iv bv→∀ lf∈l,LfT (sta FI FB kv) cRTake.os (cRTake_inv iv0 bv0) (cRTake_mu iv0 bv0) k iv bv lf
theorem cRTake_o0:cRTake_ob 0 cRTake_L0:=by
 intro kv iv0 bv0 hin hF iv bv ha hi
 unfold cRTake_L0
 refine List.forall_mem_cons.2 ⟨?_,List.forall_mem_cons.2 ⟨?_,List.forall_mem_cons.2 ⟨?_,List.forall_mem_cons.2 ⟨?_,List.forall_mem_cons.2 ⟨?_,List.forall_mem_cons.2 ⟨?_,List.forall_mem_nil _⟩⟩⟩⟩⟩⟩
 all_goals
  intro δ hf
 all_goals
  obtain ⟨b0,b2⟩:=cRTake_b hin
 all_goals
  have a0:=ha.1 0 (by omega)
  have a1:=ha.1 1 (by omega)
  have a2:=ha.1 2 (by omega)
 all_goals
  simp only [FT,TP,SB.tp,SI.tv,sta,IB.eval,and_true,true_and,ObsT,Ob.Tv,rowT,kix,In.tiv,↓tbvT,In.tbv,get_cons,get_nil,reduceIte,Nat.reduceEqDiff,Int.reduceToNat,Int.reduceAdd,Int.reduceSub,Int.reduceLE,Int.reduceLT,Int.reduceEq,ne_eq,Bool.false_eq_true,not_true_eq_false,not_false_eq_true,true_iff,false_iff,iff_true,iff_false,false_implies,implies_true,decT,decide_true,decide_false,Bool.decide_eq_true,ap2,pb2,FI_3,FI_4,FI_8,FI_9,FI_8c,FI_8z,FI_200,FB_2,Int.toNat_natCast,Int.toNat_zero,FI_26,FB_26,cRTake_inv,cRTake_mu,cRTake,o1,othT,o1,i64b,kP,pkV,flF,i64s,lmap,SI.fl,flay,flayL,wP,pk0,pkAt,mayO,i64b,a0,a1,a2] at hf hi ⊢
 all_goals
  have n1:=flenC_nn (iv0 1)
 all_goals
  have z0:=flenC_zero
 all_goals
  have w1:0≤iv0 2→iv0 2 < flenC (iv0 1)→flenC (iv0 1)≤4096→IntKind.i64.wrap (iv0 2+1)=iv0 2+1:=fun _ _ _=>by rw [wrap_i64];omega
 all_goals
  have r0:=@rm_run (iv0 1) (iv0 2) (IntKind.i64.wrap (iv0 2+1))
 all_goals
  unfold sameW at r0
 all_goals
  (repeat' (with_reducible apply And.intro))<;>first
  | omega
  | assumption
  | (unfold inM;omega)
  | exact trivial
  | (clear hin hF ha;grind)
theorem cRTake_c:LsC ((tm0 cRTake Try.f30 (Try.f30.body.getD .skip))::[]) cRTake.os [cRTake_L0]:=by
 unfold cRTake_L0
 exact ⟨List.forall_mem_cons.2 ⟨⟨⟨_,rfl,rfl⟩,by kernel_rfl⟩,List.forall_mem_cons.2 ⟨trivial,List.forall_mem_cons.2 ⟨trivial,List.forall_mem_cons.2 ⟨trivial,List.forall_mem_cons.2 ⟨⟨⟨_,rfl,rfl⟩,by kernel_rfl⟩,List.forall_mem_cons.2 ⟨⟨⟨_,rfl,rfl⟩,by kernel_rfl⟩,List.forall_mem_nil _⟩⟩⟩⟩⟩⟩,trivial⟩
theorem cRTake_ok:cRTake.Ok Try.prog FI FB:=
 Con.of_plain (body:=Try.f30.body.getD .skip) pok fiok EntsFor.nil cRTake Try.func30 (by kernel_rfl) 3 [] (by kernel_rfl) [cRTake_L0] ⟨cRTake_h0,trivial⟩ cRTake_c
  cRTake_inv cRTake_mu (fun _ _ _=>trivial) fun kv iv0 bv0 hin hF k l iv bv hk ha hi=>match k,hk,hi with
  | 0,hk,hi=>by
    cases hk
    exact cRTake_o0 kv iv0 bv0 hin hF iv bv ha hi
  | k+1,hk,_=>by simp at hk
def cRDbl_L0:List Lf:=
 let x0_:SI:=(.ap 200 (.v 1) (.c 0) (.c 0) (.c 0) (.c 0) (.c 0))
 let x1_:SI:=(.op .add x0_ (.c 1))
 let x2_:SI:=(.ap 8 (.ap 8 (.ap 8 (.v 1) x0_ (.c 0) (.ap 3 (.v 1) (.v 2) (.c 0) (.c 0) (.c 0) (.c 0)) (.c 0) (.c 0)) x0_ (.c 1) (.ap 3 (.v 1) (.v 2) (.c 1) (.c 0) (.c 0) (.c 0)) (.c 0) (.c 0)) x0_ (.c 2) (.ap 8 (.v 1) (.v 2) (.c 2) (.c 0) (.c 10) (.c 0)) (.c 0) (.c 0))
 let x3_:SI:=(.ap 8 x2_ x1_ (.c 0) (.c 0) (.c 11) (.c 0))
 let f0_:List (SB×Bool):=[((.le (.c 0) (.v 2)),.true),((.le x0_ (.c 4096)),.true)]
 let f1_:List (SB×Bool):=((.lt (.v 2) x0_),.true)::f0_
 [(.fin (((.le (.c 4096) x0_),.true)::f1_) 1 ⟨⟨[],[]⟩,[],[],[]⟩ [] []),
  (.fin (((.le x1_ (.d 1)),.true)::((.le x0_ (.d 0)),.true)::((.le (.c 4096) x0_),.false)::f1_) 0 ⟨⟨[],[]⟩,[],[],[]⟩ [(.fa (.eq (.ap 200 (.ap 27 (.v 1) (.v 2) (.c 0) (.c 0) (.c 0) (.c 0)) (.c 0) (.c 0) (.c 0) (.c 0) (.c 0)) (.ap 200 x3_ (.c 0) (.c 0) (.c 0) (.c 0) (.c 0))) .true),(.ar [(.nt .i64),(.nt .i64),(.fs 0)] (.ap 27 (.v 1) (.v 2) (.c 0) (.c 0) (.c 0) (.c 0)) (.ap 8 x2_ x1_ (.c 0) (.c 0) (.c 11) (.c 0)) (.ap 200 x3_ (.c 0) (.c 0) (.c 0) (.c 0) (.c 0)))] []),
  (.fin (((.lt (.v 2) x0_),.false)::f0_) 2 ⟨⟨[],[]⟩,[],[],[]⟩ [] []),
  (.fin ([((.le (.c 0) (.v 2)),.false),((.le x0_ (.c 4096)),.true)]) 2 ⟨⟨[],[]⟩,[],[],[]⟩ [] [])]
def cRDbl_run (T:Tm):=(ex (ccOf Try.prog BF [] cRDbl) ((fun _=>[]) (ccOf Try.prog BF [] cRDbl)) (dw (ccOf Try.prog BF [] cRDbl) ((fun _=>[]) (ccOf Try.prog BF [] cRDbl)) 1000 4) (stopX [0,1,2,3,4,5,6,7,8,9,10,11,12,13,14,15,16,17,18,19,20,21,22,23,24,25,26,27,28,29,30,31,32,33,34,35,36,37,38,39,40,41,42,43,44,45,46,47,48,49,50,51,52,53,54,55,56,57,58,59,60,61,62,63,64,65,66,67,68,69,70,71,72,73,74,75,76,77,78,79,80,81,82,83,84,85,86,87,88,89,90,91,92,93,94,95,96,97,98,99,100,101,102,103,104,105,106,107,108,109,110,111,112,113,114,115,116,117,118,119,120,121,122,123,124,125,126,127,128,129,130,131,132,133,134,135,136,137,138,139,140,141,142,143,144,145,146,147,148,149,150,151,152,153,154,155,156,157,158,159,160,161,162,163,164,165,166,167,168,169,170,171,172,173,174,175,176,177,178,179,180,181,182,183,184,185,186,187,188,189,190,191,192,193,194,195,196,197,198,199,200,201,202,203,204,205,206,207,208,209,210,211,212,213,214,215,216,217,218,219,220,221,222,223,224,225,226,227,228,229,230,231,232,233,234,235,236,237,238,239,240,241,242,243,244,245,246,247,248,249]) 4000 T.f T.fs T.H).lfs (ccOf Try.prog BF [] cRDbl) ((tm0 cRDbl Try.f31 (Try.f31.body.getD .skip))::[]) cRDbl.os
theorem cRDbl_h0:cRDbl_run (tm0 cRDbl Try.f31 (Try.f31.body.getD .skip))=some cRDbl_L0:=by kernel_rfl
def cRDbl_inv:(Nat→Int)→(Nat→Bool)→Nat→(Nat→Int)→(Nat→Bool)→Prop:=fun _ _ _ _ _=>True
def cRDbl_mu:(Nat→Int)→(Nat→Bool)→Nat→(Nat→Int)→(Nat→Bool)→Nat:=fun _ _ _ _ _=>0
theorem cRDbl_b {iv0:Nat→Int} (hin:InB cRDbl.B iv0):((-9223372036854775808)≤iv0 0∧iv0 0≤9223372036854775807)∧((-9223372036854775808)≤iv0 2∧iv0 2≤9223372036854775807):=by
 have b0:=hin 0 (-9223372036854775808) 9223372036854775807 (by simp [cRDbl,o1,i64b,kP,pkV,flF,i64s,lmap,SI.fl,flay,flayL,wP,pk0,pkAt,mayO,i64b])
 simp only [Int.reduceLE,reduceIte,Int.reduceNeg] at b0
 have b2:=hin 2 (-9223372036854775808) 9223372036854775807 (by simp [cRDbl,o1,i64b,kP,pkV,flF,i64s,lmap,SI.fl,flay,flayL,wP,pk0,pkAt,mayO,i64b])
 simp only [Int.reduceLE,reduceIte,Int.reduceNeg] at b2
 exact ⟨b0,b2⟩
def cRDbl_ob (k:Nat) (l:List Lf):Prop:=∀ (kv:Kv) (iv0:Nat→Int) (bv0:Nat→Bool),InB cRDbl.B iv0→FT (sta FI FB kv iv0 bv0) (dlt dyn0) cRDbl.F→∀ (iv:Nat→Int) (bv:Nat→Bool),Agr 3 iv0 bv0 iv bv→cRDbl_inv iv0 bv0 k iv bv→∀ lf∈l,LfT (sta FI FB kv) cRDbl.os (cRDbl_inv iv0 bv0) (cRDbl_mu iv0 bv0) k iv bv lf
theorem cRDbl_o0:cRDbl_ob 0 cRDbl_L0:=by
 intro kv iv0 bv0 hin hF iv bv ha hi
 unfold cRDbl_L0
 refine List.forall_mem_cons.2 ⟨?_,List.forall_mem_cons.2 ⟨?_,List.forall_mem_cons.2 ⟨?_,List.forall_mem_cons.2 ⟨?_,List.forall_mem_nil _⟩⟩⟩⟩
 all_goals
  intro δ hf
 all_goals
  obtain ⟨b0,b2⟩:=cRDbl_b hin
 all_goals
  have a0:=ha.1 0 (by omega)
  have a1:=ha.1 1 (by omega)
  have a2:=ha.1 2 (by omega)
 all_goals
  simp only [FT,TP,SB.tp,SI.tv,sta,IB.eval,and_true,true_and,ObsT,Ob.Tv,rowT,kix,In.tiv,↓tbvT,In.tbv,get_cons,get_nil,reduceIte,Nat.reduceEqDiff,Int.reduceToNat,Int.reduceAdd,Int.reduceSub,Int.reduceLE,Int.reduceLT,Int.reduceEq,ne_eq,Bool.false_eq_true,not_true_eq_false,not_false_eq_true,true_iff,false_iff,iff_true,iff_false,false_implies,implies_true,decT,decide_true,decide_false,Bool.decide_eq_true,ap2,pb2,FI_3,FI_4,FI_8,FI_9,FI_8c,FI_8z,FI_200,FB_2,Int.toNat_natCast,Int.toNat_zero,FI_27,cRDbl_inv,cRDbl_mu,cRDbl,o1,othT,o1,i64b,kP,pkV,flF,i64s,lmap,SI.fl,flay,flayL,wP,pk0,pkAt,mayO,i64b,a0,a1,a2] at hf hi ⊢
 all_goals
  have n1:=flenC_nn (iv0 1)
 all_goals
  have s0:=fun h=>relD_eq (@dblP_rel (iv0 1) (iv0 2) h) (relD_of h rfl rfl rfl)
 all_goals
  have z0:=flenC_zero
 all_goals
  unfold sameW at s0
 all_goals
  (repeat' (with_reducible apply And.intro))<;>first
  | omega
  | assumption
  | (unfold inM;omega)
  | exact trivial
  | (clear hin hF ha;grind)
theorem cRDbl_c:LsC ((tm0 cRDbl Try.f31 (Try.f31.body.getD .skip))::[]) cRDbl.os [cRDbl_L0]:=by
 unfold cRDbl_L0
 exact ⟨List.forall_mem_cons.2 ⟨⟨⟨_,rfl,rfl⟩,by kernel_rfl⟩,List.forall_mem_cons.2 ⟨⟨⟨_,rfl,rfl⟩,by kernel_rfl⟩,List.forall_mem_cons.2 ⟨⟨⟨_,rfl,rfl⟩,by kernel_rfl⟩,List.forall_mem_cons.2 ⟨⟨⟨_,rfl,rfl⟩,by kernel_rfl⟩,List.forall_mem_nil _⟩⟩⟩⟩,trivial⟩
theorem cRDbl_ok:cRDbl.Ok Try.prog FI FB:=
 Con.of_plain (body:=Try.f31.body.getD .skip) pok fiok EntsFor.nil cRDbl Try.func31 (by kernel_rfl) 3 [] (by kernel_rfl) [cRDbl_L0] ⟨cRDbl_h0,trivial⟩ cRDbl_c
  cRDbl_inv cRDbl_mu (fun _ _ _=>trivial) fun kv iv0 bv0 hin hF k l iv bv hk ha hi=>match k,hk,hi with
  | 0,hk,hi=>by
    cases hk
    exact cRDbl_o0 kv iv0 bv0 hin hF iv bv ha hi
  | k+1,hk,_=>by simp at hk
def cRPut_T1:Tm:=⟨⟨29,36,[(6,(.it .i64 (.c 0))),(4,(.pt (.n 1) (.c 0))),(2,(.pt (.n 0) (.c 0))),(1,(.fs 2 (.v 2)))],[(.code (atC Try.f29 [1,0,1,0,0])),(.inLoop (atC Try.f29 [1,0,1,0,0])),(.inBlock 0),(.code (atC Try.f29 [1,1]))],[],.none⟩,[],
    ⟨[(0,(.cells [(.it .i64 (.v 0)),(.fs 2 (.v 1))] 41)),(1,(.cells [(.it .i64 (.c 0)),.sn] 41))],2,0,0,[((.le (.ap 200 (.v 1) (.c 0) (.c 0) (.c 0) (.c 0) (.c 0)) (.c 4096)),.true)],[0],[(0,((-9223372036854775808),9223372036854775807))]⟩,[]⟩
def cRPut_T2:Tm:=⟨⟨29,36,[(6,(.it .i64 (.v 26))),(4,(.pt (.n 1) (.c 0))),(2,(.pt (.n 0) (.c 0))),(1,(.fs 2 (.v 2)))],[(.code (atC Try.f29 [1,0,1,0,0])),(.inLoop (atC Try.f29 [1,0,1,0,0])),(.inBlock 0),(.code (atC Try.f29 [1,1]))],[],.none⟩,[],
    ⟨[(0,(.cells [(.it .i64 (.v 0)),(.sl (.n 5) (.c 0) (.v 27) (.v 23))] 41)),(1,(.cells [(.it .i64 (.c 0)),.sn] 41)),(5,(.arr [(.nt .i64),(.nt .i64),(.fs 0)] (.v 28) (.v 27) 29 (.v 23)))],6,0,0,[((.eq (.ap 20 (.v 0) (.ap 3 (.v 2) (.c 0) (.c 0) (.c 0) (.c 0) (.c 0)) (.ap 3 (.v 2) (.c 0) (.c 1) (.c 0) (.c 0) (.c 0)) (.ap 200 (.ap 8 (.v 2) (.c 0) (.c 2) (.c 0) (.c 10) (.c 0)) (.c 0) (.c 0) (.c 0) (.c 0) (.c 0)) (.ap 200 (.v 1) (.c 0) (.c 0) (.c 0) (.c 0) (.c 0)) (.c 0)) (.c 0)),.true),((.lt (.c 0) (.ap 200 (.v 2) (.c 0) (.c 0) (.c 0) (.c 0) (.c 0))),.true),((.le (.ap 200 (.v 1) (.c 0) (.c 0) (.c 0) (.c 0) (.c 0)) (.c 4096)),.true),((.le (.v 27) (.v 23)),.true)],[0],[(27,(0,4611686018427387904)),(0,((-9223372036854775808),9223372036854775807)),(26,(1,0))]⟩,[26,27,28,23]⟩
def cRPut_L0:List Lf:=
 [(.cut ([((.le (.ap 200 (.v 1) (.c 0) (.c 0) (.c 0) (.c 0) (.c 0)) (.c 4096)),.true)]) 1 ⟨⟨[],[]⟩,[(0,0),(1,1)],[],[]⟩ [] (shT cRPut_T1 ⟨⟨[],[]⟩,[(0,0),(1,1)],[],[]⟩))]
def cRPut_L1:List Lf:=
 let x0_:SI:=(.ap 3 (.v 2) (.c 0) (.c 0) (.c 0) (.c 0) (.c 0))
 let x1_:SI:=(.ap 3 (.v 2) (.c 0) (.c 1) (.c 0) (.c 0) (.c 0))
 let x2_:SI:=(.ap 8 (.v 2) (.c 0) (.c 2) (.c 0) (.c 10) (.c 0))
 let x3_:SI:=(.ap 200 (.v 2) (.c 0) (.c 0) (.c 0) (.c 0) (.c 0))
 let x4_:SI:=(.ap 200 (.v 1) (.c 0) (.c 0) (.c 0) (.c 0) (.c 0))
 let x5_:SI:=(.ap 200 x2_ (.c 0) (.c 0) (.c 0) (.c 0) (.c 0))
 let x6_:SI:=(.ap 200 (.ap 25 (.v 0) (.v 1) (.v 2) (.c 0) (.c 0) (.c 0)) (.c 0) (.c 0) (.c 0) (.c 0) (.c 0))
 let x7_:SI:=(.ap 20 (.v 0) x0_ x1_ x5_ x4_ (.c 0))
 let f0_:List (SB×Bool):=[((.lt (.c 0) x3_),.true),((.le x4_ (.c 4096)),.true)]
 [(let i_:In:=⟨⟨[(28,(.ap 8 (.ap 8 (.ap 8 (.v 1) x4_ (.c 0) x0_ (.c 0) (.c 0)) x4_ (.c 1) x1_ (.c 0) (.c 0)) x4_ (.c 2) x2_ (.c 0) (.c 0))),(23,(.d 1)),(27,(.op .add x4_ (.c 1))),(26,(.c 1))],[]⟩,[(5,5),(0,0),(1,1)],[],[]⟩;.cut (((.le (.op .add x4_ (.c 1)) (.d 1)),.true)::((.le x4_ (.d 0)),.true)::((.eq x7_ (.c 0)),.true)::f0_) 2 i_ [(.rn (.op .add x4_ (.c 1)) 0 4611686018427387904)] (shT cRPut_T2 i_)),
  (.fin (((.eq x7_ (.c 0)),.false)::f0_) 0 ⟨⟨[],[]⟩,[],[],[]⟩ [(.fa (.eq x6_ x4_) .true),(.ar [(.nt .i64),(.nt .i64),(.fs 0)] (.ap 25 (.v 0) (.v 1) (.v 2) (.c 0) (.c 0) (.c 0)) (.v 1) (.ap 200 (.v 1) (.c 0) (.c 0) (.c 0) (.c 0) (.c 0))),(.ei (.ap 21 (.v 0) x4_ (.v 2) (.c 0) (.c 0) (.c 0)) (.ap 20 (.v 0) x0_ x1_ x5_ x4_ (.c 0)))] []),
  (.fin ([((.lt (.c 0) x3_),.false),((.le x4_ (.c 4096)),.true)]) 0 ⟨⟨[],[]⟩,[],[],[]⟩ [(.fa (.eq x6_ x4_) .true),(.ar [(.nt .i64),(.nt .i64),(.fs 0)] (.ap 25 (.v 0) (.v 1) (.v 2) (.c 0) (.c 0) (.c 0)) (.v 1) (.ap 200 (.v 1) (.c 0) (.c 0) (.c 0) (.c 0) (.c 0))),(.ei (.ap 21 (.v 0) x4_ (.v 2) (.c 0) (.c 0) (.c 0)) (.c 0))] [])]
def cRPut_L2:List Lf:=
 let x0_:SI:=(.ap 3 (.v 2) (.v 26) (.c 0) (.c 0) (.c 0) (.c 0))
 let x1_:SI:=(.ap 3 (.v 2) (.v 26) (.c 1) (.c 0) (.c 0) (.c 0))
 let x2_:SI:=(.ap 200 (.v 1) (.c 0) (.c 0) (.c 0) (.c 0) (.c 0))
 let x3_:SI:=(.ap 200 (.v 2) (.c 0) (.c 0) (.c 0) (.c 0) (.c 0))
 let x4_:SI:=(.ap 8 (.v 2) (.v 26) (.c 2) (.c 0) (.c 10) (.c 0))
 let x5_:SI:=(.ap 8 (.v 28) (.v 27) (.c 0) (.c 0) (.c 11) (.c 0))
 let x6_:SI:=(.ap 200 (.ap 25 (.v 0) (.v 1) (.v 2) (.c 0) (.c 0) (.c 0)) (.c 0) (.c 0) (.c 0) (.c 0) (.c 0))
 let x7_:SI:=(.ap 200 x4_ (.c 0) (.c 0) (.c 0) (.c 0) (.c 0))
 let x8_:SI:=(.ap 200 x5_ (.c 0) (.c 0) (.c 0) (.c 0) (.c 0))
 let x9_:SI:=(.ap 20 (.v 0) x0_ x1_ x7_ (.v 27) (.c 0))
 let f0_:List (SB×Bool):=[((.eq (.ap 20 (.v 0) (.ap 3 (.v 2) (.c 0) (.c 0) (.c 0) (.c 0) (.c 0)) (.ap 3 (.v 2) (.c 0) (.c 1) (.c 0) (.c 0) (.c 0)) (.ap 200 (.ap 8 (.v 2) (.c 0) (.c 2) (.c 0) (.c 10) (.c 0)) (.c 0) (.c 0) (.c 0) (.c 0) (.c 0)) x2_ (.c 0)) (.c 0)),.true),((.lt (.c 0) x3_),.true),((.le x2_ (.c 4096)),.true),((.le (.v 27) (.v 23)),.true)]
 let f1_:List (SB×Bool):=((.lt (.v 26) x3_),.true)::f0_
 let f2_:List (SB×Bool):=((.eq x9_ (.c 0)),.true)::f1_
 [(let i_:In:=⟨⟨[(28,(.ap 8 (.ap 8 (.ap 8 (.v 28) (.v 27) (.c 0) x0_ (.c 0) (.c 0)) (.v 27) (.c 1) x1_ (.c 0) (.c 0)) (.v 27) (.c 2) x4_ (.c 0) (.c 0))),(23,(.d 1)),(27,(.op .add (.v 27) (.c 1))),(26,(.wk .i64 (.op .add (.v 26) (.c 1))))],[]⟩,[(5,9),(0,0),(1,1)],[],[]⟩;.cut (((.le (.op .add (.v 27) (.c 1)) (.d 1)),.true)::((.le (.v 27) (.d 0)),.true)::((.le (.v 27) (.c 16777216)),.true)::f2_) 2 i_ [(.rn (.wk .i64 (.op .add (.v 26) (.c 1))) 1 0)] (shT cRPut_T2 i_)),
  (.bad (((.le (.v 27) (.c 16777216)),.false)::f2_)),
  (.fin (((.eq x9_ (.c 0)),.false)::f1_) 0 ⟨⟨[],[]⟩,[],[],[]⟩ [(.fa (.eq x6_ x8_) .true),(.ar [(.nt .i64),(.nt .i64),(.fs 0)] (.ap 25 (.v 0) (.v 1) (.v 2) (.c 0) (.c 0) (.c 0)) (.ap 8 (.v 28) (.v 27) (.c 0) (.c 0) (.c 11) (.c 0)) (.ap 200 x5_ (.c 0) (.c 0) (.c 0) (.c 0) (.c 0))),(.ei (.ap 21 (.v 0) x2_ (.v 2) (.c 0) (.c 0) (.c 0)) (.ap 20 (.v 0) x0_ x1_ x7_ (.v 27) (.c 0)))] []),
  (.fin (((.lt (.v 26) x3_),.false)::f0_) 0 ⟨⟨[],[]⟩,[],[],[]⟩ [(.fa (.eq x6_ x8_) .true),(.ar [(.nt .i64),(.nt .i64),(.fs 0)] (.ap 25 (.v 0) (.v 1) (.v 2) (.c 0) (.c 0) (.c 0)) (.ap 8 (.v 28) (.v 27) (.c 0) (.c 0) (.c 11) (.c 0)) (.ap 200 x5_ (.c 0) (.c 0) (.c 0) (.c 0) (.c 0))),(.ei (.ap 21 (.v 0) x2_ (.v 2) (.c 0) (.c 0) (.c 0)) (.c 0))] [])]
def cRPut_run (T:Tm):=(ex (ccOf Try.prog BF [] cRPut) ((fun cc=>[cMayO.ent cc,cMay.ent cc]) (ccOf Try.prog BF [] cRPut)) (dw (ccOf Try.prog BF [] cRPut) ((fun cc=>[cMayO.ent cc,cMay.ent cc]) (ccOf Try.prog BF [] cRPut)) 1000 4) (stopX []) 4000 T.f T.fs T.H).lfs (ccOf Try.prog BF [] cRPut) ((tm0 cRPut Try.f29 (Try.f29.body.getD .skip))::[cRPut_T1,cRPut_T2]) cRPut.os
theorem cRPut_h0:cRPut_run (tm0 cRPut Try.f29 (Try.f29.body.getD .skip))=some cRPut_L0:=by kernel_rfl
theorem cRPut_h1:cRPut_run cRPut_T1=some cRPut_L1:=by kernel_rfl
theorem cRPut_h2:cRPut_run cRPut_T2=some cRPut_L2:=by kernel_rfl
def cRPut_inv:(Nat→Int)→(Nat→Bool)→Nat→(Nat→Int)→(Nat→Bool)→Prop:=fun iv0 _ k iv _=>match k with | 0=>True | 1=>True | _=>1≤iv 26∧iv 26≤flenC (iv0 2)∧iv 27=flenC (iv0 1)+iv 26∧iv 27≤iv 23∧iv 27≤4096∧okN (iv0 0) (flenC (iv0 1)) (iv0 2) (iv 26)∧putR (iv 28) (iv0 1) (flenC (iv0 1)) (iv0 2) (iv 26)
def cRPut_mu:(Nat→Int)→(Nat→Bool)→Nat→(Nat→Int)→(Nat→Bool)→Nat:=fun iv0 _ k iv _=>match k with | 0=>2 ^ 90 | 1=>2 ^ 80 | _=>(5000 - iv 26).toNat
theorem cRPut_b {iv0:Nat→Int} (hin:InB cRPut.B iv0):((-9223372036854775808)≤iv0 0∧iv0 0≤9223372036854775807):=by
 have b0:=hin 0 (-9223372036854775808) 9223372036854775807 (by simp [cRPut,o1,i64b,kP,pkV,flF,i64s,lmap,SI.fl,flay,flayL,wP,pk0,pkAt,mayO,i64b])
 simp only [Int.reduceLE,reduceIte,Int.reduceNeg] at b0
 exact b0
def cRPut_ob (k:Nat) (l:List Lf):Prop:=∀ (kv:Kv) (iv0:Nat→Int) (bv0:Nat→Bool),InB cRPut.B iv0→FT (sta FI FB kv iv0 bv0) (dlt dyn0) cRPut.F→∀ (iv:Nat→Int) (bv:Nat→Bool),Agr 3 iv0 bv0 iv bv→cRPut_inv iv0 bv0 k iv bv→∀ lf∈l,LfT (sta FI FB kv) cRPut.os (cRPut_inv iv0 bv0) (cRPut_mu iv0 bv0) k iv bv lf
theorem cRPut_o0:cRPut_ob 0 cRPut_L0:=by
 intro kv iv0 bv0 hin hF iv bv ha hi
 unfold cRPut_L0
 refine List.forall_mem_cons.2 ⟨?_,List.forall_mem_nil _⟩
 all_goals
  intro δ hf
 all_goals
  have b0:=cRPut_b hin
 all_goals
  have a0:=ha.1 0 (by omega)
  have a1:=ha.1 1 (by omega)
  have a2:=ha.1 2 (by omega)
 all_goals
  simp only [FT,TP,SB.tp,SI.tv,sta,IB.eval,and_true,true_and,ObsT,Ob.Tv,rowT,kix,In.tiv,↓tbvT,In.tbv,get_cons,get_nil,reduceIte,Nat.reduceEqDiff,Int.reduceToNat,Int.reduceAdd,Int.reduceSub,Int.reduceLE,Int.reduceLT,Int.reduceEq,ne_eq,Bool.false_eq_true,not_true_eq_false,not_false_eq_true,true_iff,false_iff,iff_true,iff_false,false_implies,implies_true,decT,decide_true,decide_false,Bool.decide_eq_true,ap2,pb2,FI_3,FI_4,FI_8,FI_9,FI_8c,FI_8z,FI_200,FB_2,Int.toNat_natCast,Int.toNat_zero,FI_20,FI_21,FI_25,FB_25,cRPut_inv,cRPut_mu,cRPut,o1,othT,o1,i64b,kP,pkV,flF,i64s,lmap,SI.fl,flay,flayL,wP,pk0,pkAt,mayO,i64b,a0,a1,a2] at hf hi ⊢
 all_goals
  (repeat' (with_reducible apply And.intro))<;>first
  | omega
  | assumption
  | (unfold inM;omega)
  | exact trivial
  | (clear hin hF ha;grind)
theorem cRPut_o1:cRPut_ob 1 cRPut_L1:=by
 intro kv iv0 bv0 hin hF iv bv ha hi
 unfold cRPut_L1
 refine List.forall_mem_cons.2 ⟨?_,List.forall_mem_cons.2 ⟨?_,List.forall_mem_cons.2 ⟨?_,List.forall_mem_nil _⟩⟩⟩
 all_goals
  intro δ hf
 all_goals
  have b0:=cRPut_b hin
 all_goals
  have a0:=ha.1 0 (by omega)
  have a1:=ha.1 1 (by omega)
  have a2:=ha.1 2 (by omega)
 all_goals
  simp only [FT,TP,SB.tp,SI.tv,sta,IB.eval,and_true,true_and,ObsT,Ob.Tv,rowT,kix,In.tiv,↓tbvT,In.tbv,get_cons,get_nil,reduceIte,Nat.reduceEqDiff,Int.reduceToNat,Int.reduceAdd,Int.reduceSub,Int.reduceLE,Int.reduceLT,Int.reduceEq,ne_eq,Bool.false_eq_true,not_true_eq_false,not_false_eq_true,true_iff,false_iff,iff_true,iff_false,false_implies,implies_true,decT,decide_true,decide_false,Bool.decide_eq_true,ap2,pb2,FI_3,FI_4,FI_8,FI_9,FI_8c,FI_8z,FI_200,FB_2,Int.toNat_natCast,Int.toNat_zero,FI_20,FI_21,FI_25,FB_25,cRPut_inv,cRPut_mu,cRPut,o1,othT,o1,i64b,kP,pkV,flF,i64s,lmap,SI.fl,flay,flayL,wP,pk0,pkAt,mayO,i64b,a0,a1,a2] at hf hi ⊢
 all_goals
  have n1:=flenC_nn (iv0 1)
 all_goals
  have n2:=flenC_nn (iv0 2)
 all_goals
  have m0:=@mayAt_eq (iv0 0) (iv0 2) (flenC (iv0 1)) 0 (flenC (iv0 1)) (by omega) (by omega)
 all_goals
  simp only [Int.toNat_zero] at m0
 all_goals
  have p0:=@put_all02 (iv0 0) (iv0 1) (iv0 2) _ rfl
 all_goals
  have p1:=@put_some02 (iv0 0) (iv0 1) (iv0 2) _ rfl
 all_goals
  have o1:=@okN_suc (iv0 0) (flenC (iv0 1)) (iv0 2) 0 (fun j hj=>by omega) (by omega)
 all_goals
  have s1:=@putR_suc (iv0 1) (iv0 1) (flenC (iv0 1)) (iv0 2) 0 (flenC (iv0 1)) _ _ _ (putR_zero (iv0 1) _ (iv0 2)) (by omega) n1 (by omega) rfl rfl rfl
 all_goals
  simp only [Int.toNat_zero,Int.zero_add] at s1 o1
 all_goals
  have l1:=@mayAt_lt (iv0 0) (flenC (iv0 1)) (iv0 2) 0
 all_goals
  unfold sameW at p0 p1
 all_goals
  (repeat' (with_reducible apply And.intro))<;>first
  | omega
  | assumption
  | (unfold inM;omega)
  | exact trivial
  | (clear hin hF ha;grind)
theorem cRPut_o2:cRPut_ob 2 cRPut_L2:=by
 intro kv iv0 bv0 hin hF iv bv ha hi
 unfold cRPut_L2
 refine List.forall_mem_cons.2 ⟨?_,List.forall_mem_cons.2 ⟨?_,List.forall_mem_cons.2 ⟨?_,List.forall_mem_cons.2 ⟨?_,List.forall_mem_nil _⟩⟩⟩⟩
 all_goals
  intro δ hf
 all_goals
  have b0:=cRPut_b hin
 all_goals
  have a0:=ha.1 0 (by omega)
  have a1:=ha.1 1 (by omega)
  have a2:=ha.1 2 (by omega)
 all_goals
  simp only [FT,TP,SB.tp,SI.tv,sta,IB.eval,and_true,true_and,ObsT,Ob.Tv,rowT,kix,In.tiv,↓tbvT,In.tbv,get_cons,get_nil,reduceIte,Nat.reduceEqDiff,Int.reduceToNat,Int.reduceAdd,Int.reduceSub,Int.reduceLE,Int.reduceLT,Int.reduceEq,ne_eq,Bool.false_eq_true,not_true_eq_false,not_false_eq_true,true_iff,false_iff,iff_true,iff_false,false_implies,implies_true,decT,decide_true,decide_false,Bool.decide_eq_true,ap2,pb2,FI_3,FI_4,FI_8,FI_9,FI_8c,FI_8z,FI_200,FB_2,Int.toNat_natCast,Int.toNat_zero,FI_20,FI_21,FI_25,FB_25,cRPut_inv,cRPut_mu,cRPut,o1,othT,o1,i64b,kP,pkV,flF,i64s,lmap,SI.fl,flay,flayL,wP,pk0,pkAt,mayO,i64b,a0,a1,a2] at hf hi ⊢
 all_goals
  obtain ⟨g0,g1,g2,g3,g4,g5,g6⟩:=hi
 all_goals
  have n1:=flenC_nn (iv0 1)
 all_goals
  have n2:=flenC_nn (iv0 2)
 all_goals
  have w26:iv 26 < flenC (iv0 2)→iv 27 < 4096→IntKind.i64.wrap (iv 26+1)=iv 26+1:=fun _ _=>by rw [wrap_i64];omega
 all_goals
  have m0:=@mayAt_eq (iv0 0) (iv0 2) (flenC (iv0 1)) (iv 26) (iv 27) (by omega) (by omega)
 all_goals
  have p0:=fun h=>@put_all2 (iv0 0) (iv0 1) (iv0 2) (iv 28) _ (iv 26) (iv 27) rfl g2 g5 (by omega) h g6
 all_goals
  have p1:=fun h=>@put_some2 (iv0 0) (iv0 1) (iv0 2) (iv 28) _ (iv 26) (iv 27) rfl g2 g5 (by omega) h g6
 all_goals
  have o1:=@okN_suc (iv0 0) (flenC (iv0 1)) (iv0 2) (iv 26) g5 (by omega)
 all_goals
  have s1:=@putR_suc (iv 28) (iv0 1) (flenC (iv0 1)) (iv0 2) (iv 26) (iv 27) _ _ _ g6 g2 n1 (by omega) rfl rfl rfl
 all_goals
  have l1:=@mayAt_lt (iv0 0) (flenC (iv0 1)) (iv0 2) (iv 26).toNat
 all_goals
  unfold sameW at p0 p1
 all_goals
  (repeat' (with_reducible apply And.intro))<;>first
  | omega
  | assumption
  | (unfold inM;omega)
  | exact trivial
  | (clear hin hF ha;grind)
theorem cRPut_c:LsC ((tm0 cRPut Try.f29 (Try.f29.body.getD .skip))::[cRPut_T1,cRPut_T2]) cRPut.os [cRPut_L0,cRPut_L1,cRPut_L2]:=by
 unfold cRPut_L0 cRPut_L1 cRPut_L2
 exact ⟨List.forall_mem_cons.2 ⟨⟨⟨_,rfl,rfl⟩,by kernel_rfl⟩,List.forall_mem_nil _⟩,List.forall_mem_cons.2 ⟨⟨⟨_,rfl,rfl⟩,by kernel_rfl⟩,List.forall_mem_cons.2 ⟨⟨⟨_,rfl,rfl⟩,by kernel_rfl⟩,List.forall_mem_cons.2 ⟨⟨⟨_,rfl,rfl⟩,by kernel_rfl⟩,List.forall_mem_nil _⟩⟩⟩,List.forall_mem_cons.2 ⟨⟨⟨_,rfl,rfl⟩,by kernel_rfl⟩,List.forall_mem_cons.2 ⟨trivial,List.forall_mem_cons.2 ⟨⟨⟨_,rfl,rfl⟩,by kernel_rfl⟩,List.forall_mem_cons.2 ⟨⟨⟨_,rfl,rfl⟩,by kernel_rfl⟩,List.forall_mem_nil _⟩⟩⟩⟩,trivial⟩
theorem cRPut_ok:cRPut.Ok Try.prog FI FB:=
 Con.of_plain (body:=Try.f29.body.getD .skip) pok fiok (EntsFor.cons cMayO_ok (EntsFor.cons cMay_ok EntsFor.nil)) cRPut Try.func29 (by kernel_rfl) 3 [cRPut_T1,cRPut_T2] (by kernel_rfl) [cRPut_L0,cRPut_L1,cRPut_L2] ⟨cRPut_h0,cRPut_h1,cRPut_h2,trivial⟩ cRPut_c
  cRPut_inv cRPut_mu (fun _ _ _=>trivial) fun kv iv0 bv0 hin hF k l iv bv hk ha hi=>match k,hk,hi with
  | 0,hk,hi=>by
    cases hk
    exact cRPut_o0 kv iv0 bv0 hin hF iv bv ha hi
  | 1,hk,hi=>by
    cases hk
    exact cRPut_o1 kv iv0 bv0 hin hF iv bv ha hi
  | 2,hk,hi=>by
    cases hk
    exact cRPut_o2 kv iv0 bv0 hin hF iv bv ha hi
  | k+3,hk,_=>by simp at hk
end
end Go.Sx.Pk
