/- The pool: copies of packets, packets that are the same. -/
import Derived.Test.YtbcbpicfnfkdeaaPkD
namespace Go.Sx.Pk
set_option linter.unusedVariables false
set_option linter.unusedSimpArgs false
set_option maxRecDepth 100000
set_option maxHeartbeats 0
noncomputable section
open Go Go.Sx Go.Proofs
def kP:List Kd:=[.nt .i64,.nt .i64,.fs 0]
def pkV (i:Nat):SV:=.ag [.it .i64 (.v i),.it .i64 (.v (i+1)),.fs 0 (.v (i+2))]
def flF (i:Nat) (k:Int):SB×Bool:=(.le (SI.fl (.v i)) (.c k),true)
def cClo:Con:=⟨43,[0],[.fs 0 (.v 0)],[],[],[flF 0 65536],o1 (.fs 0 (.v 0)),[]⟩
def cOwn:Con:=⟨33,[0,1,2],[pkV 0],[],i64s [0,1],[flF 2 65536],o1 (pkV 0),[]⟩
def cSmP:Con:=⟨13,[0,1,2,3,4,5],[pkV 0,pkV 3],[],i64s [0,1,3,4],[],o1 (.bo (.and (.eq (.v 0) (.v 3)) (.and (.eq (.v 1) (.v 4)) (.ap 2 (.v 2) (.v 5) (.c 0) (.c 0) (.c 0) (.c 0))))),[]⟩
def cClo_L0:List Lf:=
 let x0_:SI:=(.ap 200 (.v 0) (.c 0) (.c 0) (.c 0) (.c 0) (.c 0))
 let f0_:List (SB×Bool):=[((.le (.c 0) (.d 0)),.true),((.eq x0_ (.c 0)),.true),((.le x0_ (.c 65536)),.true)]
 [(.fin (((.eq (.d 0) (.c 0)),.true)::f0_) 0 ⟨⟨[],[]⟩,[],[],[]⟩ [(.fa (.eq x0_ (.c 0)) .true)] []),
  (.fin (((.eq (.d 0) (.c 0)),.false)::f0_) 0 ⟨⟨[],[]⟩,[],[],[]⟩ [] []),
  (.fin ([((.eq x0_ (.c 0)),.false),((.le x0_ (.c 65536)),.true)]) 0 ⟨⟨[],[]⟩,[],[],[]⟩ [] [])]
def cClo_run (T:Tm):=(ex (ccOf Try.prog BF [] cClo) ((fun _=>[]) (ccOf Try.prog BF [] cClo)) (dw (ccOf Try.prog BF [] cClo) ((fun _=>[]) (ccOf Try.prog BF [] cClo)) 1000 4) (stopX [0,1,2,3,4,5,6,7,8,9,10,11,12,13,14,15,16,17,18,19,20,21,22,23,24,25,26,27,28,29,30,31,32,33,34,35,36,37,38,39,40,41,42,43,44,45,46,47,48,49,50,51,52,53,54,55,56,57,58,59,60,61,62,63,64,65,66,67,68,69,70,71,72,73,74,75,76,77,78,79,80,81,82,83,84,85,86,87,88,89,90,91,92,93,94,95,96,97,98,99,100,101,102,103,104,105,106,107,108,109,110,111,112,113,114,115,116,117,118,119,120,121,122,123,124,125,126,127,128,129,130,131,132,133,134,135,136,137,138,139,140,141,142,143,144,145,146,147,148,149,150,151,152,153,154,155,156,157,158,159,160,161,162,163,164,165,166,167,168,169,170,171,172,173,174,175,176,177,178,179,180,181,182,183,184,185,186,187,188,189,190,191,192,193,194,195,196,197,198,199,200,201,202,203,204,205,206,207,208,209,210,211,212,213,214,215,216,217,218,219,220,221,222,223,224,225,226,227,228,229,230,231,232,233,234,235,236,237,238,239,240,241,242,243,244,245,246,247,248,249]) 4000 T.f T.fs T.H).lfs (ccOf Try.prog BF [] cClo) ((tm0 cClo Try.f43 (Try.f43.body.getD .skip))::[]) cClo.os
theorem cClo_h0:cClo_run (tm0 cClo Try.f43 (Try.f43.body.getD .skip))=some cClo_L0:=by kernel_rfl
def cClo_inv:(Nat→Int)→(Nat→Bool)→Nat→(Nat→Int)→(Nat→Bool)→Prop:=fun _ _ _ _ _=>True
def cClo_mu:(Nat→Int)→(Nat→Bool)→Nat→(Nat→Int)→(Nat→Bool)→Nat:=fun _ _ _ _ _=>0
def cClo_ob (k:Nat) (l:List Lf):Prop:=∀ (kv:Kv) (iv0:Nat→Int) (bv0:Nat→Bool),InB cClo.B iv0→FT (sta FI FB kv iv0 bv0) (dlt dyn0) cClo.F→∀ (iv:Nat→Int) (bv:Nat→Bool),Agr 1 iv0 bv0 iv bv→cClo_inv iv0 bv0 k iv bv→∀ lf∈l,LfT (sta FI FB kv) cClo.os (cClo_inv iv0 bv0) (cClo_mu iv0 bv0) k iv bv lf
theorem cClo_o0:cClo_ob 0 cClo_L0:=by
 intro kv iv0 bv0 hin hF iv bv ha hi
 unfold cClo_L0
 refine List.forall_mem_cons.2 ⟨?_,List.forall_mem_cons.2 ⟨?_,List.forall_mem_cons.2 ⟨?_,List.forall_mem_nil _⟩⟩⟩
 all_goals
  intro δ hf
 all_goals
  have a0:=ha.1 0 (by omega)
 all_goals
  simp only [FT,TP,SB.tp,SI.tv,sta,IB.eval,and_true,true_and,ObsT,Ob.Tv,rowT,kix,In.tiv,↓tbvT,In.tbv,get_cons,get_nil,reduceIte,Nat.reduceEqDiff,Int.reduceToNat,Int.reduceAdd,Int.reduceSub,Int.reduceLE,Int.reduceLT,Int.reduceEq,ne_eq,Bool.false_eq_true,not_true_eq_false,not_false_eq_true,true_iff,false_iff,iff_true,iff_false,false_implies,implies_true,decT,decide_true,decide_false,Bool.decide_eq_true,ap2,pb2,FI_3,FI_4,FI_8,FI_9,FI_8c,FI_8z,FI_200,FB_2,Int.toNat_natCast,Int.toNat_zero,cClo_inv,cClo_mu,cClo,o1,othT,o1,i64b,kP,pkV,flF,i64s,lmap,SI.fl,flay,flayL,a0] at hf hi ⊢
 all_goals
  (repeat' (with_reducible apply And.intro))<;>first
  | omega
  | assumption
  | (unfold inM;omega)
  | exact trivial
  | (clear hin hF ha;grind)
theorem cClo_c:LsC ((tm0 cClo Try.f43 (Try.f43.body.getD .skip))::[]) cClo.os [cClo_L0]:=by
 unfold cClo_L0
 exact ⟨List.forall_mem_cons.2 ⟨⟨⟨_,rfl,rfl⟩,by kernel_rfl⟩,List.forall_mem_cons.2 ⟨⟨⟨_,rfl,rfl⟩,by kernel_rfl⟩,List.forall_mem_cons.2 ⟨⟨⟨_,rfl,rfl⟩,by kernel_rfl⟩,List.forall_mem_nil _⟩⟩⟩,trivial⟩
theorem cClo_ok:cClo.Ok Try.prog FI FB:=
 Con.of_plain (body:=Try.f43.body.getD .skip) pok fiok EntsFor.nil cClo Try.func43 (by kernel_rfl) 1 [] (by kernel_rfl) [cClo_L0] ⟨cClo_h0,trivial⟩ cClo_c
  cClo_inv cClo_mu (fun _ _ _=>trivial) fun kv iv0 bv0 hin hF k l iv bv hk ha hi=>match k,hk,hi with
  | 0,hk,hi=>by
    cases hk
    exact cClo_o0 kv iv0 bv0 hin hF iv bv ha hi
  | k+1,hk,_=>by simp at hk
def cOwn_L0:List Lf:=
 [(.fin ([((.le (.ap 200 (.v 2) (.c 0) (.c 0) (.c 0) (.c 0) (.c 0)) (.c 65536)),.true)]) 0 ⟨⟨[],[]⟩,[],[],[]⟩ [] [])]
def cOwn_run (T:Tm):=(ex (ccOf Try.prog BF [] cOwn) ((fun cc=>[cClo.ent cc]) (ccOf Try.prog BF [] cOwn)) (dw (ccOf Try.prog BF [] cOwn) ((fun cc=>[cClo.ent cc]) (ccOf Try.prog BF [] cOwn)) 1000 4) (stopX [0,1,2,3,4,5,6,7,8,9,10,11,12,13,14,15,16,17,18,19,20,21,22,23,24,25,26,27,28,29,30,31,32,33,34,35,36,37,38,39,40,41,42,43,44,45,46,47,48,49,50,51,52,53,54,55,56,57,58,59,60,61,62,63,64,65,66,67,68,69,70,71,72,73,74,75,76,77,78,79,80,81,82,83,84,85,86,87,88,89,90,91,92,93,94,95,96,97,98,99,100,101,102,103,104,105,106,107,108,109,110,111,112,113,114,115,116,117,118,119,120,121,122,123,124,125,126,127,128,129,130,131,132,133,134,135,136,137,138,139,140,141,142,143,144,145,146,147,148,149,150,151,152,153,154,155,156,157,158,159,160,161,162,163,164,165,166,167,168,169,170,171,172,173,174,175,176,177,178,179,180,181,182,183,184,185,186,187,188,189,190,191,192,193,194,195,196,197,198,199,200,201,202,203,204,205,206,207,208,209,210,211,212,213,214,215,216,217,218,219,220,221,222,223,224,225,226,227,228,229,230,231,232,233,234,235,236,237,238,239,240,241,242,243,244,245,246,247,248,249]) 4000 T.f T.fs T.H).lfs (ccOf Try.prog BF [] cOwn) ((tm0 cOwn Try.f33 (Try.f33.body.getD .skip))::[]) cOwn.os
theorem cOwn_h0:cOwn_run (tm0 cOwn Try.f33 (Try.f33.body.getD .skip))=some cOwn_L0:=by kernel_rfl
def cOwn_inv:(Nat→Int)→(Nat→Bool)→Nat→(Nat→Int)→(Nat→Bool)→Prop:=fun _ _ _ _ _=>True
def cOwn_mu:(Nat→Int)→(Nat→Bool)→Nat→(Nat→Int)→(Nat→Bool)→Nat:=fun _ _ _ _ _=>0
theorem cOwn_b {iv0:Nat→Int} (hin:InB cOwn.B iv0):((-9223372036854775808)≤iv0 0∧iv0 0≤9223372036854775807)∧((-9223372036854775808)≤iv0 1∧iv0 1≤9223372036854775807):=by
 have b0:=hin 0 (-9223372036854775808) 9223372036854775807 (by simp [cOwn,o1,i64b,kP,pkV,flF,i64s,lmap,SI.fl,flay,flayL])
 simp only [Int.reduceLE,reduceIte,Int.reduceNeg] at b0
 have b1:=hin 1 (-9223372036854775808) 9223372036854775807 (by simp [cOwn,o1,i64b,kP,pkV,flF,i64s,lmap,SI.fl,flay,flayL])
 simp only [Int.reduceLE,reduceIte,Int.reduceNeg] at b1
 exact ⟨b0,b1⟩
def cOwn_ob (k:Nat) (l:List Lf):Prop:=∀ (kv:Kv) (iv0:Nat→Int) (bv0:Nat→Bool),InB cOwn.B iv0→FT (sta FI FB kv iv0 bv0) (dlt dyn0) cOwn.F→∀ (iv:Nat→Int) (bv:Nat→Bool),Agr 3 iv0 bv0 iv bv→cOwn_inv iv0 bv0 k iv bv→∀ lf∈l,LfT (sta FI FB kv) cOwn.os (cOwn_inv iv0 bv0) (cOwn_mu iv0 bv0) k iv bv lf
theorem cOwn_o0:cOwn_ob 0 cOwn_L0:=by
 intro kv iv0 bv0 hin hF iv bv ha hi
 unfold cOwn_L0
 refine List.forall_mem_cons.2 ⟨?_,List.forall_mem_nil _⟩
 all_goals
  intro δ hf
 all_goals
  obtain ⟨b0,b1⟩:=cOwn_b hin
 all_goals
  have a0:=ha.1 0 (by omega)
  have a1:=ha.1 1 (by omega)
  have a2:=ha.1 2 (by omega)
 all_goals
  simp only [FT,TP,SB.tp,SI.tv,sta,IB.eval,and_true,true_and,ObsT,Ob.Tv,rowT,kix,In.tiv,↓tbvT,In.tbv,get_cons,get_nil,reduceIte,Nat.reduceEqDiff,Int.reduceToNat,Int.reduceAdd,Int.reduceSub,Int.reduceLE,Int.reduceLT,Int.reduceEq,ne_eq,Bool.false_eq_true,not_true_eq_false,not_false_eq_true,true_iff,false_iff,iff_true,iff_false,false_implies,implies_true,decT,decide_true,decide_false,Bool.decide_eq_true,ap2,pb2,FI_3,FI_4,FI_8,FI_9,FI_8c,FI_8z,FI_200,FB_2,Int.toNat_natCast,Int.toNat_zero,cOwn_inv,cOwn_mu,cOwn,o1,othT,o1,i64b,kP,pkV,flF,i64s,lmap,SI.fl,flay,flayL,a0,a1,a2] at hf hi ⊢
 all_goals
  (repeat' (with_reducible apply And.intro))<;>first
  | omega
  | assumption
  | (unfold inM;omega)
  | exact trivial
  | (clear hin hF ha;grind)
theorem cOwn_c:LsC ((tm0 cOwn Try.f33 (Try.f33.body.getD .skip))::[]) cOwn.os [cOwn_L0]:=by
 unfold cOwn_L0
 exact ⟨List.forall_mem_cons.2 ⟨⟨⟨_,rfl,rfl⟩,by kernel_rfl⟩,List.forall_mem_nil _⟩,trivial⟩
theorem cOwn_ok:cOwn.Ok Try.prog FI FB:=
 Con.of_plain (body:=Try.f33.body.getD .skip) pok fiok (EntsFor.cons cClo_ok EntsFor.nil) cOwn Try.func33 (by kernel_rfl) 3 [] (by kernel_rfl) [cOwn_L0] ⟨cOwn_h0,trivial⟩ cOwn_c
  cOwn_inv cOwn_mu (fun _ _ _=>trivial) fun kv iv0 bv0 hin hF k l iv bv hk ha hi=>match k,hk,hi with
  | 0,hk,hi=>by
    cases hk
    exact cOwn_o0 kv iv0 bv0 hin hF iv bv ha hi
  | k+1,hk,_=>by simp at hk
def cSmP_L0:List Lf:=
 [(.fin ([((.eq (.v 1) (.v 4)),.true),((.eq (.v 0) (.v 3)),.true)]) 0 ⟨⟨[],[]⟩,[],[],[]⟩ [(.eb (.and (.eq (.v 0) (.v 3)) (.and (.eq (.v 1) (.v 4)) (.ap 2 (.v 2) (.v 5) (.c 0) (.c 0) (.c 0) (.c 0)))) (.ap 2 (.v 2) (.v 5) (.c 0) (.c 0) (.c 0) (.c 0)))] []),
  (.fin ([((.eq (.v 1) (.v 4)),.false),((.eq (.v 0) (.v 3)),.true)]) 0 ⟨⟨[],[]⟩,[],[],[]⟩ [(.eb (.and (.eq (.v 0) (.v 3)) (.and (.eq (.v 1) (.v 4)) (.ap 2 (.v 2) (.v 5) (.c 0) (.c 0) (.c 0) (.c 0)))) (.c .false))] []),
  (.fin ([((.eq (.v 0) (.v 3)),.false)]) 0 ⟨⟨[],[]⟩,[],[],[]⟩ [(.eb (.and (.eq (.v 0) (.v 3)) (.and (.eq (.v 1) (.v 4)) (.ap 2 (.v 2) (.v 5) (.c 0) (.c 0) (.c 0) (.c 0)))) (.c .false))] [])]
def cSmP_run (T:Tm):=(ex (ccOf Try.prog BF [] cSmP) ((fun _=>[]) (ccOf Try.prog BF [] cSmP)) (dw (ccOf Try.prog BF [] cSmP) ((fun _=>[]) (ccOf Try.prog BF [] cSmP)) 1000 4) (stopX [0,1,2,3,4,5,6,7,8,9,10,11,12,13,14,15,16,17,18,19,20,21,22,23,24,25,26,27,28,29,30,31,32,33,34,35,36,37,38,39,40,41,42,43,44,45,46,47,48,49,50,51,52,53,54,55,56,57,58,59,60,61,62,63,64,65,66,67,68,69,70,71,72,73,74,75,76,77,78,79,80,81,82,83,84,85,86,87,88,89,90,91,92,93,94,95,96,97,98,99,100,101,102,103,104,105,106,107,108,109,110,111,112,113,114,115,116,117,118,119,120,121,122,123,124,125,126,127,128,129,130,131,132,133,134,135,136,137,138,139,140,141,142,143,144,145,146,147,148,149,150,151,152,153,154,155,156,157,158,159,160,161,162,163,164,165,166,167,168,169,170,171,172,173,174,175,176,177,178,179,180,181,182,183,184,185,186,187,188,189,190,191,192,193,194,195,196,197,198,199,200,201,202,203,204,205,206,207,208,209,210,211,212,213,214,215,216,217,218,219,220,221,222,223,224,225,226,227,228,229,230,231,232,233,234,235,236,237,238,239,240,241,242,243,244,245,246,247,248,249]) 4000 T.f T.fs T.H).lfs (ccOf Try.prog BF [] cSmP) ((tm0 cSmP Try.f13 (Try.f13.body.getD .skip))::[]) cSmP.os
theorem cSmP_h0:cSmP_run (tm0 cSmP Try.f13 (Try.f13.body.getD .skip))=some cSmP_L0:=by kernel_rfl
def cSmP_inv:(Nat→Int)→(Nat→Bool)→Nat→(Nat→Int)→(Nat→Bool)→Prop:=fun _ _ _ _ _=>True
def cSmP_mu:(Nat→Int)→(Nat→Bool)→Nat→(Nat→Int)→(Nat→Bool)→Nat:=fun _ _ _ _ _=>0
theorem cSmP_b {iv0:Nat→Int} (hin:InB cSmP.B iv0):((-9223372036854775808)≤iv0 0∧iv0 0≤9223372036854775807)∧((-9223372036854775808)≤iv0 1∧iv0 1≤9223372036854775807)∧((-9223372036854775808)≤iv0 3∧iv0 3≤9223372036854775807)∧((-9223372036854775808)≤iv0 4∧iv0 4≤9223372036854775807):=by
 have b0:=hin 0 (-9223372036854775808) 9223372036854775807 (by simp [cSmP,o1,i64b,kP,pkV,flF,i64s,lmap,SI.fl,flay,flayL])
 simp only [Int.reduceLE,reduceIte,Int.reduceNeg] at b0
 have b1:=hin 1 (-9223372036854775808) 9223372036854775807 (by simp [cSmP,o1,i64b,kP,pkV,flF,i64s,lmap,SI.fl,flay,flayL])
 simp only [Int.reduceLE,reduceIte,Int.reduceNeg] at b1
 have b3:=hin 3 (-9223372036854775808) 9223372036854775807 (by simp [cSmP,o1,i64b,kP,pkV,flF,i64s,lmap,SI.fl,flay,flayL])
 simp only [Int.reduceLE,reduceIte,Int.reduceNeg] at b3
 have b4:=hin 4 (-9223372036854775808) 9223372036854775807 (by simp [cSmP,o1,i64b,kP,pkV,flF,i64s,lmap,SI.fl,flay,flayL])
 simp only [Int.reduceLE,reduceIte,Int.reduceNeg] at b4
 exact ⟨b0,b1,b3,b4⟩
def cSmP_ob (k:Nat) (l:List Lf):Prop:=∀ (kv:Kv) (iv0:Nat→Int) (bv0:Nat→Bool),InB cSmP.B iv0→FT (sta FI FB kv iv0 bv0) (dlt dyn0) cSmP.F→∀ (iv:Nat→Int) (bv:Nat→Bool),Agr 6 iv0 bv0 iv bv→cSmP_inv iv0 bv0 k iv bv→∀ lf∈l,LfT (sta FI FB kv) cSmP.os (cSmP_inv iv0 bv0) (cSmP_mu iv0 bv0) k iv bv lf
theorem cSmP_o0:cSmP_ob 0 cSmP_L0:=by
 intro kv iv0 bv0 hin hF iv bv ha hi
 unfold cSmP_L0
 refine List.forall_mem_cons.2 ⟨?_,List.forall_mem_cons.2 ⟨?_,List.forall_mem_cons.2 ⟨?_,List.forall_mem_nil _⟩⟩⟩
 all_goals
  intro δ hf
 all_goals
  obtain ⟨b0,b1,b3,b4⟩:=cSmP_b hin
 all_goals
  have a0:=ha.1 0 (by omega)
  have a1:=ha.1 1 (by omega)
  have a2:=ha.1 2 (by omega)
  have a3:=ha.1 3 (by omega)
  have a4:=ha.1 4 (by omega)
  have a5:=ha.1 5 (by omega)
 all_goals
  simp only [FT,TP,SB.tp,SI.tv,sta,IB.eval,and_true,true_and,ObsT,Ob.Tv,rowT,kix,In.tiv,↓tbvT,In.tbv,get_cons,get_nil,reduceIte,Nat.reduceEqDiff,Int.reduceToNat,Int.reduceAdd,Int.reduceSub,Int.reduceLE,Int.reduceLT,Int.reduceEq,ne_eq,Bool.false_eq_true,not_true_eq_false,not_false_eq_true,true_iff,false_iff,iff_true,iff_false,false_implies,implies_true,decT,decide_true,decide_false,Bool.decide_eq_true,ap2,pb2,FI_3,FI_4,FI_8,FI_9,FI_8c,FI_8z,FB_2,Int.toNat_natCast,Int.toNat_zero,cSmP_inv,cSmP_mu,cSmP,o1,othT,o1,i64b,kP,pkV,flF,i64s,lmap,SI.fl,flay,flayL,a0,a1,a2,a3,a4,a5] at hf hi ⊢
 all_goals
  (repeat' (with_reducible apply And.intro))<;>first
  | omega
  | assumption
  | (unfold inM;omega)
  | exact trivial
  | (clear hin hF ha;grind)
theorem cSmP_c:LsC ((tm0 cSmP Try.f13 (Try.f13.body.getD .skip))::[]) cSmP.os [cSmP_L0]:=by
 unfold cSmP_L0
 exact ⟨List.forall_mem_cons.2 ⟨⟨⟨_,rfl,rfl⟩,by kernel_rfl⟩,List.forall_mem_cons.2 ⟨⟨⟨_,rfl,rfl⟩,by kernel_rfl⟩,List.forall_mem_cons.2 ⟨⟨⟨_,rfl,rfl⟩,by kernel_rfl⟩,List.forall_mem_nil _⟩⟩⟩,trivial⟩
theorem cSmP_ok:cSmP.Ok Try.prog FI FB:=
 Con.of_plain (body:=Try.f13.body.getD .skip) pok fiok EntsFor.nil cSmP Try.func13 (by kernel_rfl) 6 [] (by kernel_rfl) [cSmP_L0] ⟨cSmP_h0,trivial⟩ cSmP_c
  cSmP_inv cSmP_mu (fun _ _ _=>trivial) fun kv iv0 bv0 hin hF k l iv bv hk ha hi=>match k,hk,hi with
  | 0,hk,hi=>by
    cases hk
    exact cSmP_o0 kv iv0 bv0 hin hF iv bv ha hi
  | k+1,hk,_=>by simp at hk
end
end Go.Sx.Pk
