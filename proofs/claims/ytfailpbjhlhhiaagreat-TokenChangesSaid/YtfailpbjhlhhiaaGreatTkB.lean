/- Tokens: holds, by contract. -/
import Derived.Test.YtfailpbjhlhhiaaGreatTkA
namespace Go.Sx.Tk
set_option linter.unusedVariables false
set_option linter.unusedSimpArgs false
set_option maxRecDepth 100000
set_option maxHeartbeats 0
noncomputable section
open Go Go.Sx Go.Proofs
def fH:List (SB×Bool):=[flF 0 300]
def lH:SV:=.fs 4 (.v 0)
def apN (f:Nat):SI:=.ap f (.v 0) (SI.fl (.v 0)) (.c 0) (.c 0) (.c 0) (.c 0)
def pbN (f:Nat):SB:=.ap f (.v 0) (SI.fl (.v 0)) (.c 0) (.c 0) (.c 0) (.c 0)
def apM (f:Nat) (x:SI):SI:=.ap f (.v 0) (SI.fl (.v 0)) x (.c 0) (.c 0) (.c 0)
def pbM (f:Nat) (x:SI):SB:=.ap f (.v 0) (SI.fl (.v 0)) x (.c 0) (.c 0) (.c 0)
def oMo:List Out:=[⟨[(.lt (.c 0) (SI.fl (.v 0)),false)],.sn,[],0,0,[]⟩,⟨[(.lt (.c 0) (SI.fl (.v 0)),true)],.sl (.n 0) (.c 0) (SI.fl (.v 0)) (.d 0),[(0,.arr [.nt .i64] (apN 20) (SI.fl (.v 0)) 71 (.d 0))],1,1,[(.le (SI.fl (.v 0)) (.d 0),true)]⟩]
def hModes:Con:=⟨158,[0],[.ag [lH]],[],[],fH,oMo,[]⟩
def rModes:Con:=⟨137,[0],[lH],[],[],fH,oMo,[]⟩
def rMay:Con:=⟨135,[0,1,2],[.ag [.it .i64 (.v 0),.it .i64 (.v 1),.it .i64 (.v 2)]],[],[i64b 0,i64b 1,i64b 2],[],o1 (.bo (.ap 23 (.v 0) (.v 1) (.v 2) (.c 0) (.c 0) (.c 0))),[]⟩
def hMay:Con:=⟨160,[0,1,2],[.ag [.it .i64 (.v 0),.it .i64 (.v 1),.it .i64 (.v 2)]],[],[i64b 0,i64b 1,i64b 2],[],o1 (.bo (.ap 23 (.v 0) (.v 1) (.v 2) (.c 0) (.c 0) (.c 0))),[]⟩
def hRight:Con:=⟨181,[0],[.ag [lH]],[],[],fH,o1 (.bo (pbN 20)),[]⟩
def rRight:Con:=⟨65,[0],[lH],[],[],fH,o1 (.bo (pbN 20)),[]⟩
def hOf:Con:=⟨117,[0],[lH],[],[],fH,[⟨[(pbN 20,false)],.ag [.sn,.bo (.c false)],[],0,0,[]⟩,⟨[(pbN 20,true)],.ag [lH,.bo (.c true)],[],0,0,[]⟩],[]⟩
def rFind:Con:=⟨123,[0,1],[lH,.it .i64 (.v 1)],[],[i64b 1],fH,[⟨[],.it .i64 (apM 21 (.v 1)),[],0,0,[(.lt (apM 21 (.v 1)) (SI.fl (.v 0)),true),(.le (.c (-1)) (apM 21 (.v 1)),true)]⟩],[]⟩
def rowV (i:SI):SV:=.ag [.it .i64 (.ap 3 (.v 0) i (.c 0) (.c 0) (.c 0) (.c 0)),.it .i64 (.ap 3 (.v 0) i (.c 1) (.c 0) (.c 0) (.c 0)),.it .i64 (.ap 3 (.v 0) i (.c 2) (.c 0) (.c 0) (.c 0))]
def zeroV:SV:=.ag [.it .i64 (.c 0),.it .i64 (.c 0),.it .i64 (.c 0)]
def hFind:Con:=⟨39,[0,1],[lH,.it .i64 (.v 1)],[],[i64b 1],fH,[⟨[(pbM 25 (.v 1),true)],.tp [rowV (apM 21 (.v 1)),.bo (.c true)],[],0,0,[(.lt (apM 21 (.v 1)) (SI.fl (.v 0)),true),(.le (.c 0) (apM 21 (.v 1)),true)]⟩,⟨[(pbM 25 (.v 1),false)],.tp [zeroV,.bo (.c false)],[],0,0,[]⟩],[]⟩
def hCheck:Con:=⟨207,[0],[lH],[],[],fH,[⟨[(pbN 20,true)],.it .i64 (.c 0),[],0,0,[]⟩,⟨[(pbN 20,false)],.it .i64 (.c 2),[],0,0,[]⟩],[]⟩
def rMay_L0:List Lf:=
 let f0_:List (SB×Bool):=[((.lt (.v 0) (.c 256)),.true),((.le (.c 0) (.v 0)),.true)]
 let f1_:List (SB×Bool):=((.le (.c 1) (.v 1)),.true)::f0_
 let f2_:List (SB×Bool):=((.le (.v 1) (.c 1099511627776)),.true)::f1_
 let f3_:List (SB×Bool):=((.eq (.v 2) (.c 0)),.false)::f2_
 [(.fin (((.eq (.v 2) (.c 0)),.true)::f2_) 0 ⟨⟨[],[]⟩,[],[],[]⟩ [(.eb (.ap 23 (.v 0) (.v 1) (.v 2) (.c 0) (.c 0) (.c 0)) (.c .false))] []),
  (.fin (((.le (.c 0) (.v 2)),.true)::f3_) 0 ⟨⟨[],[]⟩,[],[],[]⟩ [(.eb (.ap 23 (.v 0) (.v 1) (.v 2) (.c 0) (.c 0) (.c 0)) (.le (.v 2) (.c 5)))] []),
  (.fin (((.le (.c 0) (.v 2)),.false)::f3_) 0 ⟨⟨[],[]⟩,[],[],[]⟩ [(.eb (.ap 23 (.v 0) (.v 1) (.v 2) (.c 0) (.c 0) (.c 0)) (.c .false))] []),
  (.fin (((.le (.v 1) (.c 1099511627776)),.false)::f1_) 0 ⟨⟨[],[]⟩,[],[],[]⟩ [(.eb (.ap 23 (.v 0) (.v 1) (.v 2) (.c 0) (.c 0) (.c 0)) (.c .false))] []),
  (.fin (((.le (.c 1) (.v 1)),.false)::f0_) 0 ⟨⟨[],[]⟩,[],[],[]⟩ [(.eb (.ap 23 (.v 0) (.v 1) (.v 2) (.c 0) (.c 0) (.c 0)) (.c .false))] []),
  (.fin ([((.lt (.v 0) (.c 256)),.false),((.le (.c 0) (.v 0)),.true)]) 0 ⟨⟨[],[]⟩,[],[],[]⟩ [(.eb (.ap 23 (.v 0) (.v 1) (.v 2) (.c 0) (.c 0) (.c 0)) (.c .false))] []),
  (.fin ([((.le (.c 0) (.v 0)),.false)]) 0 ⟨⟨[],[]⟩,[],[],[]⟩ [(.eb (.ap 23 (.v 0) (.v 1) (.v 2) (.c 0) (.c 0) (.c 0)) (.c .false))] [])]
def rMay_run (T:Tm):=(ex (ccOf Tryz.prog BF [29,73,75,100] rMay) ((fun _=>[]) (ccOf Tryz.prog BF [29,73,75,100] rMay)) (dw (ccOf Tryz.prog BF [29,73,75,100] rMay) ((fun _=>[]) (ccOf Tryz.prog BF [29,73,75,100] rMay)) 1000 4) (stopX []) 4000 T.f T.fs T.H).lfs (ccOf Tryz.prog BF [29,73,75,100] rMay) ((tm0 rMay Tryz.f135 (Tryz.f135.body.getD .skip))::[]) rMay.os
theorem rMay_h0:rMay_run (tm0 rMay Tryz.f135 (Tryz.f135.body.getD .skip))=some rMay_L0:=by kernel_rfl
def rMay_inv:(Nat→Int)→(Nat→Bool)→Nat→(Nat→Int)→(Nat→Bool)→Prop:=fun _ _ _ _ _=>True
def rMay_mu:(Nat→Int)→(Nat→Bool)→Nat→(Nat→Int)→(Nat→Bool)→Nat:=fun _ _ _ _ _=>0
theorem rMay_b {iv0:Nat→Int} (hin:InB rMay.B iv0):((-9223372036854775808)≤iv0 0∧iv0 0≤9223372036854775807)∧((-9223372036854775808)≤iv0 1∧iv0 1≤9223372036854775807)∧((-9223372036854775808)≤iv0 2∧iv0 2≤9223372036854775807):=by
 have b0:=hin 0 (-9223372036854775808) 9223372036854775807 (by simp [rMay,o1,flF,fH,lH,apN,pbN,apM,pbM,oMo,rowV,zeroV,i64b,SI.fl,flay,flayL])
 simp only [Int.reduceLE,reduceIte,Int.reduceNeg] at b0
 have b1:=hin 1 (-9223372036854775808) 9223372036854775807 (by simp [rMay,o1,flF,fH,lH,apN,pbN,apM,pbM,oMo,rowV,zeroV,i64b,SI.fl,flay,flayL])
 simp only [Int.reduceLE,reduceIte,Int.reduceNeg] at b1
 have b2:=hin 2 (-9223372036854775808) 9223372036854775807 (by simp [rMay,o1,flF,fH,lH,apN,pbN,apM,pbM,oMo,rowV,zeroV,i64b,SI.fl,flay,flayL])
 simp only [Int.reduceLE,reduceIte,Int.reduceNeg] at b2
 exact ⟨b0,b1,b2⟩
def rMay_ob (k:Nat) (l:List Lf):Prop:=∀ (kv:Kv) (iv0:Nat→Int) (bv0:Nat→Bool),InB rMay.B iv0→FT (sta FI FB kv iv0 bv0) (dlt dyn0) rMay.F→∀ (iv:Nat→Int) (bv:Nat→Bool),Agr 3 iv0 bv0 iv bv→rMay_inv iv0 bv0 k iv bv→∀ lf∈l,LfT (sta FI FB kv) rMay.os (rMay_inv iv0 bv0) (rMay_mu iv0 bv0) k iv bv lf
theorem rMay_o0:rMay_ob 0 rMay_L0:=by
 intro kv iv0 bv0 hin hF iv bv ha hi
 unfold rMay_L0
 refine List.forall_mem_cons.2 ⟨?_,List.forall_mem_cons.2 ⟨?_,List.forall_mem_cons.2 ⟨?_,List.forall_mem_cons.2 ⟨?_,List.forall_mem_cons.2 ⟨?_,List.forall_mem_cons.2 ⟨?_,List.forall_mem_cons.2 ⟨?_,List.forall_mem_nil _⟩⟩⟩⟩⟩⟩⟩
 all_goals
  intro δ hf
 all_goals
  obtain ⟨b0,b1,b2⟩:=rMay_b hin
 all_goals
  have a0:=ha.1 0 (by omega)
  have a1:=ha.1 1 (by omega)
  have a2:=ha.1 2 (by omega)
 all_goals
  simp only [FT,TP,SB.tp,SI.tv,sta,IB.eval,and_true,true_and,ObsT,Ob.Tv,rowT,kix,In.tiv,↓tbvT,In.tbv,get_cons,get_nil,reduceIte,Nat.reduceEqDiff,Int.reduceToNat,Int.reduceAdd,Int.reduceSub,Int.reduceLE,Int.reduceLT,Int.reduceEq,ne_eq,Bool.false_eq_true,not_true_eq_false,not_false_eq_true,true_iff,false_iff,iff_true,iff_false,false_implies,implies_true,decT,decide_true,decide_false,Bool.decide_eq_true,ap2,pb2,FI_3,FI_3g,FI_4,FI_8,FI_8m,FI_9,FI_8c,FI_8z,FB_0,FB_2,Int.toNat_natCast,Int.toNat_zero,FB_23,rMay_inv,rMay_mu,rMay,o1,othT,o1,flF,fH,lH,apN,pbN,apM,pbM,oMo,rowV,zeroV,i64b,SI.fl,flay,flayL,a0,a1,a2] at hf hi ⊢
 all_goals
  (repeat' (with_reducible apply And.intro))<;>first
  | omega
  | assumption
  | (unfold inM;omega)
  | (unfold mayP;omega)
  | (simp only [mayP];omega)
theorem rMay_c:LsC ((tm0 rMay Tryz.f135 (Tryz.f135.body.getD .skip))::[]) rMay.os [rMay_L0]:=by
 unfold rMay_L0
 exact ⟨List.forall_mem_cons.2 ⟨⟨⟨_,rfl,rfl⟩,by kernel_rfl⟩,List.forall_mem_cons.2 ⟨⟨⟨_,rfl,rfl⟩,by kernel_rfl⟩,List.forall_mem_cons.2 ⟨⟨⟨_,rfl,rfl⟩,by kernel_rfl⟩,List.forall_mem_cons.2 ⟨⟨⟨_,rfl,rfl⟩,by kernel_rfl⟩,List.forall_mem_cons.2 ⟨⟨⟨_,rfl,rfl⟩,by kernel_rfl⟩,List.forall_mem_cons.2 ⟨⟨⟨_,rfl,rfl⟩,by kernel_rfl⟩,List.forall_mem_cons.2 ⟨⟨⟨_,rfl,rfl⟩,by kernel_rfl⟩,List.forall_mem_nil _⟩⟩⟩⟩⟩⟩⟩,trivial⟩
theorem rMay_ok:rMay.Ok Tryz.prog FI FB:=
 Con.of_plain (body:=Tryz.f135.body.getD .skip) pok fiok EntsFor.nil rMay Tryz.func135 (by kernel_rfl) 3 [] (by kernel_rfl) [rMay_L0] ⟨rMay_h0,trivial⟩ rMay_c
  rMay_inv rMay_mu (fun _ _ _=>trivial) fun kv iv0 bv0 hin hF k l iv bv hk ha hi=>match k,hk,hi with
  | 0,hk,hi=>by
    cases hk
    exact rMay_o0 kv iv0 bv0 hin hF iv bv ha hi
  | k+1,hk,_=>by simp at hk
def hMay_L0:List Lf:=
 let f0_:List (SB×Bool):=[((.lt (.c 255) (.v 0)),.false),((.lt (.v 0) (.c 0)),.false)]
 let f1_:List (SB×Bool):=((.lt (.v 1) (.c 1)),.false)::f0_
 let f2_:List (SB×Bool):=((.lt (.c 1099511627776) (.v 1)),.false)::f1_
 let f3_:List (SB×Bool):=((.lt (.v 2) (.c 1)),.false)::f2_
 [(.fin ([((.lt (.v 0) (.c 0)),.true)]) 0 ⟨⟨[],[]⟩,[],[],[]⟩ [(.eb (.ap 23 (.v 0) (.v 1) (.v 2) (.c 0) (.c 0) (.c 0)) (.c .false))] []),
  (.fin ([((.lt (.c 255) (.v 0)),.true),((.lt (.v 0) (.c 0)),.false)]) 0 ⟨⟨[],[]⟩,[],[],[]⟩ [(.eb (.ap 23 (.v 0) (.v 1) (.v 2) (.c 0) (.c 0) (.c 0)) (.c .false))] []),
  (.fin (((.lt (.v 1) (.c 1)),.true)::f0_) 0 ⟨⟨[],[]⟩,[],[],[]⟩ [(.eb (.ap 23 (.v 0) (.v 1) (.v 2) (.c 0) (.c 0) (.c 0)) (.c .false))] []),
  (.fin (((.lt (.c 1099511627776) (.v 1)),.true)::f1_) 0 ⟨⟨[],[]⟩,[],[],[]⟩ [(.eb (.ap 23 (.v 0) (.v 1) (.v 2) (.c 0) (.c 0) (.c 0)) (.c .false))] []),
  (.fin (((.lt (.v 2) (.c 1)),.true)::f2_) 0 ⟨⟨[],[]⟩,[],[],[]⟩ [(.eb (.ap 23 (.v 0) (.v 1) (.v 2) (.c 0) (.c 0) (.c 0)) (.c .false))] []),
  (.fin (((.lt (.c 5) (.v 2)),.true)::f3_) 0 ⟨⟨[],[]⟩,[],[],[]⟩ [(.eb (.ap 23 (.v 0) (.v 1) (.v 2) (.c 0) (.c 0) (.c 0)) (.c .false))] []),
  (.fin (((.lt (.c 5) (.v 2)),.false)::f3_) 0 ⟨⟨[],[]⟩,[],[],[]⟩ [(.eb (.ap 23 (.v 0) (.v 1) (.v 2) (.c 0) (.c 0) (.c 0)) (.c .true))] [])]
def hMay_run (T:Tm):=(ex (ccOf Tryz.prog BF [29,73,75,100] hMay) ((fun _=>[]) (ccOf Tryz.prog BF [29,73,75,100] hMay)) (dw (ccOf Tryz.prog BF [29,73,75,100] hMay) ((fun _=>[]) (ccOf Tryz.prog BF [29,73,75,100] hMay)) 1000 4) (stopX [160]) 4000 T.f T.fs T.H).lfs (ccOf Tryz.prog BF [29,73,75,100] hMay) ((tm0 hMay Tryz.f160 (Tryz.f160.body.getD .skip))::[]) hMay.os
theorem hMay_h0:hMay_run (tm0 hMay Tryz.f160 (Tryz.f160.body.getD .skip))=some hMay_L0:=by kernel_rfl
def hMay_inv:(Nat→Int)→(Nat→Bool)→Nat→(Nat→Int)→(Nat→Bool)→Prop:=fun _ _ _ _ _=>True
def hMay_mu:(Nat→Int)→(Nat→Bool)→Nat→(Nat→Int)→(Nat→Bool)→Nat:=fun _ _ _ _ _=>0
theorem hMay_b {iv0:Nat→Int} (hin:InB hMay.B iv0):((-9223372036854775808)≤iv0 0∧iv0 0≤9223372036854775807)∧((-9223372036854775808)≤iv0 1∧iv0 1≤9223372036854775807)∧((-9223372036854775808)≤iv0 2∧iv0 2≤9223372036854775807):=by
 have b0:=hin 0 (-9223372036854775808) 9223372036854775807 (by simp [hMay,o1,flF,fH,lH,apN,pbN,apM,pbM,oMo,rowV,zeroV,i64b,SI.fl,flay,flayL])
 simp only [Int.reduceLE,reduceIte,Int.reduceNeg] at b0
 have b1:=hin 1 (-9223372036854775808) 9223372036854775807 (by simp [hMay,o1,flF,fH,lH,apN,pbN,apM,pbM,oMo,rowV,zeroV,i64b,SI.fl,flay,flayL])
 simp only [Int.reduceLE,reduceIte,Int.reduceNeg] at b1
 have b2:=hin 2 (-9223372036854775808) 9223372036854775807 (by simp [hMay,o1,flF,fH,lH,apN,pbN,apM,pbM,oMo,rowV,zeroV,i64b,SI.fl,flay,flayL])
 simp only [Int.reduceLE,reduceIte,Int.reduceNeg] at b2
 exact ⟨b0,b1,b2⟩
def hMay_ob (k:Nat) (l:List Lf):Prop:=∀ (kv:Kv) (iv0:Nat→Int) (bv0:Nat→Bool),InB hMay.B iv0→FT (sta FI FB kv iv0 bv0) (dlt dyn0) hMay.F→∀ (iv:Nat→Int) (bv:Nat→Bool),Agr 3 iv0 bv0 iv bv→hMay_inv iv0 bv0 k iv bv→∀ lf∈l,LfT (sta FI FB kv) hMay.os (hMay_inv iv0 bv0) (hMay_mu iv0 bv0) k iv bv lf
theorem hMay_o0:hMay_ob 0 hMay_L0:=by
 intro kv iv0 bv0 hin hF iv bv ha hi
 unfold hMay_L0
 refine List.forall_mem_cons.2 ⟨?_,List.forall_mem_cons.2 ⟨?_,List.forall_mem_cons.2 ⟨?_,List.forall_mem_cons.2 ⟨?_,List.forall_mem_cons.2 ⟨?_,List.forall_mem_cons.2 ⟨?_,List.forall_mem_cons.2 ⟨?_,List.forall_mem_nil _⟩⟩⟩⟩⟩⟩⟩
 all_goals
  intro δ hf
 all_goals
  obtain ⟨b0,b1,b2⟩:=hMay_b hin
 all_goals
  have a0:=ha.1 0 (by omega)
  have a1:=ha.1 1 (by omega)
  have a2:=ha.1 2 (by omega)
 all_goals
  simp only [FT,TP,SB.tp,SI.tv,sta,IB.eval,and_true,true_and,ObsT,Ob.Tv,rowT,kix,In.tiv,↓tbvT,In.tbv,get_cons,get_nil,reduceIte,Nat.reduceEqDiff,Int.reduceToNat,Int.reduceAdd,Int.reduceSub,Int.reduceLE,Int.reduceLT,Int.reduceEq,ne_eq,Bool.false_eq_true,not_true_eq_false,not_false_eq_true,true_iff,false_iff,iff_true,iff_false,false_implies,implies_true,decT,decide_true,decide_false,Bool.decide_eq_true,ap2,pb2,FI_3,FI_3g,FI_4,FI_8,FI_8m,FI_9,FI_8c,FI_8z,FB_0,FB_2,Int.toNat_natCast,Int.toNat_zero,FB_23,hMay_inv,hMay_mu,hMay,o1,othT,o1,flF,fH,lH,apN,pbN,apM,pbM,oMo,rowV,zeroV,i64b,SI.fl,flay,flayL,a0,a1,a2] at hf hi ⊢
 all_goals
  (repeat' (with_reducible apply And.intro))<;>first
  | omega
  | assumption
  | (unfold inM;omega)
  | (unfold mayP;omega)
  | (simp only [mayP];omega)
theorem hMay_c:LsC ((tm0 hMay Tryz.f160 (Tryz.f160.body.getD .skip))::[]) hMay.os [hMay_L0]:=by
 unfold hMay_L0
 exact ⟨List.forall_mem_cons.2 ⟨⟨⟨_,rfl,rfl⟩,by kernel_rfl⟩,List.forall_mem_cons.2 ⟨⟨⟨_,rfl,rfl⟩,by kernel_rfl⟩,List.forall_mem_cons.2 ⟨⟨⟨_,rfl,rfl⟩,by kernel_rfl⟩,List.forall_mem_cons.2 ⟨⟨⟨_,rfl,rfl⟩,by kernel_rfl⟩,List.forall_mem_cons.2 ⟨⟨⟨_,rfl,rfl⟩,by kernel_rfl⟩,List.forall_mem_cons.2 ⟨⟨⟨_,rfl,rfl⟩,by kernel_rfl⟩,List.forall_mem_cons.2 ⟨⟨⟨_,rfl,rfl⟩,by kernel_rfl⟩,List.forall_mem_nil _⟩⟩⟩⟩⟩⟩⟩,trivial⟩
theorem hMay_ok:hMay.Ok Tryz.prog FI FB:=
 Con.of_plain (body:=Tryz.f160.body.getD .skip) pok fiok EntsFor.nil hMay Tryz.func160 (by kernel_rfl) 3 [] (by kernel_rfl) [hMay_L0] ⟨hMay_h0,trivial⟩ hMay_c
  hMay_inv hMay_mu (fun _ _ _=>trivial) fun kv iv0 bv0 hin hF k l iv bv hk ha hi=>match k,hk,hi with
  | 0,hk,hi=>by
    cases hk
    exact hMay_o0 kv iv0 bv0 hin hF iv bv ha hi
  | k+1,hk,_=>by simp at hk
def hModes_T1:Tm:=⟨⟨158,19,[(8,(.it .i64 (.c 0))),(7,(.it .i64 (.ap 200 (.v 0) (.c 0) (.c 0) (.c 0) (.c 0) (.c 0)))),(6,(.fs 4 (.v 0))),(2,.sn)],[(.code (atC Tryz.f158 [1,0,1,0,0])),(.inLoop (atC Tryz.f158 [1,0,1,0,0])),(.inBlock 0),(.code (atC Tryz.f158 [1,1]))],[],.none⟩,[],
    ⟨[],0,0,0,[((.le (.ap 200 (.v 0) (.c 0) (.c 0) (.c 0) (.c 0) (.c 0)) (.c 300)),.true)],[0],[]⟩,[]⟩
def hModes_T2:Tm:=⟨⟨158,19,[(8,(.it .i64 (.v 24))),(2,(.sl (.n 2) (.c 0) (.v 29) (.v 21))),(7,(.it .i64 (.ap 200 (.v 0) (.c 0) (.c 0) (.c 0) (.c 0) (.c 0)))),(6,(.fs 4 (.v 0)))],[(.code (atC Tryz.f158 [1,0,1,0,0])),(.inLoop (atC Tryz.f158 [1,0,1,0,0])),(.inBlock 0),(.code (atC Tryz.f158 [1,1]))],[],.none⟩,[],
    ⟨[(2,(.arr [(.nt .i64)] (.v 25) (.v 29) 71 (.v 21)))],3,0,0,[((.lt (.c 0) (.ap 200 (.v 0) (.c 0) (.c 0) (.c 0) (.c 0) (.c 0))),.true),((.le (.ap 200 (.v 0) (.c 0) (.c 0) (.c 0) (.c 0) (.c 0)) (.c 300)),.true)],[0],[(29,(0,4611686018427387904)),(24,(1,0))]⟩,[29,24,25,21]⟩
def hModes_L0:List Lf:=
 [(.cut ([((.le (.ap 200 (.v 0) (.c 0) (.c 0) (.c 0) (.c 0) (.c 0)) (.c 300)),.true)]) 1 ⟨⟨[],[]⟩,[],[],[]⟩ [] (shT hModes_T1 ⟨⟨[],[]⟩,[],[],[]⟩))]
def hModes_L1:List Lf:=
 let x0_:SI:=(.ap 3 (.v 0) (.c 0) (.c 2) (.c 0) (.c 0) (.c 0))
 let x1_:SI:=(.ap 200 (.v 0) (.c 0) (.c 0) (.c 0) (.c 0) (.c 0))
 [(let i_:In:=⟨⟨[(25,(.ap 8 (.c 0) (.c 0) (.c 0) x0_ (.c 0) (.c 0))),(21,(.d 0)),(29,(.c 1)),(24,(.c 1))],[]⟩,[(2,2)],[],[]⟩;.cut ([((.le (.c 1) (.d 0)),.true),((.lt (.c 0) x1_),.true),((.le x1_ (.c 300)),.true)]) 2 i_ [(.ei (.ap 3 (.ap 8 (.c 0) (.c 0) (.c 0) x0_ (.c 0) (.c 0)) (.c 0) (.c 0) (.c 0) (.c 0) (.c 0)) (.ap 3 (.v 0) (.c 0) (.c 2) (.c 0) (.c 0) (.c 0))),(.fa (.le (.c 1) (.c 1)) .true),(.fa (.le (.c 1) (.d 0)) .true)] (shT hModes_T2 i_)),
  (.fin ([((.lt (.c 0) x1_),.false),((.le x1_ (.c 300)),.true)]) 0 ⟨⟨[],[]⟩,[],[],[]⟩ [] [])]
def hModes_L2:List Lf:=
 let x0_:SI:=(.ap 200 (.v 0) (.c 0) (.c 0) (.c 0) (.c 0) (.c 0))
 let f0_:List (SB×Bool):=[((.lt (.c 0) x0_),.true),((.le x0_ (.c 300)),.true)]
 let f1_:List (SB×Bool):=((.lt (.v 24) x0_),.true)::f0_
 [(let i_:In:=⟨⟨[(25,(.ap 8 (.v 25) (.v 29) (.c 0) (.ap 3 (.v 0) (.v 24) (.c 2) (.c 0) (.c 0) (.c 0)) (.c 0) (.c 0))),(21,(.d 0)),(29,(.op .add (.v 29) (.c 1))),(24,(.wk .i64 (.op .add (.v 24) (.c 1))))],[]⟩,[(2,5)],[],[]⟩;.cut (((.le (.op .add (.v 29) (.c 1)) (.d 0)),.true)::((.le (.op .add (.v 29) (.c 1)) (.c 16777216)),.true)::f1_) 2 i_ [(.rn (.wk .i64 (.op .add (.v 24) (.c 1))) 1 0)] (shT hModes_T2 i_)),
  (.bad (((.le (.op .add (.v 29) (.c 1)) (.c 16777216)),.false)::f1_)),
  (.fin (((.lt (.v 24) x0_),.false)::f0_) 1 ⟨⟨[],[]⟩,[(0,2)],[(0,(.v 21))],[]⟩ [(.ei (.ap 200 (.v 0) (.c 0) (.c 0) (.c 0) (.c 0) (.c 0)) (.v 29)),(.ar [(.nt .i64)] (.ap 20 (.v 0) x0_ (.c 0) (.c 0) (.c 0) (.c 0)) (.v 25) (.ap 200 (.v 0) (.c 0) (.c 0) (.c 0) (.c 0) (.c 0))),(.fa (.le x0_ (.v 29)) .true),(.fa (.le x0_ (.v 21)) .true)] [.none])]
def hModes_run (T:Tm):=(ex (ccOf Tryz.prog BF [29,73,75,100] hModes) ((fun _=>[]) (ccOf Tryz.prog BF [29,73,75,100] hModes)) (dw (ccOf Tryz.prog BF [29,73,75,100] hModes) ((fun _=>[]) (ccOf Tryz.prog BF [29,73,75,100] hModes)) 1000 4) (stopX []) 4000 T.f T.fs T.H).lfs (ccOf Tryz.prog BF [29,73,75,100] hModes) ((tm0 hModes Tryz.f158 (Tryz.f158.body.getD .skip))::[hModes_T1,hModes_T2]) hModes.os
theorem hModes_h0:hModes_run (tm0 hModes Tryz.f158 (Tryz.f158.body.getD .skip))=some hModes_L0:=by kernel_rfl
theorem hModes_h1:hModes_run hModes_T1=some hModes_L1:=by kernel_rfl
theorem hModes_h2:hModes_run hModes_T2=some hModes_L2:=by kernel_rfl
def hModes_inv:(Nat→Int)→(Nat→Bool)→Nat→(Nat→Int)→(Nat→Bool)→Prop:=fun iv0 _ k iv _=>match k with
 | 0=>True
 | 1=>True
 | _=>1≤iv 24∧iv 24≤(flenC (iv0 0))∧iv 24=iv 29∧iv 29≤iv 21∧∀ j:Nat,(j:Int) < iv 24→fl (iv 25) j 0=fl (iv0 0) j 2
def hModes_mu:(Nat→Int)→(Nat→Bool)→Nat→(Nat→Int)→(Nat→Bool)→Nat:=fun iv0 _ k iv _=>match k with | 0=>2 ^ 90 | 1=>2 ^ 80 | _=>((flenC (iv0 0)) - iv 24).toNat
def hModes_ob (k:Nat) (l:List Lf):Prop:=∀ (kv:Kv) (iv0:Nat→Int) (bv0:Nat→Bool),InB hModes.B iv0→FT (sta FI FB kv iv0 bv0) (dlt dyn0) hModes.F→∀ (iv:Nat→Int) (bv:Nat→Bool),Agr 1 iv0 bv0 iv bv→hModes_inv iv0 bv0 k iv bv→∀ lf∈l,LfT (sta FI FB kv) hModes.os (hModes_inv iv0 bv0) (hModes_mu iv0 bv0) k iv bv lf
theorem hModes_o0:hModes_ob 0 hModes_L0:=by
 intro kv iv0 bv0 hin hF iv bv ha hi
 unfold hModes_L0
 refine List.forall_mem_cons.2 ⟨?_,List.forall_mem_nil _⟩
 all_goals
  intro δ hf
 all_goals
  have a0:=ha.1 0 (by omega)
 all_goals
  simp only [FT,TP,SB.tp,SI.tv,sta,IB.eval,and_true,true_and,ObsT,Ob.Tv,rowT,kix,In.tiv,↓tbvT,In.tbv,get_cons,get_nil,reduceIte,Nat.reduceEqDiff,Int.reduceToNat,Int.reduceAdd,Int.reduceSub,Int.reduceLE,Int.reduceLT,Int.reduceEq,ne_eq,Bool.false_eq_true,not_true_eq_false,not_false_eq_true,true_iff,false_iff,iff_true,iff_false,false_implies,implies_true,decT,decide_true,decide_false,Bool.decide_eq_true,ap2,pb2,FI_3,FI_3g,FI_4,FI_8,FI_8m,FI_9,FI_8c,FI_8z,FI_200,FB_0,FB_2,Int.toNat_natCast,Int.toNat_zero,FI_20,FI_71,FB_20,hModes_inv,hModes_mu,hModes,o1,othT,o1,flF,fH,lH,apN,pbN,apM,pbM,oMo,rowV,zeroV,i64b,SI.fl,flay,flayL,a0] at hf hi ⊢
 all_goals
  have n0:=flenC_nn (iv0 0)
 all_goals
  (repeat' (with_reducible apply And.intro))<;>first
  | omega
  | assumption
  | (unfold inM;omega)
theorem hModes_o1:hModes_ob 1 hModes_L1:=by
 intro kv iv0 bv0 hin hF iv bv ha hi
 unfold hModes_L1
 refine List.forall_mem_cons.2 ⟨?_,List.forall_mem_cons.2 ⟨?_,List.forall_mem_nil _⟩⟩
 all_goals
  intro δ hf
 all_goals
  have a0:=ha.1 0 (by omega)
 all_goals
  simp only [FT,TP,SB.tp,SI.tv,sta,IB.eval,and_true,true_and,ObsT,Ob.Tv,rowT,kix,In.tiv,↓tbvT,In.tbv,get_cons,get_nil,reduceIte,Nat.reduceEqDiff,Int.reduceToNat,Int.reduceAdd,Int.reduceSub,Int.reduceLE,Int.reduceLT,Int.reduceEq,ne_eq,Bool.false_eq_true,not_true_eq_false,not_false_eq_true,true_iff,false_iff,iff_true,iff_false,false_implies,implies_true,decT,decide_true,decide_false,Bool.decide_eq_true,ap2,pb2,FI_3,FI_3g,FI_4,FI_8,FI_8m,FI_9,FI_8c,FI_8z,FI_200,FB_0,FB_2,Int.toNat_natCast,Int.toNat_zero,FI_20,FI_71,FB_20,hModes_inv,hModes_mu,hModes,o1,othT,o1,flF,fH,lH,apN,pbN,apM,pbM,oMo,rowV,zeroV,i64b,SI.fl,flay,flayL,a0] at hf hi ⊢
 all_goals
  have n0:=flenC_nn (iv0 0)
 all_goals
  (repeat' (with_reducible apply And.intro))<;>first
  | omega
  | assumption
  | (unfold inM;omega)
  | exact set_row (k:=0) (by omega) (fun j hj=>by omega) rfl 0 (by omega)
  | exact fun j hj=>set_row (k:=0) (by omega) (fun j hj=>by omega) rfl j (by omega)
theorem hModes_o2:hModes_ob 2 hModes_L2:=by
 intro kv iv0 bv0 hin hF iv bv ha hi
 unfold hModes_L2
 refine List.forall_mem_cons.2 ⟨?_,List.forall_mem_cons.2 ⟨?_,List.forall_mem_cons.2 ⟨?_,List.forall_mem_nil _⟩⟩⟩
 all_goals
  intro δ hf
 all_goals
  have a0:=ha.1 0 (by omega)
 all_goals
  simp only [FT,TP,SB.tp,SI.tv,sta,IB.eval,and_true,true_and,ObsT,Ob.Tv,rowT,kix,In.tiv,↓tbvT,In.tbv,get_cons,get_nil,reduceIte,Nat.reduceEqDiff,Int.reduceToNat,Int.reduceAdd,Int.reduceSub,Int.reduceLE,Int.reduceLT,Int.reduceEq,ne_eq,Bool.false_eq_true,not_true_eq_false,not_false_eq_true,true_iff,false_iff,iff_true,iff_false,false_implies,implies_true,decT,decide_true,decide_false,Bool.decide_eq_true,ap2,pb2,FI_3,FI_3g,FI_4,FI_8,FI_8m,FI_9,FI_8c,FI_8z,FI_200,FB_0,FB_2,Int.toNat_natCast,Int.toNat_zero,FI_20,FI_71,FB_20,hModes_inv,hModes_mu,hModes,o1,othT,o1,flF,fH,lH,apN,pbN,apM,pbM,oMo,rowV,zeroV,i64b,SI.fl,flay,flayL,a0] at hf hi ⊢
 all_goals
  have n0:=flenC_nn (iv0 0)
 all_goals
  obtain ⟨g0,g1,g2,g3,g4⟩:=hi
 all_goals
  have w0:iv 24≤300→IntKind.i64.wrap (iv 24+1)=iv 24+1:=fun _=>by rw [wrap_i64];omega
 all_goals
  try rw [w0 (by omega)]
 all_goals
  try rw [← g2]
 all_goals
  have sr:=@set_row (iv0 0) (iv 25) (iv 24) _ (by omega) g4 rfl
 all_goals
  (repeat' (with_reducible apply And.intro))<;>first
  | omega
  | assumption
  | (unfold inM;omega)
  | (exact sr)
  | exact fun j hj=>by rw [fl_modesC (by omega)];exact (g4 j (by omega)).symm
  | exact fun j hj=>⟨by rw [fl_modesC (by omega)];exact (g4 j (by omega)).symm,trivial⟩
theorem hModes_c:LsC ((tm0 hModes Tryz.f158 (Tryz.f158.body.getD .skip))::[hModes_T1,hModes_T2]) hModes.os [hModes_L0,hModes_L1,hModes_L2]:=by
 unfold hModes_L0 hModes_L1 hModes_L2
 exact ⟨List.forall_mem_cons.2 ⟨⟨⟨_,rfl,rfl⟩,by kernel_rfl⟩,List.forall_mem_nil _⟩,List.forall_mem_cons.2 ⟨⟨⟨_,rfl,rfl⟩,by kernel_rfl⟩,List.forall_mem_cons.2 ⟨⟨⟨_,rfl,rfl⟩,by kernel_rfl⟩,List.forall_mem_nil _⟩⟩,List.forall_mem_cons.2 ⟨⟨⟨_,rfl,rfl⟩,by kernel_rfl⟩,List.forall_mem_cons.2 ⟨trivial,List.forall_mem_cons.2 ⟨⟨⟨_,rfl,rfl⟩,by kernel_rfl⟩,List.forall_mem_nil _⟩⟩⟩,trivial⟩
theorem hModes_ok:hModes.Ok Tryz.prog FI FB:=
 Con.of_plain (body:=Tryz.f158.body.getD .skip) pok fiok EntsFor.nil hModes Tryz.func158 (by kernel_rfl) 1 [hModes_T1,hModes_T2] (by kernel_rfl) [hModes_L0,hModes_L1,hModes_L2] ⟨hModes_h0,hModes_h1,hModes_h2,trivial⟩ hModes_c
  hModes_inv hModes_mu (fun _ _ _=>trivial) fun kv iv0 bv0 hin hF k l iv bv hk ha hi=>match k,hk,hi with
  | 0,hk,hi=>by
    cases hk
    exact hModes_o0 kv iv0 bv0 hin hF iv bv ha hi
  | 1,hk,hi=>by
    cases hk
    exact hModes_o1 kv iv0 bv0 hin hF iv bv ha hi
  | 2,hk,hi=>by
    cases hk
    exact hModes_o2 kv iv0 bv0 hin hF iv bv ha hi
  | k+3,hk,_=>by simp at hk
def rModes_T1:Tm:=⟨⟨137,20,[(4,(.it .i64 (.c 0))),(3,.sn),(0,(.fs 4 (.v 0)))],[(.code (atC Tryz.f137 [1,1,0,1,0,0])),(.inLoop (atC Tryz.f137 [1,1,0,1,0,0])),(.inBlock 0),(.code (atC Tryz.f137 [1,1,1]))],[],.none⟩,[],
    ⟨[],0,0,0,[((.le (.ap 200 (.v 0) (.c 0) (.c 0) (.c 0) (.c 0) (.c 0)) (.c 300)),.true)],[0],[]⟩,[]⟩
def rModes_T2:Tm:=⟨⟨137,20,[(4,(.it .i64 (.v 24))),(3,(.sl (.n 1) (.c 0) (.v 29) (.v 21))),(0,(.fs 4 (.v 0)))],[(.code (atC Tryz.f137 [1,1,0,1,0,0])),(.inLoop (atC Tryz.f137 [1,1,0,1,0,0])),(.inBlock 0),(.code (atC Tryz.f137 [1,1,1]))],[],.none⟩,[],
    ⟨[(1,(.arr [(.nt .i64)] (.v 25) (.v 29) 71 (.v 21)))],2,0,0,[((.lt (.c 0) (.ap 200 (.v 0) (.c 0) (.c 0) (.c 0) (.c 0) (.c 0))),.true),((.le (.ap 200 (.v 0) (.c 0) (.c 0) (.c 0) (.c 0) (.c 0)) (.c 300)),.true)],[0],[(29,(0,4611686018427387904)),(24,(1,0))]⟩,[29,24,25,21]⟩
def rModes_L0:List Lf:=
 [(.cut ([((.le (.ap 200 (.v 0) (.c 0) (.c 0) (.c 0) (.c 0) (.c 0)) (.c 300)),.true)]) 1 ⟨⟨[],[]⟩,[],[],[]⟩ [] (shT rModes_T1 ⟨⟨[],[]⟩,[],[],[]⟩))]
def rModes_L1:List Lf:=
 let x0_:SI:=(.ap 3 (.v 0) (.c 0) (.c 2) (.c 0) (.c 0) (.c 0))
 let x1_:SI:=(.ap 200 (.v 0) (.c 0) (.c 0) (.c 0) (.c 0) (.c 0))
 [(let i_:In:=⟨⟨[(25,(.ap 8 (.c 0) (.c 0) (.c 0) x0_ (.c 0) (.c 0))),(21,(.d 0)),(29,(.c 1)),(24,(.c 1))],[]⟩,[(1,1)],[],[]⟩;.cut ([((.le (.c 1) (.d 0)),.true),((.lt (.c 0) x1_),.true),((.le x1_ (.c 300)),.true)]) 2 i_ [(.ei (.ap 3 (.ap 8 (.c 0) (.c 0) (.c 0) x0_ (.c 0) (.c 0)) (.c 0) (.c 0) (.c 0) (.c 0) (.c 0)) (.ap 3 (.v 0) (.c 0) (.c 2) (.c 0) (.c 0) (.c 0))),(.fa (.le (.c 1) (.c 1)) .true),(.fa (.le (.c 1) (.d 0)) .true)] (shT rModes_T2 i_)),
  (.fin ([((.lt (.c 0) x1_),.false),((.le x1_ (.c 300)),.true)]) 0 ⟨⟨[],[]⟩,[],[],[]⟩ [] [])]
def rModes_L2:List Lf:=
 let x0_:SI:=(.ap 200 (.v 0) (.c 0) (.c 0) (.c 0) (.c 0) (.c 0))
 let f0_:List (SB×Bool):=[((.lt (.c 0) x0_),.true),((.le x0_ (.c 300)),.true)]
 let f1_:List (SB×Bool):=((.lt (.v 24) x0_),.true)::f0_
 [(let i_:In:=⟨⟨[(25,(.ap 8 (.v 25) (.v 29) (.c 0) (.ap 3 (.v 0) (.v 24) (.c 2) (.c 0) (.c 0) (.c 0)) (.c 0) (.c 0))),(21,(.d 0)),(29,(.op .add (.v 29) (.c 1))),(24,(.wk .i64 (.op .add (.v 24) (.c 1))))],[]⟩,[(1,3)],[],[]⟩;.cut (((.le (.op .add (.v 29) (.c 1)) (.d 0)),.true)::((.le (.op .add (.v 29) (.c 1)) (.c 16777216)),.true)::f1_) 2 i_ [(.rn (.wk .i64 (.op .add (.v 24) (.c 1))) 1 0)] (shT rModes_T2 i_)),
  (.bad (((.le (.op .add (.v 29) (.c 1)) (.c 16777216)),.false)::f1_)),
  (.fin (((.lt (.v 24) x0_),.false)::f0_) 1 ⟨⟨[],[]⟩,[(0,1)],[(0,(.v 21))],[]⟩ [(.ei (.ap 200 (.v 0) (.c 0) (.c 0) (.c 0) (.c 0) (.c 0)) (.v 29)),(.ar [(.nt .i64)] (.ap 20 (.v 0) x0_ (.c 0) (.c 0) (.c 0) (.c 0)) (.v 25) (.ap 200 (.v 0) (.c 0) (.c 0) (.c 0) (.c 0) (.c 0))),(.fa (.le x0_ (.v 29)) .true),(.fa (.le x0_ (.v 21)) .true)] [.none])]
def rModes_run (T:Tm):=(ex (ccOf Tryz.prog BF [29,73,75,100] rModes) ((fun _=>[]) (ccOf Tryz.prog BF [29,73,75,100] rModes)) (dw (ccOf Tryz.prog BF [29,73,75,100] rModes) ((fun _=>[]) (ccOf Tryz.prog BF [29,73,75,100] rModes)) 1000 4) (stopX []) 4000 T.f T.fs T.H).lfs (ccOf Tryz.prog BF [29,73,75,100] rModes) ((tm0 rModes Tryz.f137 (Tryz.f137.body.getD .skip))::[rModes_T1,rModes_T2]) rModes.os
theorem rModes_h0:rModes_run (tm0 rModes Tryz.f137 (Tryz.f137.body.getD .skip))=some rModes_L0:=by kernel_rfl
theorem rModes_h1:rModes_run rModes_T1=some rModes_L1:=by kernel_rfl
theorem rModes_h2:rModes_run rModes_T2=some rModes_L2:=by kernel_rfl
def rModes_inv:(Nat→Int)→(Nat→Bool)→Nat→(Nat→Int)→(Nat→Bool)→Prop:=fun iv0 _ k iv _=>match k with
 | 0=>True
 | 1=>True
 | _=>1≤iv 24∧iv 24≤(flenC (iv0 0))∧iv 24=iv 29∧iv 29≤iv 21∧∀ j:Nat,(j:Int) < iv 24→fl (iv 25) j 0=fl (iv0 0) j 2
def rModes_mu:(Nat→Int)→(Nat→Bool)→Nat→(Nat→Int)→(Nat→Bool)→Nat:=fun iv0 _ k iv _=>match k with | 0=>2 ^ 90 | 1=>2 ^ 80 | _=>((flenC (iv0 0)) - iv 24).toNat
def rModes_ob (k:Nat) (l:List Lf):Prop:=∀ (kv:Kv) (iv0:Nat→Int) (bv0:Nat→Bool),InB rModes.B iv0→FT (sta FI FB kv iv0 bv0) (dlt dyn0) rModes.F→∀ (iv:Nat→Int) (bv:Nat→Bool),Agr 1 iv0 bv0 iv bv→rModes_inv iv0 bv0 k iv bv→∀ lf∈l,LfT (sta FI FB kv) rModes.os (rModes_inv iv0 bv0) (rModes_mu iv0 bv0) k iv bv lf
theorem rModes_o0:rModes_ob 0 rModes_L0:=by
 intro kv iv0 bv0 hin hF iv bv ha hi
 unfold rModes_L0
 refine List.forall_mem_cons.2 ⟨?_,List.forall_mem_nil _⟩
 all_goals
  intro δ hf
 all_goals
  have a0:=ha.1 0 (by omega)
 all_goals
  simp only [FT,TP,SB.tp,SI.tv,sta,IB.eval,and_true,true_and,ObsT,Ob.Tv,rowT,kix,In.tiv,↓tbvT,In.tbv,get_cons,get_nil,reduceIte,Nat.reduceEqDiff,Int.reduceToNat,Int.reduceAdd,Int.reduceSub,Int.reduceLE,Int.reduceLT,Int.reduceEq,ne_eq,Bool.false_eq_true,not_true_eq_false,not_false_eq_true,true_iff,false_iff,iff_true,iff_false,false_implies,implies_true,decT,decide_true,decide_false,Bool.decide_eq_true,ap2,pb2,FI_3,FI_3g,FI_4,FI_8,FI_8m,FI_9,FI_8c,FI_8z,FI_200,FB_0,FB_2,Int.toNat_natCast,Int.toNat_zero,FI_20,FI_71,FB_20,rModes_inv,rModes_mu,rModes,o1,othT,o1,flF,fH,lH,apN,pbN,apM,pbM,oMo,rowV,zeroV,i64b,SI.fl,flay,flayL,a0] at hf hi ⊢
 all_goals
  have n0:=flenC_nn (iv0 0)
 all_goals
  (repeat' (with_reducible apply And.intro))<;>first
  | omega
  | assumption
  | (unfold inM;omega)
theorem rModes_o1:rModes_ob 1 rModes_L1:=by
 intro kv iv0 bv0 hin hF iv bv ha hi
 unfold rModes_L1
 refine List.forall_mem_cons.2 ⟨?_,List.forall_mem_cons.2 ⟨?_,List.forall_mem_nil _⟩⟩
 all_goals
  intro δ hf
 all_goals
  have a0:=ha.1 0 (by omega)
 all_goals
  simp only [FT,TP,SB.tp,SI.tv,sta,IB.eval,and_true,true_and,ObsT,Ob.Tv,rowT,kix,In.tiv,↓tbvT,In.tbv,get_cons,get_nil,reduceIte,Nat.reduceEqDiff,Int.reduceToNat,Int.reduceAdd,Int.reduceSub,Int.reduceLE,Int.reduceLT,Int.reduceEq,ne_eq,Bool.false_eq_true,not_true_eq_false,not_false_eq_true,true_iff,false_iff,iff_true,iff_false,false_implies,implies_true,decT,decide_true,decide_false,Bool.decide_eq_true,ap2,pb2,FI_3,FI_3g,FI_4,FI_8,FI_8m,FI_9,FI_8c,FI_8z,FI_200,FB_0,FB_2,Int.toNat_natCast,Int.toNat_zero,FI_20,FI_71,FB_20,rModes_inv,rModes_mu,rModes,o1,othT,o1,flF,fH,lH,apN,pbN,apM,pbM,oMo,rowV,zeroV,i64b,SI.fl,flay,flayL,a0] at hf hi ⊢
 all_goals
  have n0:=flenC_nn (iv0 0)
 all_goals
  (repeat' (with_reducible apply And.intro))<;>first
  | omega
  | assumption
  | (unfold inM;omega)
  | exact set_row (k:=0) (by omega) (fun j hj=>by omega) rfl 0 (by omega)
  | exact fun j hj=>set_row (k:=0) (by omega) (fun j hj=>by omega) rfl j (by omega)
theorem rModes_o2:rModes_ob 2 rModes_L2:=by
 intro kv iv0 bv0 hin hF iv bv ha hi
 unfold rModes_L2
 refine List.forall_mem_cons.2 ⟨?_,List.forall_mem_cons.2 ⟨?_,List.forall_mem_cons.2 ⟨?_,List.forall_mem_nil _⟩⟩⟩
 all_goals
  intro δ hf
 all_goals
  have a0:=ha.1 0 (by omega)
 all_goals
  simp only [FT,TP,SB.tp,SI.tv,sta,IB.eval,and_true,true_and,ObsT,Ob.Tv,rowT,kix,In.tiv,↓tbvT,In.tbv,get_cons,get_nil,reduceIte,Nat.reduceEqDiff,Int.reduceToNat,Int.reduceAdd,Int.reduceSub,Int.reduceLE,Int.reduceLT,Int.reduceEq,ne_eq,Bool.false_eq_true,not_true_eq_false,not_false_eq_true,true_iff,false_iff,iff_true,iff_false,false_implies,implies_true,decT,decide_true,decide_false,Bool.decide_eq_true,ap2,pb2,FI_3,FI_3g,FI_4,FI_8,FI_8m,FI_9,FI_8c,FI_8z,FI_200,FB_0,FB_2,Int.toNat_natCast,Int.toNat_zero,FI_20,FI_71,FB_20,rModes_inv,rModes_mu,rModes,o1,othT,o1,flF,fH,lH,apN,pbN,apM,pbM,oMo,rowV,zeroV,i64b,SI.fl,flay,flayL,a0] at hf hi ⊢
 all_goals
  have n0:=flenC_nn (iv0 0)
 all_goals
  obtain ⟨g0,g1,g2,g3,g4⟩:=hi
 all_goals
  have w0:iv 24≤300→IntKind.i64.wrap (iv 24+1)=iv 24+1:=fun _=>by rw [wrap_i64];omega
 all_goals
  try rw [w0 (by omega)]
 all_goals
  try rw [← g2]
 all_goals
  have sr:=@set_row (iv0 0) (iv 25) (iv 24) _ (by omega) g4 rfl
 all_goals
  (repeat' (with_reducible apply And.intro))<;>first
  | omega
  | assumption
  | (unfold inM;omega)
  | (exact sr)
  | exact fun j hj=>by rw [fl_modesC (by omega)];exact (g4 j (by omega)).symm
  | exact fun j hj=>⟨by rw [fl_modesC (by omega)];exact (g4 j (by omega)).symm,trivial⟩
theorem rModes_c:LsC ((tm0 rModes Tryz.f137 (Tryz.f137.body.getD .skip))::[rModes_T1,rModes_T2]) rModes.os [rModes_L0,rModes_L1,rModes_L2]:=by
 unfold rModes_L0 rModes_L1 rModes_L2
 exact ⟨List.forall_mem_cons.2 ⟨⟨⟨_,rfl,rfl⟩,by kernel_rfl⟩,List.forall_mem_nil _⟩,List.forall_mem_cons.2 ⟨⟨⟨_,rfl,rfl⟩,by kernel_rfl⟩,List.forall_mem_cons.2 ⟨⟨⟨_,rfl,rfl⟩,by kernel_rfl⟩,List.forall_mem_nil _⟩⟩,List.forall_mem_cons.2 ⟨⟨⟨_,rfl,rfl⟩,by kernel_rfl⟩,List.forall_mem_cons.2 ⟨trivial,List.forall_mem_cons.2 ⟨⟨⟨_,rfl,rfl⟩,by kernel_rfl⟩,List.forall_mem_nil _⟩⟩⟩,trivial⟩
theorem rModes_ok:rModes.Ok Tryz.prog FI FB:=
 Con.of_plain (body:=Tryz.f137.body.getD .skip) pok fiok EntsFor.nil rModes Tryz.func137 (by kernel_rfl) 1 [rModes_T1,rModes_T2] (by kernel_rfl) [rModes_L0,rModes_L1,rModes_L2] ⟨rModes_h0,rModes_h1,rModes_h2,trivial⟩ rModes_c
  rModes_inv rModes_mu (fun _ _ _=>trivial) fun kv iv0 bv0 hin hF k l iv bv hk ha hi=>match k,hk,hi with
  | 0,hk,hi=>by
    cases hk
    exact rModes_o0 kv iv0 bv0 hin hF iv bv ha hi
  | 1,hk,hi=>by
    cases hk
    exact rModes_o1 kv iv0 bv0 hin hF iv bv ha hi
  | 2,hk,hi=>by
    cases hk
    exact rModes_o2 kv iv0 bv0 hin hF iv bv ha hi
  | k+3,hk,_=>by simp at hk
def hRight_T1:Tm:=⟨⟨181,47,[(11,(.it .i64 (.v 21))),(10,(.it .i64 (.ap 200 (.v 0) (.c 0) (.c 0) (.c 0) (.c 0) (.c 0)))),(9,(.fs 4 (.v 0))),(3,(.fn 164 [] [])),(1,(.pt (.n 0) (.c 0)))],[(.code (atC Tryz.f181 [1,1,0,1,0,0])),(.inLoop (atC Tryz.f181 [1,1,0,1,0,0])),(.inBlock 0),(.code (atC Tryz.f181 [1,1,1]))],[],.none⟩,[],
    ⟨[(0,(.cells [(.fs 4 (.v 0))] 182))],1,0,0,[((.le (.ap 200 (.v 0) (.c 0) (.c 0) (.c 0) (.c 0) (.c 0)) (.c 300)),.true)],[0],[(21,(0,(-1)))]⟩,[21]⟩
def hRight_L0:List Lf:=
 [(.cut ([((.le (.ap 200 (.v 0) (.c 0) (.c 0) (.c 0) (.c 0) (.c 0)) (.c 300)),.true)]) 1 ⟨⟨[(21,(.c 0))],[]⟩,[(0,0)],[],[]⟩ [] (shT hRight_T1 ⟨⟨[(21,(.c 0))],[]⟩,[(0,0)],[],[]⟩))]
def hRight_L1:List Lf:=
 let x0_:SI:=(.wk .i64 (.op .add (.v 21) (.c (-1))))
 let x1_:SI:=(.ap 3 (.v 0) (.v 21) (.c 0) (.c 0) (.c 0) (.c 0))
 let x2_:SI:=(.ap 3 (.v 0) (.v 21) (.c 1) (.c 0) (.c 0) (.c 0))
 let x3_:SI:=(.ap 3 (.v 0) (.v 21) (.c 2) (.c 0) (.c 0) (.c 0))
 let x4_:SI:=(.ap 200 (.v 0) (.c 0) (.c 0) (.c 0) (.c 0) (.c 0))
 let x5_:SI:=(.ap 3 (.v 0) x0_ (.c 0) (.c 0) (.c 0) (.c 0))
 let x6_:SI:=(.ap 20 (.v 0) x4_ (.c 0) (.c 0) (.c 0) (.c 0))
 let f0_:List (SB×Bool):=[((.lt (.v 21) x4_),.true),((.le x4_ (.c 300)),.true)]
 let f1_:List (SB×Bool):=[((.lt (.v 21) x4_),.false),((.le x4_ (.c 300)),.true)]
 let f2_:List (SB×Bool):=((.ap 23 x1_ x2_ x3_ (.c 0) (.c 0) (.c 0)),.true)::f0_
 let f3_:List (SB×Bool):=((.lt (.c 0) (.v 21)),.true)::f2_
 let f4_:List (SB×Bool):=((.le x4_ (.d 0)),.true)::((.lt (.c 0) x4_),.true)::f1_
 let f5_:List (SB×Bool):=((.le (.c 0) x0_),.true)::f3_
 let f6_:List (SB×Bool):=((.lt x0_ x4_),.true)::f5_
 let f7_:List (SB×Bool):=((.lt x5_ x1_),.false)::f6_
 [(let i_:In:=⟨⟨[(21,(.wk .i64 (.op .add (.v 21) (.c 1))))],[]⟩,[(0,0)],[],[]⟩;.cut (((.lt x5_ x1_),.true)::f6_) 1 i_ [(.rn (.wk .i64 (.op .add (.v 21) (.c 1))) 0 (-1))] (shT hRight_T1 i_)),
  (.fin (((.lt x1_ x5_),.true)::f7_) 0 ⟨⟨[],[]⟩,[],[],[]⟩ [(.eb (.ap 20 (.v 0) x4_ (.c 0) (.c 0) (.c 0) (.c 0)) (.c .false))] []),
  (.fin (((.lt x1_ x5_),.false)::f7_) 0 ⟨⟨[],[]⟩,[],[],[]⟩ [(.eb (.ap 20 (.v 0) x4_ (.c 0) (.c 0) (.c 0) (.c 0)) (.c .false))] []),
  (.bad (((.lt x0_ x4_),.false)::f5_)),
  (.bad (((.le (.c 0) x0_),.false)::f3_)),
  (.cut (((.lt (.c 0) (.v 21)),.false)::f2_) 1 ⟨⟨[(21,(.op .add (.v 21) (.c 1)))],[]⟩,[(0,0)],[],[]⟩ [] (shT hRight_T1 ⟨⟨[(21,(.op .add (.v 21) (.c 1)))],[]⟩,[(0,0)],[],[]⟩)),
  (.fin (((.ap 23 x1_ x2_ x3_ (.c 0) (.c 0) (.c 0)),.false)::f0_) 0 ⟨⟨[],[]⟩,[],[],[]⟩ [(.eb (.ap 20 (.v 0) x4_ (.c 0) (.c 0) (.c 0) (.c 0)) (.c .false))] []),
  (.fin (((.ap 14 x6_ x4_ (.c 0) (.c 0) (.c 0) (.c 0)),.true)::f4_) 0 ⟨⟨[],[]⟩,[],[],[]⟩ [(.eb (.ap 20 (.v 0) x4_ (.c 0) (.c 0) (.c 0) (.c 0)) (.eq (.ap 12 x6_ x4_ (.c 0) (.c 0) (.c 0) (.c 0)) (.c 0)))] []),
  (.fin (((.ap 14 x6_ x4_ (.c 0) (.c 0) (.c 0) (.c 0)),.false)::f4_) 0 ⟨⟨[],[]⟩,[],[],[]⟩ [(.eb (.ap 20 (.v 0) x4_ (.c 0) (.c 0) (.c 0) (.c 0)) (.c .false))] []),
  (.fin (((.lt (.c 0) x4_),.false)::f1_) 0 ⟨⟨[],[]⟩,[],[],[]⟩ [(.eb (.ap 20 (.v 0) x4_ (.c 0) (.c 0) (.c 0) (.c 0)) (.c .true))] [])]
def hRight_run (T:Tm):=(ex (ccOf Tryz.prog BF [29,73,75,100] hRight) ((fun cc=>[hMay.ent cc,hModes.ent cc,eTog.ent cc,eTog0.ent cc]) (ccOf Tryz.prog BF [29,73,75,100] hRight)) (dw (ccOf Tryz.prog BF [29,73,75,100] hRight) ((fun cc=>[hMay.ent cc,hModes.ent cc,eTog.ent cc,eTog0.ent cc]) (ccOf Tryz.prog BF [29,73,75,100] hRight)) 1000 4) (stopX []) 4000 T.f T.fs T.H).lfs (ccOf Tryz.prog BF [29,73,75,100] hRight) ((tm0 hRight Tryz.f181 (Tryz.f181.body.getD .skip))::[hRight_T1]) hRight.os
theorem hRight_h0:hRight_run (tm0 hRight Tryz.f181 (Tryz.f181.body.getD .skip))=some hRight_L0:=by kernel_rfl
theorem hRight_h1:hRight_run hRight_T1=some hRight_L1:=by kernel_rfl
def hRight_inv:(Nat→Int)→(Nat→Bool)→Nat→(Nat→Int)→(Nat→Bool)→Prop:=fun iv0 _ k iv _=>match k with
 | 0=>True
 | _=>0≤iv 21∧iv 21≤(flenC (iv0 0))∧mayA (iv0 0) (iv 21)
def hRight_mu:(Nat→Int)→(Nat→Bool)→Nat→(Nat→Int)→(Nat→Bool)→Nat:=fun iv0 _ k iv _=>match k with | 0=>2 ^ 80 | _=>((flenC (iv0 0)) - iv 21).toNat
def hRight_ob (k:Nat) (l:List Lf):Prop:=∀ (kv:Kv) (iv0:Nat→Int) (bv0:Nat→Bool),InB hRight.B iv0→FT (sta FI FB kv iv0 bv0) (dlt dyn0) hRight.F→∀ (iv:Nat→Int) (bv:Nat→Bool),Agr 1 iv0 bv0 iv bv→hRight_inv iv0 bv0 k iv bv→∀ lf∈l,LfT (sta FI FB kv) hRight.os (hRight_inv iv0 bv0) (hRight_mu iv0 bv0) k iv bv lf
theorem hRight_o0:hRight_ob 0 hRight_L0:=by
 intro kv iv0 bv0 hin hF iv bv ha hi
 unfold hRight_L0
 refine List.forall_mem_cons.2 ⟨?_,List.forall_mem_nil _⟩
 all_goals
  intro δ hf
 all_goals
  have a0:=ha.1 0 (by omega)
 all_goals
  simp only [FT,TP,SB.tp,SI.tv,sta,IB.eval,and_true,true_and,ObsT,Ob.Tv,rowT,kix,In.tiv,↓tbvT,In.tbv,get_cons,get_nil,reduceIte,Nat.reduceEqDiff,Int.reduceToNat,Int.reduceAdd,Int.reduceSub,Int.reduceLE,Int.reduceLT,Int.reduceEq,ne_eq,Bool.false_eq_true,not_true_eq_false,not_false_eq_true,true_iff,false_iff,iff_true,iff_false,false_implies,implies_true,decT,decide_true,decide_false,Bool.decide_eq_true,ap2,pb2,FI_3,FI_3g,FI_4,FI_8,FI_8m,FI_9,FI_8c,FI_8z,FI_200,FB_0,FB_2,Int.toNat_natCast,Int.toNat_zero,FI_12,FI_20,FB_12,FB_14,FB_20,FB_23,hRight_inv,hRight_mu,hRight,o1,othT,o1,flF,fH,lH,apN,pbN,apM,pbM,oMo,rowV,zeroV,i64b,SI.fl,flay,flayL,a0] at hf hi ⊢
 all_goals
  have n0:=flenC_nn (iv0 0)
 all_goals
  (repeat' (with_reducible apply And.intro))<;>first
  | omega
  | assumption
  | (unfold inM;omega)
  | exact fun i hi=>by omega
theorem hRight_o1:hRight_ob 1 hRight_L1:=by
 intro kv iv0 bv0 hin hF iv bv ha hi
 unfold hRight_L1
 refine List.forall_mem_cons.2 ⟨?_,List.forall_mem_cons.2 ⟨?_,List.forall_mem_cons.2 ⟨?_,List.forall_mem_cons.2 ⟨?_,List.forall_mem_cons.2 ⟨?_,List.forall_mem_cons.2 ⟨?_,List.forall_mem_cons.2 ⟨?_,List.forall_mem_cons.2 ⟨?_,List.forall_mem_cons.2 ⟨?_,List.forall_mem_cons.2 ⟨?_,List.forall_mem_nil _⟩⟩⟩⟩⟩⟩⟩⟩⟩⟩
 all_goals
  intro δ hf
 all_goals
  have a0:=ha.1 0 (by omega)
 all_goals
  simp only [FT,TP,SB.tp,SI.tv,sta,IB.eval,and_true,true_and,ObsT,Ob.Tv,rowT,kix,In.tiv,↓tbvT,In.tbv,get_cons,get_nil,reduceIte,Nat.reduceEqDiff,Int.reduceToNat,Int.reduceAdd,Int.reduceSub,Int.reduceLE,Int.reduceLT,Int.reduceEq,ne_eq,Bool.false_eq_true,not_true_eq_false,not_false_eq_true,true_iff,false_iff,iff_true,iff_false,false_implies,implies_true,decT,decide_true,decide_false,Bool.decide_eq_true,ap2,pb2,FI_3,FI_3g,FI_4,FI_8,FI_8m,FI_9,FI_8c,FI_8z,FI_200,FB_0,FB_2,Int.toNat_natCast,Int.toNat_zero,FI_12,FI_20,FB_12,FB_14,FB_20,FB_23,hRight_inv,hRight_mu,hRight,o1,othT,o1,flF,fH,lH,apN,pbN,apM,pbM,oMo,rowV,zeroV,i64b,SI.fl,flay,flayL,a0] at hf hi ⊢
 all_goals
  have n0:=flenC_nn (iv0 0)
 all_goals
  have w1:IntKind.i64.wrap (iv 21+1)=iv 21+1:=by rw [wrap_i64];omega
 all_goals
  have w2:IntKind.i64.wrap (iv 21+-1)=iv 21+-1:=by rw [wrap_i64];omega
 all_goals
  try simp only [w1,w2] at hf
 all_goals
  try simp only [w1,w2]
 all_goals
  have x1:=@mayA_ext (iv0 0) (iv 21) hi.2.2 hi.1
 all_goals
  (repeat' (with_reducible apply And.intro))<;>first
  | omega
  | assumption
  | (unfold inM;omega)
  | (clear hin hF ha;grind)
  | (exact mayA_ext hi.2.2 hi.1 (by first | exact hf.1 | exact hf.2.1 | exact hf.2.2.1) (fun h=>by omega))
  | (exact mayA_not hi.1 (by omega) fun h=>by first | exact hf.1 h.1 | (have:=h.2 (by omega);omega))
  | (rw [rgt_tog hi.2.2 (by omega) (by omega)];simp [hf.1.1,hf.1.2])
  | (exact fun h=>hf.1 ((rgt_tog hi.2.2 (by omega) (by omega)).1 h))
  | exact rgt_nil (by omega)
  | exact rgt_tog2 hi.2.2 (by omega) (by omega)
theorem hRight_c:LsC ((tm0 hRight Tryz.f181 (Tryz.f181.body.getD .skip))::[hRight_T1]) hRight.os [hRight_L0,hRight_L1]:=by
 unfold hRight_L0 hRight_L1
 exact ⟨List.forall_mem_cons.2 ⟨⟨⟨_,rfl,rfl⟩,by kernel_rfl⟩,List.forall_mem_nil _⟩,List.forall_mem_cons.2 ⟨⟨⟨_,rfl,rfl⟩,by kernel_rfl⟩,List.forall_mem_cons.2 ⟨⟨⟨_,rfl,rfl⟩,by kernel_rfl⟩,List.forall_mem_cons.2 ⟨⟨⟨_,rfl,rfl⟩,by kernel_rfl⟩,List.forall_mem_cons.2 ⟨trivial,List.forall_mem_cons.2 ⟨trivial,List.forall_mem_cons.2 ⟨⟨⟨_,rfl,rfl⟩,by kernel_rfl⟩,List.forall_mem_cons.2 ⟨⟨⟨_,rfl,rfl⟩,by kernel_rfl⟩,List.forall_mem_cons.2 ⟨⟨⟨_,rfl,rfl⟩,by kernel_rfl⟩,List.forall_mem_cons.2 ⟨⟨⟨_,rfl,rfl⟩,by kernel_rfl⟩,List.forall_mem_cons.2 ⟨⟨⟨_,rfl,rfl⟩,by kernel_rfl⟩,List.forall_mem_nil _⟩⟩⟩⟩⟩⟩⟩⟩⟩⟩,trivial⟩
theorem hRight_ok:hRight.Ok Tryz.prog FI FB:=
 Con.of_plain (body:=Tryz.f181.body.getD .skip) pok fiok (EntsFor.cons hMay_ok (EntsFor.cons hModes_ok (EntsFor.cons eTog_ok (EntsFor.cons eTog0_ok EntsFor.nil)))) hRight Tryz.func181 (by kernel_rfl) 1 [hRight_T1] (by kernel_rfl) [hRight_L0,hRight_L1] ⟨hRight_h0,hRight_h1,trivial⟩ hRight_c
  hRight_inv hRight_mu (fun _ _ _=>trivial) fun kv iv0 bv0 hin hF k l iv bv hk ha hi=>match k,hk,hi with
  | 0,hk,hi=>by
    cases hk
    exact hRight_o0 kv iv0 bv0 hin hF iv bv ha hi
  | 1,hk,hi=>by
    cases hk
    exact hRight_o1 kv iv0 bv0 hin hF iv bv ha hi
  | k+2,hk,_=>by simp at hk
def rRight_T1:Tm:=⟨⟨65,37,[(3,(.it .i64 (.v 21))),(0,(.fs 4 (.v 0)))],[(.code (atC Tryz.f65 [1,0,1,0,0])),(.inLoop (atC Tryz.f65 [1,0,1,0,0])),(.inBlock 0),(.code (atC Tryz.f65 [1,1]))],[],.none⟩,[],
    ⟨[],0,0,0,[((.le (.ap 200 (.v 0) (.c 0) (.c 0) (.c 0) (.c 0) (.c 0)) (.c 300)),.true)],[0],[(21,(0,(-1)))]⟩,[21]⟩
def rRight_L0:List Lf:=
 [(.cut ([((.le (.ap 200 (.v 0) (.c 0) (.c 0) (.c 0) (.c 0) (.c 0)) (.c 300)),.true)]) 1 ⟨⟨[(21,(.c 0))],[]⟩,[],[],[]⟩ [] (shT rRight_T1 ⟨⟨[(21,(.c 0))],[]⟩,[],[],[]⟩))]
def rRight_L1:List Lf:=
 let x0_:SI:=(.wk .i64 (.op .add (.v 21) (.c (-1))))
 let x1_:SI:=(.ap 3 (.v 0) (.v 21) (.c 0) (.c 0) (.c 0) (.c 0))
 let x2_:SI:=(.ap 3 (.v 0) (.v 21) (.c 1) (.c 0) (.c 0) (.c 0))
 let x3_:SI:=(.ap 3 (.v 0) (.v 21) (.c 2) (.c 0) (.c 0) (.c 0))
 let x4_:SI:=(.ap 200 (.v 0) (.c 0) (.c 0) (.c 0) (.c 0) (.c 0))
 let x5_:SI:=(.ap 3 (.v 0) x0_ (.c 0) (.c 0) (.c 0) (.c 0))
 let f0_:List (SB×Bool):=[((.lt (.v 21) x4_),.true),((.le x4_ (.c 300)),.true)]
 let f1_:List (SB×Bool):=[((.lt (.v 21) x4_),.false),((.le x4_ (.c 300)),.true)]
 let f2_:List (SB×Bool):=((.ap 23 x1_ x2_ x3_ (.c 0) (.c 0) (.c 0)),.true)::f0_
 let f3_:List (SB×Bool):=((.lt (.c 0) (.v 21)),.true)::f2_
 let f4_:List (SB×Bool):=((.le (.c 0) x0_),.true)::f3_
 let f5_:List (SB×Bool):=((.lt x0_ x4_),.true)::f4_
 [(.fin (((.le x1_ x5_),.true)::f5_) 0 ⟨⟨[],[]⟩,[],[],[]⟩ [(.eb (.ap 20 (.v 0) x4_ (.c 0) (.c 0) (.c 0) (.c 0)) (.c .false))] []),
  (let i_:In:=⟨⟨[(21,(.wk .i64 (.op .add (.v 21) (.c 1))))],[]⟩,[],[],[]⟩;.cut (((.le x1_ x5_),.false)::f5_) 1 i_ [(.rn (.wk .i64 (.op .add (.v 21) (.c 1))) 0 (-1))] (shT rRight_T1 i_)),
  (.bad (((.lt x0_ x4_),.false)::f4_)),
  (.bad (((.le (.c 0) x0_),.false)::f3_)),
  (.cut (((.lt (.c 0) (.v 21)),.false)::f2_) 1 ⟨⟨[(21,(.op .add (.v 21) (.c 1)))],[]⟩,[],[],[]⟩ [] (shT rRight_T1 ⟨⟨[(21,(.op .add (.v 21) (.c 1)))],[]⟩,[],[],[]⟩)),
  (.fin (((.ap 23 x1_ x2_ x3_ (.c 0) (.c 0) (.c 0)),.false)::f0_) 0 ⟨⟨[],[]⟩,[],[],[]⟩ [(.eb (.ap 20 (.v 0) x4_ (.c 0) (.c 0) (.c 0) (.c 0)) (.c .false))] []),
  (.fin (((.le x4_ (.d 0)),.true)::((.lt (.c 0) x4_),.true)::f1_) 0 ⟨⟨[],[]⟩,[],[],[]⟩ [(.eb (.ap 20 (.v 0) x4_ (.c 0) (.c 0) (.c 0) (.c 0)) (.ap 16 (.ap 20 (.v 0) x4_ (.c 0) (.c 0) (.c 0) (.c 0)) x4_ (.c 0) (.c 0) (.c 0) (.c 0)))] []),
  (.fin (((.lt (.c 0) x4_),.false)::f1_) 0 ⟨⟨[],[]⟩,[],[],[]⟩ [(.eb (.ap 20 (.v 0) x4_ (.c 0) (.c 0) (.c 0) (.c 0)) (.c .true))] [])]
def rRight_run (T:Tm):=(ex (ccOf Tryz.prog BF [29,73,75,100] rRight) ((fun cc=>[rMay.ent cc,rModes.ent cc,rTog.ent cc,rTog0.ent cc]) (ccOf Tryz.prog BF [29,73,75,100] rRight)) (dw (ccOf Tryz.prog BF [29,73,75,100] rRight) ((fun cc=>[rMay.ent cc,rModes.ent cc,rTog.ent cc,rTog0.ent cc]) (ccOf Tryz.prog BF [29,73,75,100] rRight)) 1000 4) (stopX []) 4000 T.f T.fs T.H).lfs (ccOf Tryz.prog BF [29,73,75,100] rRight) ((tm0 rRight Tryz.f65 (Tryz.f65.body.getD .skip))::[rRight_T1]) rRight.os
theorem rRight_h0:rRight_run (tm0 rRight Tryz.f65 (Tryz.f65.body.getD .skip))=some rRight_L0:=by kernel_rfl
theorem rRight_h1:rRight_run rRight_T1=some rRight_L1:=by kernel_rfl
def rRight_inv:(Nat→Int)→(Nat→Bool)→Nat→(Nat→Int)→(Nat→Bool)→Prop:=fun iv0 _ k iv _=>match k with
 | 0=>True
 | _=>0≤iv 21∧iv 21≤(flenC (iv0 0))∧mayA (iv0 0) (iv 21)
def rRight_mu:(Nat→Int)→(Nat→Bool)→Nat→(Nat→Int)→(Nat→Bool)→Nat:=fun iv0 _ k iv _=>match k with | 0=>2 ^ 80 | _=>((flenC (iv0 0)) - iv 21).toNat
def rRight_ob (k:Nat) (l:List Lf):Prop:=∀ (kv:Kv) (iv0:Nat→Int) (bv0:Nat→Bool),InB rRight.B iv0→FT (sta FI FB kv iv0 bv0) (dlt dyn0) rRight.F→∀ (iv:Nat→Int) (bv:Nat→Bool),Agr 1 iv0 bv0 iv bv→rRight_inv iv0 bv0 k iv bv→∀ lf∈l,LfT (sta FI FB kv) rRight.os (rRight_inv iv0 bv0) (rRight_mu iv0 bv0) k iv bv lf
theorem rRight_o0:rRight_ob 0 rRight_L0:=by
 intro kv iv0 bv0 hin hF iv bv ha hi
 unfold rRight_L0
 refine List.forall_mem_cons.2 ⟨?_,List.forall_mem_nil _⟩
 all_goals
  intro δ hf
 all_goals
  have a0:=ha.1 0 (by omega)
 all_goals
  simp only [FT,TP,SB.tp,SI.tv,sta,IB.eval,and_true,true_and,ObsT,Ob.Tv,rowT,kix,In.tiv,↓tbvT,In.tbv,get_cons,get_nil,reduceIte,Nat.reduceEqDiff,Int.reduceToNat,Int.reduceAdd,Int.reduceSub,Int.reduceLE,Int.reduceLT,Int.reduceEq,ne_eq,Bool.false_eq_true,not_true_eq_false,not_false_eq_true,true_iff,false_iff,iff_true,iff_false,false_implies,implies_true,decT,decide_true,decide_false,Bool.decide_eq_true,ap2,pb2,FI_3,FI_3g,FI_4,FI_8,FI_8m,FI_9,FI_8c,FI_8z,FI_200,FB_0,FB_2,Int.toNat_natCast,Int.toNat_zero,FI_20,FI_65,FB_16,FB_20,FB_23,rRight_inv,rRight_mu,rRight,o1,othT,o1,flF,fH,lH,apN,pbN,apM,pbM,oMo,rowV,zeroV,i64b,SI.fl,flay,flayL,a0] at hf hi ⊢
 all_goals
  have n0:=flenC_nn (iv0 0)
 all_goals
  (repeat' (with_reducible apply And.intro))<;>first
  | omega
  | assumption
  | (unfold inM;omega)
  | exact fun i hi=>by omega
theorem rRight_o1:rRight_ob 1 rRight_L1:=by
 intro kv iv0 bv0 hin hF iv bv ha hi
 unfold rRight_L1
 refine List.forall_mem_cons.2 ⟨?_,List.forall_mem_cons.2 ⟨?_,List.forall_mem_cons.2 ⟨?_,List.forall_mem_cons.2 ⟨?_,List.forall_mem_cons.2 ⟨?_,List.forall_mem_cons.2 ⟨?_,List.forall_mem_cons.2 ⟨?_,List.forall_mem_cons.2 ⟨?_,List.forall_mem_nil _⟩⟩⟩⟩⟩⟩⟩⟩
 all_goals
  intro δ hf
 all_goals
  have a0:=ha.1 0 (by omega)
 all_goals
  simp only [FT,TP,SB.tp,SI.tv,sta,IB.eval,and_true,true_and,ObsT,Ob.Tv,rowT,kix,In.tiv,↓tbvT,In.tbv,get_cons,get_nil,reduceIte,Nat.reduceEqDiff,Int.reduceToNat,Int.reduceAdd,Int.reduceSub,Int.reduceLE,Int.reduceLT,Int.reduceEq,ne_eq,Bool.false_eq_true,not_true_eq_false,not_false_eq_true,true_iff,false_iff,iff_true,iff_false,false_implies,implies_true,decT,decide_true,decide_false,Bool.decide_eq_true,ap2,pb2,FI_3,FI_3g,FI_4,FI_8,FI_8m,FI_9,FI_8c,FI_8z,FI_200,FB_0,FB_2,Int.toNat_natCast,Int.toNat_zero,FI_20,FI_65,FB_16,FB_20,FB_23,rRight_inv,rRight_mu,rRight,o1,othT,o1,flF,fH,lH,apN,pbN,apM,pbM,oMo,rowV,zeroV,i64b,SI.fl,flay,flayL,a0] at hf hi ⊢
 all_goals
  have n0:=flenC_nn (iv0 0)
 all_goals
  have w1:IntKind.i64.wrap (iv 21+1)=iv 21+1:=by rw [wrap_i64];omega
 all_goals
  have w2:IntKind.i64.wrap (iv 21+-1)=iv 21+-1:=by rw [wrap_i64];omega
 all_goals
  try simp only [w1,w2] at hf
 all_goals
  try simp only [w1,w2]
 all_goals
  have x1:=@mayA_ext (iv0 0) (iv 21) hi.2.2 hi.1
 all_goals
  (repeat' (with_reducible apply And.intro))<;>first
  | omega
  | assumption
  | (unfold inM;omega)
  | (clear hin hF ha;grind)
  | (exact mayA_ext hi.2.2 hi.1 (by first | exact hf.1 | exact hf.2.1 | exact hf.2.2.1) (fun h=>by omega))
  | (exact mayA_not hi.1 (by omega) fun h=>by first | exact hf.1 h.1 | (have:=h.2 (by omega);omega))
  | (rw [rgt_tog hi.2.2 (by omega) (by omega)];simp [hf.1.1,hf.1.2])
  | (exact fun h=>hf.1 ((rgt_tog hi.2.2 (by omega) (by omega)).1 h))
  | exact rgt_nil (by omega)
  | exact rgt_tog2 hi.2.2 (by omega) (by omega)
theorem rRight_c:LsC ((tm0 rRight Tryz.f65 (Tryz.f65.body.getD .skip))::[rRight_T1]) rRight.os [rRight_L0,rRight_L1]:=by
 unfold rRight_L0 rRight_L1
 exact ⟨List.forall_mem_cons.2 ⟨⟨⟨_,rfl,rfl⟩,by kernel_rfl⟩,List.forall_mem_nil _⟩,List.forall_mem_cons.2 ⟨⟨⟨_,rfl,rfl⟩,by kernel_rfl⟩,List.forall_mem_cons.2 ⟨⟨⟨_,rfl,rfl⟩,by kernel_rfl⟩,List.forall_mem_cons.2 ⟨trivial,List.forall_mem_cons.2 ⟨trivial,List.forall_mem_cons.2 ⟨⟨⟨_,rfl,rfl⟩,by kernel_rfl⟩,List.forall_mem_cons.2 ⟨⟨⟨_,rfl,rfl⟩,by kernel_rfl⟩,List.forall_mem_cons.2 ⟨⟨⟨_,rfl,rfl⟩,by kernel_rfl⟩,List.forall_mem_cons.2 ⟨⟨⟨_,rfl,rfl⟩,by kernel_rfl⟩,List.forall_mem_nil _⟩⟩⟩⟩⟩⟩⟩⟩,trivial⟩
theorem rRight_ok:rRight.Ok Tryz.prog FI FB:=
 Con.of_plain (body:=Tryz.f65.body.getD .skip) pok fiok (EntsFor.cons rMay_ok (EntsFor.cons rModes_ok (EntsFor.cons rTog_ok (EntsFor.cons rTog0_ok EntsFor.nil)))) rRight Tryz.func65 (by kernel_rfl) 1 [rRight_T1] (by kernel_rfl) [rRight_L0,rRight_L1] ⟨rRight_h0,rRight_h1,trivial⟩ rRight_c
  rRight_inv rRight_mu (fun _ _ _=>trivial) fun kv iv0 bv0 hin hF k l iv bv hk ha hi=>match k,hk,hi with
  | 0,hk,hi=>by
    cases hk
    exact rRight_o0 kv iv0 bv0 hin hF iv bv ha hi
  | 1,hk,hi=>by
    cases hk
    exact rRight_o1 kv iv0 bv0 hin hF iv bv ha hi
  | k+2,hk,_=>by simp at hk
def hOf_L0:List Lf:=
 let x0_:SI:=(.ap 200 (.v 0) (.c 0) (.c 0) (.c 0) (.c 0) (.c 0))
 [(.fin ([((.ap 20 (.v 0) x0_ (.c 0) (.c 0) (.c 0) (.c 0)),.true),((.le x0_ (.c 300)),.true)]) 1 ⟨⟨[],[]⟩,[],[],[]⟩ [] []),
  (.fin ([((.ap 20 (.v 0) x0_ (.c 0) (.c 0) (.c 0) (.c 0)),.false),((.le x0_ (.c 300)),.true)]) 0 ⟨⟨[],[]⟩,[],[],[]⟩ [] [])]
def hOf_run (T:Tm):=(ex (ccOf Tryz.prog BF [29,73,75,100] hOf) ((fun cc=>[hRight.ent cc]) (ccOf Tryz.prog BF [29,73,75,100] hOf)) (dw (ccOf Tryz.prog BF [29,73,75,100] hOf) ((fun cc=>[hRight.ent cc]) (ccOf Tryz.prog BF [29,73,75,100] hOf)) 1000 4) (stopX []) 4000 T.f T.fs T.H).lfs (ccOf Tryz.prog BF [29,73,75,100] hOf) ((tm0 hOf Tryz.f117 (Tryz.f117.body.getD .skip))::[]) hOf.os
theorem hOf_h0:hOf_run (tm0 hOf Tryz.f117 (Tryz.f117.body.getD .skip))=some hOf_L0:=by kernel_rfl
def hOf_inv:(Nat→Int)→(Nat→Bool)→Nat→(Nat→Int)→(Nat→Bool)→Prop:=fun _ _ _ _ _=>True
def hOf_mu:(Nat→Int)→(Nat→Bool)→Nat→(Nat→Int)→(Nat→Bool)→Nat:=fun _ _ _ _ _=>0
def hOf_ob (k:Nat) (l:List Lf):Prop:=∀ (kv:Kv) (iv0:Nat→Int) (bv0:Nat→Bool),InB hOf.B iv0→FT (sta FI FB kv iv0 bv0) (dlt dyn0) hOf.F→∀ (iv:Nat→Int) (bv:Nat→Bool),Agr 1 iv0 bv0 iv bv→hOf_inv iv0 bv0 k iv bv→∀ lf∈l,LfT (sta FI FB kv) hOf.os (hOf_inv iv0 bv0) (hOf_mu iv0 bv0) k iv bv lf
theorem hOf_o0:hOf_ob 0 hOf_L0:=by
 intro kv iv0 bv0 hin hF iv bv ha hi
 unfold hOf_L0
 refine List.forall_mem_cons.2 ⟨?_,List.forall_mem_cons.2 ⟨?_,List.forall_mem_nil _⟩⟩
 all_goals
  intro δ hf
 all_goals
  have a0:=ha.1 0 (by omega)
 all_goals
  simp only [FT,TP,SB.tp,SI.tv,sta,IB.eval,and_true,true_and,ObsT,Ob.Tv,rowT,kix,In.tiv,↓tbvT,In.tbv,get_cons,get_nil,reduceIte,Nat.reduceEqDiff,Int.reduceToNat,Int.reduceAdd,Int.reduceSub,Int.reduceLE,Int.reduceLT,Int.reduceEq,ne_eq,Bool.false_eq_true,not_true_eq_false,not_false_eq_true,true_iff,false_iff,iff_true,iff_false,false_implies,implies_true,decT,decide_true,decide_false,Bool.decide_eq_true,ap2,pb2,FI_3,FI_3g,FI_4,FI_8,FI_8m,FI_9,FI_8c,FI_8z,FI_200,FB_0,FB_2,Int.toNat_natCast,Int.toNat_zero,FI_20,FB_20,hOf_inv,hOf_mu,hOf,o1,othT,o1,flF,fH,lH,apN,pbN,apM,pbM,oMo,rowV,zeroV,i64b,SI.fl,flay,flayL,a0] at hf hi ⊢
 all_goals
  (repeat' (with_reducible apply And.intro))<;>first
  | omega
  | assumption
  | (unfold inM;omega)
  | exact fun _ h=>h hf.1
  | exact fun _ h=>hf.1 h
theorem hOf_c:LsC ((tm0 hOf Tryz.f117 (Tryz.f117.body.getD .skip))::[]) hOf.os [hOf_L0]:=by
 unfold hOf_L0
 exact ⟨List.forall_mem_cons.2 ⟨⟨⟨_,rfl,rfl⟩,by kernel_rfl⟩,List.forall_mem_cons.2 ⟨⟨⟨_,rfl,rfl⟩,by kernel_rfl⟩,List.forall_mem_nil _⟩⟩,trivial⟩
theorem hOf_ok:hOf.Ok Tryz.prog FI FB:=
 Con.of_plain (body:=Tryz.f117.body.getD .skip) pok fiok (EntsFor.cons hRight_ok EntsFor.nil) hOf Tryz.func117 (by kernel_rfl) 1 [] (by kernel_rfl) [hOf_L0] ⟨hOf_h0,trivial⟩ hOf_c
  hOf_inv hOf_mu (fun _ _ _=>trivial) fun kv iv0 bv0 hin hF k l iv bv hk ha hi=>match k,hk,hi with
  | 0,hk,hi=>by
    cases hk
    exact hOf_o0 kv iv0 bv0 hin hF iv bv ha hi
  | k+1,hk,_=>by simp at hk
def rFind_T1:Tm:=⟨⟨123,20,[(5,(.it .i64 (.v 22))),(0,(.fs 4 (.v 0))),(1,(.it .i64 (.v 1)))],[(.code (atC Tryz.f123 [1,0,1,0,0])),(.inLoop (atC Tryz.f123 [1,0,1,0,0])),(.inBlock 0),(.code (atC Tryz.f123 [1,1]))],[],.none⟩,[],
    ⟨[],0,0,0,[((.le (.ap 200 (.v 0) (.c 0) (.c 0) (.c 0) (.c 0) (.c 0)) (.c 300)),.true)],[0],[(1,((-9223372036854775808),9223372036854775807)),(22,(0,(-1)))]⟩,[22]⟩
def rFind_L0:List Lf:=
 [(.cut ([((.le (.ap 200 (.v 0) (.c 0) (.c 0) (.c 0) (.c 0) (.c 0)) (.c 300)),.true)]) 1 ⟨⟨[(22,(.c 0))],[]⟩,[],[],[]⟩ [] (shT rFind_T1 ⟨⟨[(22,(.c 0))],[]⟩,[],[],[]⟩))]
def rFind_L1:List Lf:=
 let x0_:SI:=(.ap 3 (.v 0) (.v 22) (.c 0) (.c 0) (.c 0) (.c 0))
 let x1_:SI:=(.ap 200 (.v 0) (.c 0) (.c 0) (.c 0) (.c 0) (.c 0))
 let x2_:SI:=(.ap 21 (.v 0) x1_ (.v 1) (.c 0) (.c 0) (.c 0))
 let f0_:List (SB×Bool):=[((.lt (.v 22) x1_),.true),((.le x1_ (.c 300)),.true)]
 [(.fin (((.eq x0_ (.v 1)),.true)::f0_) 0 ⟨⟨[],[]⟩,[],[],[]⟩ [(.ei (.ap 21 (.v 0) x1_ (.v 1) (.c 0) (.c 0) (.c 0)) (.v 22)),(.fa (.lt x2_ x1_) .true)] []),
  (let i_:In:=⟨⟨[(22,(.wk .i64 (.op .add (.v 22) (.c 1))))],[]⟩,[],[],[]⟩;.cut (((.eq x0_ (.v 1)),.false)::f0_) 1 i_ [(.rn (.wk .i64 (.op .add (.v 22) (.c 1))) 0 (-1))] (shT rFind_T1 i_)),
  (.fin ([((.lt (.v 22) x1_),.false),((.le x1_ (.c 300)),.true)]) 0 ⟨⟨[],[]⟩,[],[],[]⟩ [(.ei (.ap 21 (.v 0) x1_ (.v 1) (.c 0) (.c 0) (.c 0)) (.c (-1))),(.fa (.lt x2_ x1_) .true)] [])]
def rFind_run (T:Tm):=(ex (ccOf Tryz.prog BF [29,73,75,100] rFind) ((fun _=>[]) (ccOf Tryz.prog BF [29,73,75,100] rFind)) (dw (ccOf Tryz.prog BF [29,73,75,100] rFind) ((fun _=>[]) (ccOf Tryz.prog BF [29,73,75,100] rFind)) 1000 4) (stopX []) 4000 T.f T.fs T.H).lfs (ccOf Tryz.prog BF [29,73,75,100] rFind) ((tm0 rFind Tryz.f123 (Tryz.f123.body.getD .skip))::[rFind_T1]) rFind.os
theorem rFind_h0:rFind_run (tm0 rFind Tryz.f123 (Tryz.f123.body.getD .skip))=some rFind_L0:=by kernel_rfl
theorem rFind_h1:rFind_run rFind_T1=some rFind_L1:=by kernel_rfl
def rFind_inv:(Nat→Int)→(Nat→Bool)→Nat→(Nat→Int)→(Nat→Bool)→Prop:=fun iv0 _ k iv _=>match k with
 | 0=>True
 | _=>0≤iv 22∧iv 22≤(flenC (iv0 0))∧∀ j:Nat,(j:Int) < iv 22→fl (iv0 0) j 0≠iv0 1
def rFind_mu:(Nat→Int)→(Nat→Bool)→Nat→(Nat→Int)→(Nat→Bool)→Nat:=fun iv0 _ k iv _=>match k with | 0=>2 ^ 80 | _=>((flenC (iv0 0)) - iv 22).toNat
theorem rFind_b {iv0:Nat→Int} (hin:InB rFind.B iv0):((-9223372036854775808)≤iv0 1∧iv0 1≤9223372036854775807):=by
 have b1:=hin 1 (-9223372036854775808) 9223372036854775807 (by simp [rFind,o1,flF,fH,lH,apN,pbN,apM,pbM,oMo,rowV,zeroV,i64b,SI.fl,flay,flayL])
 simp only [Int.reduceLE,reduceIte,Int.reduceNeg] at b1
 exact b1
def rFind_ob (k:Nat) (l:List Lf):Prop:=∀ (kv:Kv) (iv0:Nat→Int) (bv0:Nat→Bool),InB rFind.B iv0→FT (sta FI FB kv iv0 bv0) (dlt dyn0) rFind.F→∀ (iv:Nat→Int) (bv:Nat→Bool),Agr 2 iv0 bv0 iv bv→rFind_inv iv0 bv0 k iv bv→∀ lf∈l,LfT (sta FI FB kv) rFind.os (rFind_inv iv0 bv0) (rFind_mu iv0 bv0) k iv bv lf
theorem rFind_o0:rFind_ob 0 rFind_L0:=by
 intro kv iv0 bv0 hin hF iv bv ha hi
 unfold rFind_L0
 refine List.forall_mem_cons.2 ⟨?_,List.forall_mem_nil _⟩
 all_goals
  intro δ hf
 all_goals
  have b1:=rFind_b hin
 all_goals
  have a0:=ha.1 0 (by omega)
  have a1:=ha.1 1 (by omega)
 all_goals
  simp only [FT,TP,SB.tp,SI.tv,sta,IB.eval,and_true,true_and,ObsT,Ob.Tv,rowT,kix,In.tiv,↓tbvT,In.tbv,get_cons,get_nil,reduceIte,Nat.reduceEqDiff,Int.reduceToNat,Int.reduceAdd,Int.reduceSub,Int.reduceLE,Int.reduceLT,Int.reduceEq,ne_eq,Bool.false_eq_true,not_true_eq_false,not_false_eq_true,true_iff,false_iff,iff_true,iff_false,false_implies,implies_true,decT,decide_true,decide_false,Bool.decide_eq_true,ap2,pb2,FI_3,FI_3g,FI_4,FI_8,FI_8m,FI_9,FI_8c,FI_8z,FI_200,FB_0,FB_2,Int.toNat_natCast,Int.toNat_zero,FI_21,rFind_inv,rFind_mu,rFind,o1,othT,o1,flF,fH,lH,apN,pbN,apM,pbM,oMo,rowV,zeroV,i64b,SI.fl,flay,flayL,a0,a1] at hf hi ⊢
 all_goals
  have n0:=flenC_nn (iv0 0)
 all_goals
  (repeat' (with_reducible apply And.intro))<;>first
  | omega
  | assumption
  | (unfold inM;omega)
  | exact fun j hj=>by omega
theorem rFind_o1:rFind_ob 1 rFind_L1:=by
 intro kv iv0 bv0 hin hF iv bv ha hi
 unfold rFind_L1
 refine List.forall_mem_cons.2 ⟨?_,List.forall_mem_cons.2 ⟨?_,List.forall_mem_cons.2 ⟨?_,List.forall_mem_nil _⟩⟩⟩
 all_goals
  intro δ hf
 all_goals
  have b1:=rFind_b hin
 all_goals
  have a0:=ha.1 0 (by omega)
  have a1:=ha.1 1 (by omega)
 all_goals
  simp only [FT,TP,SB.tp,SI.tv,sta,IB.eval,and_true,true_and,ObsT,Ob.Tv,rowT,kix,In.tiv,↓tbvT,In.tbv,get_cons,get_nil,reduceIte,Nat.reduceEqDiff,Int.reduceToNat,Int.reduceAdd,Int.reduceSub,Int.reduceLE,Int.reduceLT,Int.reduceEq,ne_eq,Bool.false_eq_true,not_true_eq_false,not_false_eq_true,true_iff,false_iff,iff_true,iff_false,false_implies,implies_true,decT,decide_true,decide_false,Bool.decide_eq_true,ap2,pb2,FI_3,FI_3g,FI_4,FI_8,FI_8m,FI_9,FI_8c,FI_8z,FI_200,FB_0,FB_2,Int.toNat_natCast,Int.toNat_zero,FI_21,rFind_inv,rFind_mu,rFind,o1,othT,o1,flF,fH,lH,apN,pbN,apM,pbM,oMo,rowV,zeroV,i64b,SI.fl,flay,flayL,a0,a1] at hf hi ⊢
 all_goals
  have n0:=flenC_nn (iv0 0)
 all_goals
  have w1:IntKind.i64.wrap (iv 22+1)=iv 22+1:=by rw [wrap_i64];omega
 all_goals
  have w2:IntKind.i64.wrap (iv 22+-1)=iv 22+-1:=by rw [wrap_i64];omega
 all_goals
  try simp only [w1,w2] at hf
 all_goals
  try simp only [w1,w2]
 all_goals
  (repeat' (with_reducible apply And.intro))<;>first
  | omega
  | assumption
  | (unfold inM;omega)
  | exact all_succ hi.1 hi.2.2 (by omega)
  | exact fnd_at (by omega) hi.1 (by omega) hf.1 hi.2.2
  | (rw [fnd_at (by omega) hi.1 (by omega) hf.1 hi.2.2];omega)
  | exact fnd_no (by omega) hf.1 hi.2.2
  | (rw [fnd_no (by omega) hf.1 hi.2.2];omega)
theorem rFind_c:LsC ((tm0 rFind Tryz.f123 (Tryz.f123.body.getD .skip))::[rFind_T1]) rFind.os [rFind_L0,rFind_L1]:=by
 unfold rFind_L0 rFind_L1
 exact ⟨List.forall_mem_cons.2 ⟨⟨⟨_,rfl,rfl⟩,by kernel_rfl⟩,List.forall_mem_nil _⟩,List.forall_mem_cons.2 ⟨⟨⟨_,rfl,rfl⟩,by kernel_rfl⟩,List.forall_mem_cons.2 ⟨⟨⟨_,rfl,rfl⟩,by kernel_rfl⟩,List.forall_mem_cons.2 ⟨⟨⟨_,rfl,rfl⟩,by kernel_rfl⟩,List.forall_mem_nil _⟩⟩⟩,trivial⟩
theorem rFind_ok:rFind.Ok Tryz.prog FI FB:=
 Con.of_plain (body:=Tryz.f123.body.getD .skip) pok fiok EntsFor.nil rFind Tryz.func123 (by kernel_rfl) 2 [rFind_T1] (by kernel_rfl) [rFind_L0,rFind_L1] ⟨rFind_h0,rFind_h1,trivial⟩ rFind_c
  rFind_inv rFind_mu (fun _ _ _=>trivial) fun kv iv0 bv0 hin hF k l iv bv hk ha hi=>match k,hk,hi with
  | 0,hk,hi=>by
    cases hk
    exact rFind_o0 kv iv0 bv0 hin hF iv bv ha hi
  | 1,hk,hi=>by
    cases hk
    exact rFind_o1 kv iv0 bv0 hin hF iv bv ha hi
  | k+2,hk,_=>by simp at hk
def hFind_T1:Tm:=⟨⟨224,19,[(8,(.it .i64 (.c 0))),(7,(.it .i64 (.c 0))),(0,.sn),(1,(.fn 182 [] [(.pt (.n 2) (.c 0))]))],[(.code (atC Tryz.f224 [1,0,1,0,0])),(.inLoop (atC Tryz.f224 [1,0,1,0,0])),(.inBlock 0),(.code (atC Tryz.f224 [1,1]))],[],.none⟩,[⟨167,18,[(8,(.fn 182 [] [(.pt (.n 2) (.c 0))])),(7,.sn),(4,(.pt (.n 4) (.c 0))),(0,.sn)],[(.inRegion (opsC (atC Tryz.f167 [1,0,0])) [2,3]),(.code (atC Tryz.f167 [1,0,1])),(.code (atC Tryz.f167 [1,1]))],[],.none⟩,⟨118,15,[(10,(.fn 182 [] [(.pt (.n 2) (.c 0))])),(9,.sn),(4,(.pt (.n 3) (.c 0)))],[(.inRegion (opsC (atC Tryz.f118 [1,0])) [4,5,6,7,8,9,10]),(.code Code.ret)],[],.none⟩,⟨39,19,[(12,(.it .i64 (.v 1))),(11,(.ag [.sn,(.bo (.c .false))])),(4,(.pt (.n 0) (.c 0)))],[(.inRegion (opsC (atC Tryz.f39 [1,0])) [3,4,5,6,7,8,9,10,11]),(.code (atC Tryz.f39 [1,1]))],[],.none⟩],
    ⟨[(0,(.cells [(.it .i64 (.c 0)),(.it .i64 (.c 0)),(.it .i64 (.c 0))] 75)),(2,(.cells [(.it .i64 (.v 1))] 3)),(3,(.cells [(.it .i64 (.c 0)),(.it .i64 (.c 0)),(.it .i64 (.c 0))] 75)),(4,(.cells [(.it .i64 (.c 0)),(.it .i64 (.c 0)),(.it .i64 (.c 0))] 75))],5,0,0,[((.ap 20 (.v 0) (.ap 200 (.v 0) (.c 0) (.c 0) (.c 0) (.c 0) (.c 0)) (.c 0) (.c 0) (.c 0) (.c 0)),.false),((.le (.ap 200 (.v 0) (.c 0) (.c 0) (.c 0) (.c 0) (.c 0)) (.c 300)),.true)],[0],[(1,((-9223372036854775808),9223372036854775807))]⟩,[]⟩
def hFind_T2:Tm:=⟨⟨224,19,[(8,(.it .i64 (.v 22))),(7,(.it .i64 (.ap 200 (.v 0) (.c 0) (.c 0) (.c 0) (.c 0) (.c 0)))),(0,(.fs 4 (.v 0))),(1,(.fn 182 [] [(.pt (.n 2) (.c 0))]))],[(.code (atC Tryz.f224 [1,0,1,0,0])),(.inLoop (atC Tryz.f224 [1,0,1,0,0])),(.inBlock 0),(.code (atC Tryz.f224 [1,1]))],[],.none⟩,[⟨167,18,[(8,(.fn 182 [] [(.pt (.n 2) (.c 0))])),(7,(.fs 4 (.v 0))),(4,(.pt (.n 4) (.c 0))),(0,(.fs 4 (.v 0)))],[(.inRegion (opsC (atC Tryz.f167 [1,0,0])) [2,3]),(.code (atC Tryz.f167 [1,0,1])),(.code (atC Tryz.f167 [1,1]))],[],.none⟩,⟨118,15,[(10,(.fn 182 [] [(.pt (.n 2) (.c 0))])),(9,(.fs 4 (.v 0))),(4,(.pt (.n 3) (.c 0)))],[(.inRegion (opsC (atC Tryz.f118 [1,0])) [4,5,6,7,8,9,10]),(.code Code.ret)],[],.none⟩,⟨39,19,[(12,(.it .i64 (.v 1))),(11,(.ag [(.fs 4 (.v 0)),(.bo (.c .true))])),(4,(.pt (.n 0) (.c 0)))],[(.inRegion (opsC (atC Tryz.f39 [1,0])) [3,4,5,6,7,8,9,10,11]),(.code (atC Tryz.f39 [1,1]))],[],.none⟩],
    ⟨[(0,(.cells [(.it .i64 (.c 0)),(.it .i64 (.c 0)),(.it .i64 (.c 0))] 75)),(2,(.cells [(.it .i64 (.v 1))] 3)),(3,(.cells [(.it .i64 (.c 0)),(.it .i64 (.c 0)),(.it .i64 (.c 0))] 75)),(4,(.cells [(.it .i64 (.c 0)),(.it .i64 (.c 0)),(.it .i64 (.c 0))] 75))],5,0,0,[((.ap 20 (.v 0) (.ap 200 (.v 0) (.c 0) (.c 0) (.c 0) (.c 0) (.c 0)) (.c 0) (.c 0) (.c 0) (.c 0)),.true),((.le (.ap 200 (.v 0) (.c 0) (.c 0) (.c 0) (.c 0) (.c 0)) (.c 300)),.true)],[0],[(1,((-9223372036854775808),9223372036854775807)),(22,(0,(-1)))]⟩,[22]⟩
def hFind_L0:List Lf:=
 let x0_:SI:=(.ap 200 (.v 0) (.c 0) (.c 0) (.c 0) (.c 0) (.c 0))
 [(let i_:In:=⟨⟨[(22,(.c 0))],[]⟩,[(0,0),(3,3),(4,4),(2,2)],[],[]⟩;.cut ([((.ap 20 (.v 0) x0_ (.c 0) (.c 0) (.c 0) (.c 0)),.true),((.le x0_ (.c 300)),.true)]) 2 i_ [] (shT hFind_T2 i_)),
  (.cut ([((.ap 20 (.v 0) x0_ (.c 0) (.c 0) (.c 0) (.c 0)),.false),((.le x0_ (.c 300)),.true)]) 1 ⟨⟨[],[]⟩,[(0,0),(3,3),(4,4),(2,2)],[],[]⟩ [] (shT hFind_T1 ⟨⟨[],[]⟩,[(0,0),(3,3),(4,4),(2,2)],[],[]⟩))]
def hFind_L1:List Lf:=
 let x0_:SI:=(.ap 200 (.v 0) (.c 0) (.c 0) (.c 0) (.c 0) (.c 0))
 [(.fin ([((.ap 20 (.v 0) x0_ (.c 0) (.c 0) (.c 0) (.c 0)),.false),((.le x0_ (.c 300)),.true)]) 1 ⟨⟨[],[]⟩,[],[],[]⟩ [] [])]
def hFind_L2:List Lf:=
 let x0_:SI:=(.ap 3 (.v 0) (.v 22) (.c 0) (.c 0) (.c 0) (.c 0))
 let x1_:SI:=(.ap 200 (.v 0) (.c 0) (.c 0) (.c 0) (.c 0) (.c 0))
 let x2_:SI:=(.ap 21 (.v 0) x1_ (.v 1) (.c 0) (.c 0) (.c 0))
 let f0_:List (SB×Bool):=[((.ap 20 (.v 0) x1_ (.c 0) (.c 0) (.c 0) (.c 0)),.true),((.le x1_ (.c 300)),.true)]
 let f1_:List (SB×Bool):=((.lt (.v 22) x1_),.true)::f0_
 [(.fin (((.eq x0_ (.v 1)),.true)::f1_) 0 ⟨⟨[],[]⟩,[],[],[]⟩ [(.ei (.ap 3 (.v 0) x2_ (.c 0) (.c 0) (.c 0) (.c 0)) (.ap 3 (.v 0) (.v 22) (.c 0) (.c 0) (.c 0) (.c 0))),(.ei (.ap 3 (.v 0) x2_ (.c 1) (.c 0) (.c 0) (.c 0)) (.ap 3 (.v 0) (.v 22) (.c 1) (.c 0) (.c 0) (.c 0))),(.ei (.ap 3 (.v 0) x2_ (.c 2) (.c 0) (.c 0) (.c 0)) (.ap 3 (.v 0) (.v 22) (.c 2) (.c 0) (.c 0) (.c 0))),(.fa (.lt x2_ x1_) .true),(.fa (.le (.c 0) x2_) .true)] []),
  (let i_:In:=⟨⟨[(22,(.wk .i64 (.op .add (.v 22) (.c 1))))],[]⟩,[(0,0),(3,3),(4,4),(2,2)],[],[]⟩;.cut (((.eq x0_ (.v 1)),.false)::f1_) 2 i_ [(.rn (.wk .i64 (.op .add (.v 22) (.c 1))) 0 (-1))] (shT hFind_T2 i_)),
  (.fin (((.lt (.v 22) x1_),.false)::f0_) 1 ⟨⟨[],[]⟩,[],[],[]⟩ [] [])]
def hFind_run (T:Tm):=(ex (ccOf Tryz.prog BF [29,73,75,100] hFind) ((fun cc=>[hOf.ent cc]) (ccOf Tryz.prog BF [29,73,75,100] hFind)) (dw (ccOf Tryz.prog BF [29,73,75,100] hFind) ((fun cc=>[hOf.ent cc]) (ccOf Tryz.prog BF [29,73,75,100] hFind)) 1000 4) (stopX []) 4000 T.f T.fs T.H).lfs (ccOf Tryz.prog BF [29,73,75,100] hFind) ((tm0 hFind Tryz.f39 (Tryz.f39.body.getD .skip))::[hFind_T1,hFind_T2]) hFind.os
theorem hFind_h0:hFind_run (tm0 hFind Tryz.f39 (Tryz.f39.body.getD .skip))=some hFind_L0:=by kernel_rfl
theorem hFind_h1:hFind_run hFind_T1=some hFind_L1:=by kernel_rfl
theorem hFind_h2:hFind_run hFind_T2=some hFind_L2:=by kernel_rfl
def hFind_inv:(Nat→Int)→(Nat→Bool)→Nat→(Nat→Int)→(Nat→Bool)→Prop:=fun iv0 _ k iv _=>match k with
 | 0=>True
 | 2=>rgtP (iv0 0) (flenC (iv0 0))∧0≤iv 22∧iv 22≤(flenC (iv0 0))∧∀ j:Nat,(j:Int) < iv 22→fl (iv0 0) j 0≠iv0 1
 | _=>¬ rgtP (iv0 0) (flenC (iv0 0))
def hFind_mu:(Nat→Int)→(Nat→Bool)→Nat→(Nat→Int)→(Nat→Bool)→Nat:=fun iv0 _ k iv _=>match k with | 0=>2 ^ 80 | 2=>((flenC (iv0 0)) - iv 22).toNat | _=>0
theorem hFind_b {iv0:Nat→Int} (hin:InB hFind.B iv0):((-9223372036854775808)≤iv0 1∧iv0 1≤9223372036854775807):=by
 have b1:=hin 1 (-9223372036854775808) 9223372036854775807 (by simp [hFind,o1,flF,fH,lH,apN,pbN,apM,pbM,oMo,rowV,zeroV,i64b,SI.fl,flay,flayL])
 simp only [Int.reduceLE,reduceIte,Int.reduceNeg] at b1
 exact b1
def hFind_ob (k:Nat) (l:List Lf):Prop:=∀ (kv:Kv) (iv0:Nat→Int) (bv0:Nat→Bool),InB hFind.B iv0→FT (sta FI FB kv iv0 bv0) (dlt dyn0) hFind.F→∀ (iv:Nat→Int) (bv:Nat→Bool),Agr 2 iv0 bv0 iv bv→hFind_inv iv0 bv0 k iv bv→∀ lf∈l,LfT (sta FI FB kv) hFind.os (hFind_inv iv0 bv0) (hFind_mu iv0 bv0) k iv bv lf
theorem hFind_o0:hFind_ob 0 hFind_L0:=by
 intro kv iv0 bv0 hin hF iv bv ha hi
 unfold hFind_L0
 refine List.forall_mem_cons.2 ⟨?_,List.forall_mem_cons.2 ⟨?_,List.forall_mem_nil _⟩⟩
 all_goals
  intro δ hf
 all_goals
  have b1:=hFind_b hin
 all_goals
  have a0:=ha.1 0 (by omega)
  have a1:=ha.1 1 (by omega)
 all_goals
  simp only [FT,TP,SB.tp,SI.tv,sta,IB.eval,and_true,true_and,ObsT,Ob.Tv,rowT,kix,In.tiv,↓tbvT,In.tbv,get_cons,get_nil,reduceIte,Nat.reduceEqDiff,Int.reduceToNat,Int.reduceAdd,Int.reduceSub,Int.reduceLE,Int.reduceLT,Int.reduceEq,ne_eq,Bool.false_eq_true,not_true_eq_false,not_false_eq_true,true_iff,false_iff,iff_true,iff_false,false_implies,implies_true,decT,decide_true,decide_false,Bool.decide_eq_true,ap2,pb2,FI_3,FI_3g,FI_4,FI_8,FI_8m,FI_9,FI_8c,FI_8z,FI_200,FB_0,FB_2,Int.toNat_natCast,Int.toNat_zero,FI_20,FI_21,FB_20,FB_25,hFind_inv,hFind_mu,hFind,o1,othT,o1,flF,fH,lH,apN,pbN,apM,pbM,oMo,rowV,zeroV,i64b,SI.fl,flay,flayL,a0,a1] at hf hi ⊢
 all_goals
  have n0:=flenC_nn (iv0 0)
 all_goals
  (repeat' (with_reducible apply And.intro))<;>first
  | omega
  | assumption
  | (unfold inM;omega)
  | exact hf.1
  | exact fun j hj=>by omega
theorem hFind_o1:hFind_ob 1 hFind_L1:=by
 intro kv iv0 bv0 hin hF iv bv ha hi
 unfold hFind_L1
 refine List.forall_mem_cons.2 ⟨?_,List.forall_mem_nil _⟩
 all_goals
  intro δ hf
 all_goals
  have b1:=hFind_b hin
 all_goals
  have a0:=ha.1 0 (by omega)
  have a1:=ha.1 1 (by omega)
 all_goals
  simp only [FT,TP,SB.tp,SI.tv,sta,IB.eval,and_true,true_and,ObsT,Ob.Tv,rowT,kix,In.tiv,↓tbvT,In.tbv,get_cons,get_nil,reduceIte,Nat.reduceEqDiff,Int.reduceToNat,Int.reduceAdd,Int.reduceSub,Int.reduceLE,Int.reduceLT,Int.reduceEq,ne_eq,Bool.false_eq_true,not_true_eq_false,not_false_eq_true,true_iff,false_iff,iff_true,iff_false,false_implies,implies_true,decT,decide_true,decide_false,Bool.decide_eq_true,ap2,pb2,FI_3,FI_3g,FI_4,FI_8,FI_8m,FI_9,FI_8c,FI_8z,FI_200,FB_0,FB_2,Int.toNat_natCast,Int.toNat_zero,FI_20,FI_21,FB_20,FB_25,hFind_inv,hFind_mu,hFind,o1,othT,o1,flF,fH,lH,apN,pbN,apM,pbM,oMo,rowV,zeroV,i64b,SI.fl,flay,flayL,a0,a1] at hf hi ⊢
 all_goals
  have n0:=flenC_nn (iv0 0)
 all_goals
  (repeat' (with_reducible apply And.intro))<;>first
  | omega
  | assumption
  | (unfold inM;omega)
  | (exact fun _ h=>hi h.1)
theorem hFind_o2:hFind_ob 2 hFind_L2:=by
 intro kv iv0 bv0 hin hF iv bv ha hi
 unfold hFind_L2
 refine List.forall_mem_cons.2 ⟨?_,List.forall_mem_cons.2 ⟨?_,List.forall_mem_cons.2 ⟨?_,List.forall_mem_nil _⟩⟩⟩
 all_goals
  intro δ hf
 all_goals
  have b1:=hFind_b hin
 all_goals
  have a0:=ha.1 0 (by omega)
  have a1:=ha.1 1 (by omega)
 all_goals
  simp only [FT,TP,SB.tp,SI.tv,sta,IB.eval,and_true,true_and,ObsT,Ob.Tv,rowT,kix,In.tiv,↓tbvT,In.tbv,get_cons,get_nil,reduceIte,Nat.reduceEqDiff,Int.reduceToNat,Int.reduceAdd,Int.reduceSub,Int.reduceLE,Int.reduceLT,Int.reduceEq,ne_eq,Bool.false_eq_true,not_true_eq_false,not_false_eq_true,true_iff,false_iff,iff_true,iff_false,false_implies,implies_true,decT,decide_true,decide_false,Bool.decide_eq_true,ap2,pb2,FI_3,FI_3g,FI_4,FI_8,FI_8m,FI_9,FI_8c,FI_8z,FI_200,FB_0,FB_2,Int.toNat_natCast,Int.toNat_zero,FI_20,FI_21,FB_20,FB_25,hFind_inv,hFind_mu,hFind,o1,othT,o1,flF,fH,lH,apN,pbN,apM,pbM,oMo,rowV,zeroV,i64b,SI.fl,flay,flayL,a0,a1] at hf hi ⊢
 all_goals
  have n0:=flenC_nn (iv0 0)
 all_goals
  have w1:IntKind.i64.wrap (iv 22+1)=iv 22+1:=by rw [wrap_i64];omega
 all_goals
  have w2:IntKind.i64.wrap (iv 22+-1)=iv 22+-1:=by rw [wrap_i64];omega
 all_goals
  try simp only [w1,w2] at hf
 all_goals
  try simp only [w1,w2]
 all_goals
  (repeat' (with_reducible apply And.intro))<;>first
  | omega
  | assumption
  | (unfold inM;omega)
  | exact hi.1
  | ((have hk:=fnd_at (c:=iv0 0) (n:=(flenC (iv0 0))) (k:=iv 22) (by omega) hi.2.1 (by omega) (by first | exact hf.1 | exact hf.2.1 | exact hf.2.2.1) hi.2.2.2);(first | exact hk | exact hk.symm | (rw [hk];omega) | (rw [hk];done) | (simp only [hk];omega)))
  | ((have hk:=fnd_at (c:=iv0 0) (n:=(flenC (iv0 0))) (k:=iv 22) (by omega) hi.2.1 (by omega) (by first | exact hf.1 | exact hf.2.1 | exact hf.2.2.1) hi.2.2.2);exact fun _ h=>h ⟨hi.1,by rw [hk];omega⟩)
  | exact all_succ hi.2.1 hi.2.2.2 hf.1
  | ((have hk:=fnd_no (c:=iv0 0) (n:=(flenC (iv0 0))) (by omega) (by first | exact hf.1 | exact hf.2.1) hi.2.2.2);exact fun _ h=>by have:=h.2;omega)
theorem hFind_c:LsC ((tm0 hFind Tryz.f39 (Tryz.f39.body.getD .skip))::[hFind_T1,hFind_T2]) hFind.os [hFind_L0,hFind_L1,hFind_L2]:=by
 unfold hFind_L0 hFind_L1 hFind_L2
 exact ⟨List.forall_mem_cons.2 ⟨⟨⟨_,rfl,rfl⟩,by kernel_rfl⟩,List.forall_mem_cons.2 ⟨⟨⟨_,rfl,rfl⟩,by kernel_rfl⟩,List.forall_mem_nil _⟩⟩,List.forall_mem_cons.2 ⟨⟨⟨_,rfl,rfl⟩,by kernel_rfl⟩,List.forall_mem_nil _⟩,List.forall_mem_cons.2 ⟨⟨⟨_,rfl,rfl⟩,by kernel_rfl⟩,List.forall_mem_cons.2 ⟨⟨⟨_,rfl,rfl⟩,by kernel_rfl⟩,List.forall_mem_cons.2 ⟨⟨⟨_,rfl,rfl⟩,by kernel_rfl⟩,List.forall_mem_nil _⟩⟩⟩,trivial⟩
theorem hFind_ok:hFind.Ok Tryz.prog FI FB:=
 Con.of_plain (body:=Tryz.f39.body.getD .skip) pok fiok (EntsFor.cons hOf_ok EntsFor.nil) hFind Tryz.func39 (by kernel_rfl) 2 [hFind_T1,hFind_T2] (by kernel_rfl) [hFind_L0,hFind_L1,hFind_L2] ⟨hFind_h0,hFind_h1,hFind_h2,trivial⟩ hFind_c
  hFind_inv hFind_mu (fun _ _ _=>trivial) fun kv iv0 bv0 hin hF k l iv bv hk ha hi=>match k,hk,hi with
  | 0,hk,hi=>by
    cases hk
    exact hFind_o0 kv iv0 bv0 hin hF iv bv ha hi
  | 1,hk,hi=>by
    cases hk
    exact hFind_o1 kv iv0 bv0 hin hF iv bv ha hi
  | 2,hk,hi=>by
    cases hk
    exact hFind_o2 kv iv0 bv0 hin hF iv bv ha hi
  | k+3,hk,_=>by simp at hk
def hCheck_L0:List Lf:=
 let x0_:SI:=(.ap 200 (.v 0) (.c 0) (.c 0) (.c 0) (.c 0) (.c 0))
 [(.fin ([((.ap 20 (.v 0) x0_ (.c 0) (.c 0) (.c 0) (.c 0)),.true),((.le x0_ (.c 300)),.true)]) 0 ⟨⟨[],[]⟩,[],[],[]⟩ [] []),
  (.fin ([((.ap 20 (.v 0) x0_ (.c 0) (.c 0) (.c 0) (.c 0)),.false),((.le x0_ (.c 300)),.true)]) 1 ⟨⟨[],[]⟩,[],[],[]⟩ [] [])]
def hCheck_run (T:Tm):=(ex (ccOf Tryz.prog BF [29,73,75,100] hCheck) ((fun cc=>[hOf.ent cc]) (ccOf Tryz.prog BF [29,73,75,100] hCheck)) (dw (ccOf Tryz.prog BF [29,73,75,100] hCheck) ((fun cc=>[hOf.ent cc]) (ccOf Tryz.prog BF [29,73,75,100] hCheck)) 1000 4) (stopX []) 4000 T.f T.fs T.H).lfs (ccOf Tryz.prog BF [29,73,75,100] hCheck) ((tm0 hCheck Tryz.f207 (Tryz.f207.body.getD .skip))::[]) hCheck.os
theorem hCheck_h0:hCheck_run (tm0 hCheck Tryz.f207 (Tryz.f207.body.getD .skip))=some hCheck_L0:=by kernel_rfl
def hCheck_inv:(Nat→Int)→(Nat→Bool)→Nat→(Nat→Int)→(Nat→Bool)→Prop:=fun _ _ _ _ _=>True
def hCheck_mu:(Nat→Int)→(Nat→Bool)→Nat→(Nat→Int)→(Nat→Bool)→Nat:=fun _ _ _ _ _=>0
def hCheck_ob (k:Nat) (l:List Lf):Prop:=∀ (kv:Kv) (iv0:Nat→Int) (bv0:Nat→Bool),InB hCheck.B iv0→FT (sta FI FB kv iv0 bv0) (dlt dyn0) hCheck.F→∀ (iv:Nat→Int) (bv:Nat→Bool),Agr 1 iv0 bv0 iv bv→hCheck_inv iv0 bv0 k iv bv→∀ lf∈l,LfT (sta FI FB kv) hCheck.os (hCheck_inv iv0 bv0) (hCheck_mu iv0 bv0) k iv bv lf
theorem hCheck_o0:hCheck_ob 0 hCheck_L0:=by
 intro kv iv0 bv0 hin hF iv bv ha hi
 unfold hCheck_L0
 refine List.forall_mem_cons.2 ⟨?_,List.forall_mem_cons.2 ⟨?_,List.forall_mem_nil _⟩⟩
 all_goals
  intro δ hf
 all_goals
  have a0:=ha.1 0 (by omega)
 all_goals
  simp only [FT,TP,SB.tp,SI.tv,sta,IB.eval,and_true,true_and,ObsT,Ob.Tv,rowT,kix,In.tiv,↓tbvT,In.tbv,get_cons,get_nil,reduceIte,Nat.reduceEqDiff,Int.reduceToNat,Int.reduceAdd,Int.reduceSub,Int.reduceLE,Int.reduceLT,Int.reduceEq,ne_eq,Bool.false_eq_true,not_true_eq_false,not_false_eq_true,true_iff,false_iff,iff_true,iff_false,false_implies,implies_true,decT,decide_true,decide_false,Bool.decide_eq_true,ap2,pb2,FI_3,FI_3g,FI_4,FI_8,FI_8m,FI_9,FI_8c,FI_8z,FI_200,FB_0,FB_2,Int.toNat_natCast,Int.toNat_zero,FI_20,FB_20,hCheck_inv,hCheck_mu,hCheck,o1,othT,o1,flF,fH,lH,apN,pbN,apM,pbM,oMo,rowV,zeroV,i64b,SI.fl,flay,flayL,a0] at hf hi ⊢
 all_goals
  (repeat' (with_reducible apply And.intro))<;>first
  | omega
  | assumption
  | (unfold inM;omega)
  | exact fun _ h=>h hf.1
  | exact fun _ h=>hf.1 h
theorem hCheck_c:LsC ((tm0 hCheck Tryz.f207 (Tryz.f207.body.getD .skip))::[]) hCheck.os [hCheck_L0]:=by
 unfold hCheck_L0
 exact ⟨List.forall_mem_cons.2 ⟨⟨⟨_,rfl,rfl⟩,by kernel_rfl⟩,List.forall_mem_cons.2 ⟨⟨⟨_,rfl,rfl⟩,by kernel_rfl⟩,List.forall_mem_nil _⟩⟩,trivial⟩
theorem hCheck_ok:hCheck.Ok Tryz.prog FI FB:=
 Con.of_plain (body:=Tryz.f207.body.getD .skip) pok fiok (EntsFor.cons hOf_ok EntsFor.nil) hCheck Tryz.func207 (by kernel_rfl) 1 [] (by kernel_rfl) [hCheck_L0] ⟨hCheck_h0,trivial⟩ hCheck_c
  hCheck_inv hCheck_mu (fun _ _ _=>trivial) fun kv iv0 bv0 hin hF k l iv bv hk ha hi=>match k,hk,hi with
  | 0,hk,hi=>by
    cases hk
    exact hCheck_o0 kv iv0 bv0 hin hF iv bv ha hi
  | k+1,hk,_=>by simp at hk
end
end Go.Sx.Tk
