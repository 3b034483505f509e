/- Tokens: which are the same. -/
import Derived.Test.YtfailpbjhlhhiaaGreatTkD
namespace Go.Sx.Tk
set_option linter.unusedVariables false
set_option linter.unusedSimpArgs false
set_option maxRecDepth 100000
set_option maxHeartbeats 0
noncomputable section
open Go Go.Sx Go.Proofs
def cD5:Con:=⟨47,[0,1],[.fs 3 (.v 0),.fs 3 (.v 1)],[],[],[flF 0 300,flF 1 300],o1 (.bo (.ap 60 (.v 0) (.v 1) (.c 5) (.c 0) (.c 0) (.c 0))),[]⟩
def cD3:Con:=⟨48,[0,1],[.fs 4 (.v 0),.fs 4 (.v 1)],[],[],[flF 0 300,flF 1 300],o1 (.bo (.ap 60 (.v 0) (.v 1) (.c 3) (.c 0) (.c 0) (.c 0))),[]⟩
def cDT:Con:=⟨13,[0,1,2,3,4,5,6,7,8,9,10,11,12,13],[.ag [.it .i64 (.v 0),.fs 1 (.v 1),.fs 3 (.v 2),.fs 4 (.v 3),.it .i64 (.v 4),.it .i64 (.v 5),.it .u64 (.v 6)],.ag [.it .i64 (.v 7),.fs 1 (.v 8),.fs 3 (.v 9),.fs 4 (.v 10),.it .i64 (.v 11),.it .i64 (.v 12),.it .u64 (.v 13)]],[],i64b 0::i64b 4::i64b 5::u64b 6::i64b 7::i64b 11::i64b 12::u64b 13::[],flF 1 300::flF 2 300::flF 3 300::flF 8 300::flF 9 300::flF 10 300::[],o1 (.bo (.eq (.ap 61 (.ap 61 (.ap 61 (.ap 60 (.ap 60 (.c 1) (.v 0) (.v 7) (.v 4) (.v 11) (.c 0)) (.v 5) (.v 12) (.v 6) (.v 13) (.c 0)) (.v 1) (.v 8) (.c 1) (.c 0) (.c 0)) (.v 2) (.v 9) (.c 5) (.c 0) (.c 0)) (.v 3) (.v 10) (.c 3) (.c 0) (.c 0)) (.c 1))),[]⟩
def cD5_T1:Tm:=⟨⟨47,26,[(5,(.it .i64 (.v 22))),(0,(.fs 3 (.v 0))),(1,(.fs 3 (.v 1)))],[(.code (atC Tryz.f47 [1,1,0,1,0,0])),(.inLoop (atC Tryz.f47 [1,1,0,1,0,0])),(.inBlock 0),(.code (atC Tryz.f47 [1,1,1]))],[],.none⟩,[],
    ⟨[],0,0,0,[((.eq (.ap 200 (.v 0) (.c 0) (.c 0) (.c 0) (.c 0) (.c 0)) (.ap 200 (.v 1) (.c 0) (.c 0) (.c 0) (.c 0) (.c 0))),.true),((.le (.ap 200 (.v 0) (.c 0) (.c 0) (.c 0) (.c 0) (.c 0)) (.c 300)),.true),((.le (.ap 200 (.v 1) (.c 0) (.c 0) (.c 0) (.c 0) (.c 0)) (.c 300)),.true)],[0],[(22,(0,(-1)))]⟩,[22]⟩
def cD5_L0:List Lf:=
 let x0_:SI:=(.ap 200 (.v 0) (.c 0) (.c 0) (.c 0) (.c 0) (.c 0))
 let x1_:SI:=(.ap 200 (.v 1) (.c 0) (.c 0) (.c 0) (.c 0) (.c 0))
 let f0_:List (SB×Bool):=[((.le x0_ (.c 300)),.true),((.le x1_ (.c 300)),.true)]
 [(.cut (((.eq x0_ x1_),.true)::f0_) 1 ⟨⟨[(22,(.c 0))],[]⟩,[],[],[]⟩ [] (shT cD5_T1 ⟨⟨[(22,(.c 0))],[]⟩,[],[],[]⟩)),
  (.fin (((.eq x0_ x1_),.false)::f0_) 0 ⟨⟨[],[]⟩,[],[],[]⟩ [(.eb (.ap 60 (.v 0) (.v 1) (.c 5) (.c 0) (.c 0) (.c 0)) (.c .false))] [])]
def cD5_L1:List Lf:=
 let x0_:SI:=(.ap 3 (.v 0) (.v 22) (.c 0) (.c 0) (.c 0) (.c 0))
 let x1_:SI:=(.ap 3 (.v 1) (.v 22) (.c 0) (.c 0) (.c 0) (.c 0))
 let x2_:SI:=(.ap 3 (.v 0) (.v 22) (.c 1) (.c 0) (.c 0) (.c 0))
 let x3_:SI:=(.ap 3 (.v 1) (.v 22) (.c 1) (.c 0) (.c 0) (.c 0))
 let x4_:SI:=(.ap 3 (.v 0) (.v 22) (.c 2) (.c 0) (.c 0) (.c 0))
 let x5_:SI:=(.ap 3 (.v 1) (.v 22) (.c 2) (.c 0) (.c 0) (.c 0))
 let x6_:SI:=(.ap 3 (.v 0) (.v 22) (.c 3) (.c 0) (.c 0) (.c 0))
 let x7_:SI:=(.ap 3 (.v 1) (.v 22) (.c 3) (.c 0) (.c 0) (.c 0))
 let x8_:SI:=(.ap 3 (.v 0) (.v 22) (.c 4) (.c 0) (.c 0) (.c 0))
 let x9_:SI:=(.ap 3 (.v 1) (.v 22) (.c 4) (.c 0) (.c 0) (.c 0))
 let x10_:SI:=(.ap 200 (.v 0) (.c 0) (.c 0) (.c 0) (.c 0) (.c 0))
 let x11_:SI:=(.ap 200 (.v 1) (.c 0) (.c 0) (.c 0) (.c 0) (.c 0))
 let f0_:List (SB×Bool):=[((.eq x10_ x11_),.true),((.le x10_ (.c 300)),.true),((.le x11_ (.c 300)),.true)]
 let f1_:List (SB×Bool):=((.lt (.v 22) x10_),.true)::f0_
 let f2_:List (SB×Bool):=((.eq x0_ x1_),.true)::f1_
 let f3_:List (SB×Bool):=((.eq x2_ x3_),.true)::f2_
 let f4_:List (SB×Bool):=((.eq x4_ x5_),.true)::f3_
 let f5_:List (SB×Bool):=((.eq x6_ x7_),.true)::f4_
 [(let i_:In:=⟨⟨[(22,(.wk .i64 (.op .add (.v 22) (.c 1))))],[]⟩,[],[],[]⟩;.cut (((.eq x8_ x9_),.true)::f5_) 1 i_ [(.rn (.wk .i64 (.op .add (.v 22) (.c 1))) 0 (-1))] (shT cD5_T1 i_)),
  (.fin (((.eq x8_ x9_),.false)::f5_) 0 ⟨⟨[],[]⟩,[],[],[]⟩ [(.eb (.ap 60 (.v 0) (.v 1) (.c 5) (.c 0) (.c 0) (.c 0)) (.c .false))] []),
  (.fin (((.eq x6_ x7_),.false)::f4_) 0 ⟨⟨[],[]⟩,[],[],[]⟩ [(.eb (.ap 60 (.v 0) (.v 1) (.c 5) (.c 0) (.c 0) (.c 0)) (.c .false))] []),
  (.fin (((.eq x4_ x5_),.false)::f3_) 0 ⟨⟨[],[]⟩,[],[],[]⟩ [(.eb (.ap 60 (.v 0) (.v 1) (.c 5) (.c 0) (.c 0) (.c 0)) (.c .false))] []),
  (.fin (((.eq x2_ x3_),.false)::f2_) 0 ⟨⟨[],[]⟩,[],[],[]⟩ [(.eb (.ap 60 (.v 0) (.v 1) (.c 5) (.c 0) (.c 0) (.c 0)) (.c .false))] []),
  (.fin (((.eq x0_ x1_),.false)::f1_) 0 ⟨⟨[],[]⟩,[],[],[]⟩ [(.eb (.ap 60 (.v 0) (.v 1) (.c 5) (.c 0) (.c 0) (.c 0)) (.c .false))] []),
  (.fin (((.lt (.v 22) x10_),.false)::f0_) 0 ⟨⟨[],[]⟩,[],[],[]⟩ [(.eb (.ap 60 (.v 0) (.v 1) (.c 5) (.c 0) (.c 0) (.c 0)) (.c .true))] [])]
def cD5_run (T:Tm):=(ex (ccOf Tryz.prog BF [29,73,75,100] cD5) ((fun _=>[]) (ccOf Tryz.prog BF [29,73,75,100] cD5)) (dw (ccOf Tryz.prog BF [29,73,75,100] cD5) ((fun _=>[]) (ccOf Tryz.prog BF [29,73,75,100] cD5)) 100 4) (stopX []) 20000 T.f T.fs T.H).lfs (ccOf Tryz.prog BF [29,73,75,100] cD5) ((tm0 cD5 Tryz.f47 (Tryz.f47.body.getD .skip))::[cD5_T1]) cD5.os
theorem cD5_h0:cD5_run (tm0 cD5 Tryz.f47 (Tryz.f47.body.getD .skip))=some cD5_L0:=by kernel_rfl
theorem cD5_h1:cD5_run cD5_T1=some cD5_L1:=by kernel_rfl
def cD5_inv:(Nat→Int)→(Nat→Bool)→Nat→(Nat→Int)→(Nat→Bool)→Prop:=fun iv0 _ k iv _=>match k with | 0=>True | _=>0≤iv 22∧iv 22≤flenC (iv0 0)∧flenC (iv0 0)=flenC (iv0 1)∧eqT 5 (iv0 0) (iv0 1) (iv 22)
def cD5_mu:(Nat→Int)→(Nat→Bool)→Nat→(Nat→Int)→(Nat→Bool)→Nat:=fun iv0 _ k iv _=>match k with | 0=>2 ^ 90 | _=>(70000 - iv 22).toNat
def cD5_ob (k:Nat) (l:List Lf):Prop:=∀ (kv:Kv) (iv0:Nat→Int) (bv0:Nat→Bool),InB cD5.B iv0→FT (sta FI FB kv iv0 bv0) (dlt dyn0) cD5.F→∀ (iv:Nat→Int) (bv:Nat→Bool),Agr 2 iv0 bv0 iv bv→cD5_inv iv0 bv0 k iv bv→∀ lf∈l,LfT (sta FI FB kv) cD5.os (cD5_inv iv0 bv0) (cD5_mu iv0 bv0) k iv bv lf
theorem cD5_o0:cD5_ob 0 cD5_L0:=by
 intro kv iv0 bv0 hin hF iv bv ha hi
 unfold cD5_L0
 refine List.forall_mem_cons.2 ⟨?_,List.forall_mem_cons.2 ⟨?_,List.forall_mem_nil _⟩⟩
 all_goals
  intro δ hf
 all_goals
  have a0:=ha.1 0 (by omega)
  have a1:=ha.1 1 (by omega)
 all_goals
  simp only [FT,TP,SB.tp,SI.tv,sta,IB.eval,and_true,true_and,ObsT,Ob.Tv,rowT,kix,In.tiv,↓tbvT,In.tbv,get_cons,get_nil,reduceIte,Nat.reduceEqDiff,Int.reduceToNat,Int.reduceAdd,Int.reduceSub,Int.reduceLE,Int.reduceLT,Int.reduceEq,ne_eq,Bool.false_eq_true,not_true_eq_false,not_false_eq_true,true_iff,false_iff,iff_true,iff_false,false_implies,implies_true,decT,decide_true,decide_false,Bool.decide_eq_true,ap2,pb2,FI_3,FI_3g,FI_4,FI_8,FI_8m,FI_9,FI_8c,FI_8z,FI_200,FB_0,FB_2,Int.toNat_natCast,Int.toNat_zero,FI_60,FB_60,cD5_inv,cD5_mu,cD5,o1,othT,o1,flF,SI.fl,flay,flayL,i64b,u64b,a0,a1] at hf hi ⊢
 all_goals
  have n0:=flenC_nn (iv0 0)
 all_goals
  have n1:=flenC_nn (iv0 1)
 all_goals
  have z0:=eqT_zero 5 (iv0 0) (iv0 1)
 all_goals
  have z1:=@eqL_len 5 (iv0 0) (iv0 1)
 all_goals
  (repeat' (with_reducible apply And.intro))<;>first
  | omega
  | assumption
  | (unfold inM;omega)
  | exact trivial
  | (clear hin hF ha;grind)
theorem cD5_o1:cD5_ob 1 cD5_L1:=by
 intro kv iv0 bv0 hin hF iv bv ha hi
 unfold cD5_L1
 refine List.forall_mem_cons.2 ⟨?_,List.forall_mem_cons.2 ⟨?_,List.forall_mem_cons.2 ⟨?_,List.forall_mem_cons.2 ⟨?_,List.forall_mem_cons.2 ⟨?_,List.forall_mem_cons.2 ⟨?_,List.forall_mem_cons.2 ⟨?_,List.forall_mem_nil _⟩⟩⟩⟩⟩⟩⟩
 all_goals
  intro δ hf
 all_goals
  have a0:=ha.1 0 (by omega)
  have a1:=ha.1 1 (by omega)
 all_goals
  simp only [FT,TP,SB.tp,SI.tv,sta,IB.eval,and_true,true_and,ObsT,Ob.Tv,rowT,kix,In.tiv,↓tbvT,In.tbv,get_cons,get_nil,reduceIte,Nat.reduceEqDiff,Int.reduceToNat,Int.reduceAdd,Int.reduceSub,Int.reduceLE,Int.reduceLT,Int.reduceEq,ne_eq,Bool.false_eq_true,not_true_eq_false,not_false_eq_true,true_iff,false_iff,iff_true,iff_false,false_implies,implies_true,decT,decide_true,decide_false,Bool.decide_eq_true,ap2,pb2,FI_3,FI_3g,FI_4,FI_8,FI_8m,FI_9,FI_8c,FI_8z,FI_200,FB_0,FB_2,Int.toNat_natCast,Int.toNat_zero,FI_60,FB_60,cD5_inv,cD5_mu,cD5,o1,othT,o1,flF,SI.fl,flay,flayL,i64b,u64b,a0,a1] at hf hi ⊢
 all_goals
  obtain ⟨g0,g1,g2,g3⟩:=hi
 all_goals
  have n0:=flenC_nn (iv0 0)
 all_goals
  have n1:=flenC_nn (iv0 1)
 all_goals
  have w22:0≤iv 22→iv 22≤65536→IntKind.i64.wrap (iv 22+1)=iv 22+1:=fun _ _=>by rw [wrap_i64];omega
 all_goals
  have y1:=fun h0 h1 h2 h3 h4=>@eqT_suc 5 (iv0 0) (iv0 1) (iv 22) g3 g0 (@eq5 (iv0 0) (iv0 1) (iv 22).toNat h0 h1 h2 h3 h4)
 all_goals
  have y2:=@eqL_yes 5 (iv0 0) (iv0 1) (iv 22) g2 g3
 all_goals
  have x0:=@eqL_no 5 (iv0 0) (iv0 1) (iv 22) 0 g0
 all_goals
  have x1:=@eqL_no 5 (iv0 0) (iv0 1) (iv 22) 1 g0
 all_goals
  have x2:=@eqL_no 5 (iv0 0) (iv0 1) (iv 22) 2 g0
 all_goals
  have x3:=@eqL_no 5 (iv0 0) (iv0 1) (iv 22) 3 g0
 all_goals
  have x4:=@eqL_no 5 (iv0 0) (iv0 1) (iv 22) 4 g0
 all_goals
  (repeat' (with_reducible apply And.intro))<;>first
  | omega
  | assumption
  | (unfold inM;omega)
  | exact trivial
  | (clear hin hF ha;grind)
theorem cD5_c:LsC ((tm0 cD5 Tryz.f47 (Tryz.f47.body.getD .skip))::[cD5_T1]) cD5.os [cD5_L0,cD5_L1]:=by
 unfold cD5_L0 cD5_L1
 exact ⟨List.forall_mem_cons.2 ⟨⟨⟨_,rfl,rfl⟩,by kernel_rfl⟩,List.forall_mem_cons.2 ⟨⟨⟨_,rfl,rfl⟩,by kernel_rfl⟩,List.forall_mem_nil _⟩⟩,List.forall_mem_cons.2 ⟨⟨⟨_,rfl,rfl⟩,by kernel_rfl⟩,List.forall_mem_cons.2 ⟨⟨⟨_,rfl,rfl⟩,by kernel_rfl⟩,List.forall_mem_cons.2 ⟨⟨⟨_,rfl,rfl⟩,by kernel_rfl⟩,List.forall_mem_cons.2 ⟨⟨⟨_,rfl,rfl⟩,by kernel_rfl⟩,List.forall_mem_cons.2 ⟨⟨⟨_,rfl,rfl⟩,by kernel_rfl⟩,List.forall_mem_cons.2 ⟨⟨⟨_,rfl,rfl⟩,by kernel_rfl⟩,List.forall_mem_cons.2 ⟨⟨⟨_,rfl,rfl⟩,by kernel_rfl⟩,List.forall_mem_nil _⟩⟩⟩⟩⟩⟩⟩,trivial⟩
theorem cD5_ok:cD5.Ok Tryz.prog FI FB:=
 Con.of_plain (body:=Tryz.f47.body.getD .skip) pok fiok EntsFor.nil cD5 Tryz.func47 (by kernel_rfl) 2 [cD5_T1] (by kernel_rfl) [cD5_L0,cD5_L1] ⟨cD5_h0,cD5_h1,trivial⟩ cD5_c
  cD5_inv cD5_mu (fun _ _ _=>trivial) fun kv iv0 bv0 hin hF k l iv bv hk ha hi=>match k,hk,hi with
  | 0,hk,hi=>by
    cases hk
    exact cD5_o0 kv iv0 bv0 hin hF iv bv ha hi
  | 1,hk,hi=>by
    cases hk
    exact cD5_o1 kv iv0 bv0 hin hF iv bv ha hi
  | k+2,hk,_=>by simp at hk
def cD3_T1:Tm:=⟨⟨48,26,[(5,(.it .i64 (.v 22))),(0,(.fs 4 (.v 0))),(1,(.fs 4 (.v 1)))],[(.code (atC Tryz.f48 [1,1,0,1,0,0])),(.inLoop (atC Tryz.f48 [1,1,0,1,0,0])),(.inBlock 0),(.code (atC Tryz.f48 [1,1,1]))],[],.none⟩,[],
    ⟨[],0,0,0,[((.eq (.ap 200 (.v 0) (.c 0) (.c 0) (.c 0) (.c 0) (.c 0)) (.ap 200 (.v 1) (.c 0) (.c 0) (.c 0) (.c 0) (.c 0))),.true),((.le (.ap 200 (.v 0) (.c 0) (.c 0) (.c 0) (.c 0) (.c 0)) (.c 300)),.true),((.le (.ap 200 (.v 1) (.c 0) (.c 0) (.c 0) (.c 0) (.c 0)) (.c 300)),.true)],[0],[(22,(0,(-1)))]⟩,[22]⟩
def cD3_L0:List Lf:=
 let x0_:SI:=(.ap 200 (.v 0) (.c 0) (.c 0) (.c 0) (.c 0) (.c 0))
 let x1_:SI:=(.ap 200 (.v 1) (.c 0) (.c 0) (.c 0) (.c 0) (.c 0))
 let f0_:List (SB×Bool):=[((.le x0_ (.c 300)),.true),((.le x1_ (.c 300)),.true)]
 [(.cut (((.eq x0_ x1_),.true)::f0_) 1 ⟨⟨[(22,(.c 0))],[]⟩,[],[],[]⟩ [] (shT cD3_T1 ⟨⟨[(22,(.c 0))],[]⟩,[],[],[]⟩)),
  (.fin (((.eq x0_ x1_),.false)::f0_) 0 ⟨⟨[],[]⟩,[],[],[]⟩ [(.eb (.ap 60 (.v 0) (.v 1) (.c 3) (.c 0) (.c 0) (.c 0)) (.c .false))] [])]
def cD3_L1:List Lf:=
 let x0_:SI:=(.ap 3 (.v 0) (.v 22) (.c 0) (.c 0) (.c 0) (.c 0))
 let x1_:SI:=(.ap 3 (.v 1) (.v 22) (.c 0) (.c 0) (.c 0) (.c 0))
 let x2_:SI:=(.ap 3 (.v 0) (.v 22) (.c 1) (.c 0) (.c 0) (.c 0))
 let x3_:SI:=(.ap 3 (.v 1) (.v 22) (.c 1) (.c 0) (.c 0) (.c 0))
 let x4_:SI:=(.ap 3 (.v 0) (.v 22) (.c 2) (.c 0) (.c 0) (.c 0))
 let x5_:SI:=(.ap 3 (.v 1) (.v 22) (.c 2) (.c 0) (.c 0) (.c 0))
 let x6_:SI:=(.ap 200 (.v 0) (.c 0) (.c 0) (.c 0) (.c 0) (.c 0))
 let x7_:SI:=(.ap 200 (.v 1) (.c 0) (.c 0) (.c 0) (.c 0) (.c 0))
 let f0_:List (SB×Bool):=[((.eq x6_ x7_),.true),((.le x6_ (.c 300)),.true),((.le x7_ (.c 300)),.true)]
 let f1_:List (SB×Bool):=((.lt (.v 22) x6_),.true)::f0_
 let f2_:List (SB×Bool):=((.eq x0_ x1_),.true)::f1_
 let f3_:List (SB×Bool):=((.eq x2_ x3_),.true)::f2_
 [(let i_:In:=⟨⟨[(22,(.wk .i64 (.op .add (.v 22) (.c 1))))],[]⟩,[],[],[]⟩;.cut (((.eq x4_ x5_),.true)::f3_) 1 i_ [(.rn (.wk .i64 (.op .add (.v 22) (.c 1))) 0 (-1))] (shT cD3_T1 i_)),
  (.fin (((.eq x4_ x5_),.false)::f3_) 0 ⟨⟨[],[]⟩,[],[],[]⟩ [(.eb (.ap 60 (.v 0) (.v 1) (.c 3) (.c 0) (.c 0) (.c 0)) (.c .false))] []),
  (.fin (((.eq x2_ x3_),.false)::f2_) 0 ⟨⟨[],[]⟩,[],[],[]⟩ [(.eb (.ap 60 (.v 0) (.v 1) (.c 3) (.c 0) (.c 0) (.c 0)) (.c .false))] []),
  (.fin (((.eq x0_ x1_),.false)::f1_) 0 ⟨⟨[],[]⟩,[],[],[]⟩ [(.eb (.ap 60 (.v 0) (.v 1) (.c 3) (.c 0) (.c 0) (.c 0)) (.c .false))] []),
  (.fin (((.lt (.v 22) x6_),.false)::f0_) 0 ⟨⟨[],[]⟩,[],[],[]⟩ [(.eb (.ap 60 (.v 0) (.v 1) (.c 3) (.c 0) (.c 0) (.c 0)) (.c .true))] [])]
def cD3_run (T:Tm):=(ex (ccOf Tryz.prog BF [29,73,75,100] cD3) ((fun _=>[]) (ccOf Tryz.prog BF [29,73,75,100] cD3)) (dw (ccOf Tryz.prog BF [29,73,75,100] cD3) ((fun _=>[]) (ccOf Tryz.prog BF [29,73,75,100] cD3)) 100 4) (stopX []) 20000 T.f T.fs T.H).lfs (ccOf Tryz.prog BF [29,73,75,100] cD3) ((tm0 cD3 Tryz.f48 (Tryz.f48.body.getD .skip))::[cD3_T1]) cD3.os
theorem cD3_h0:cD3_run (tm0 cD3 Tryz.f48 (Tryz.f48.body.getD .skip))=some cD3_L0:=by kernel_rfl
theorem cD3_h1:cD3_run cD3_T1=some cD3_L1:=by kernel_rfl
def cD3_inv:(Nat→Int)→(Nat→Bool)→Nat→(Nat→Int)→(Nat→Bool)→Prop:=fun iv0 _ k iv _=>match k with | 0=>True | _=>0≤iv 22∧iv 22≤flenC (iv0 0)∧flenC (iv0 0)=flenC (iv0 1)∧eqT 3 (iv0 0) (iv0 1) (iv 22)
def cD3_mu:(Nat→Int)→(Nat→Bool)→Nat→(Nat→Int)→(Nat→Bool)→Nat:=fun iv0 _ k iv _=>match k with | 0=>2 ^ 90 | _=>(70000 - iv 22).toNat
def cD3_ob (k:Nat) (l:List Lf):Prop:=∀ (kv:Kv) (iv0:Nat→Int) (bv0:Nat→Bool),InB cD3.B iv0→FT (sta FI FB kv iv0 bv0) (dlt dyn0) cD3.F→∀ (iv:Nat→Int) (bv:Nat→Bool),Agr 2 iv0 bv0 iv bv→cD3_inv iv0 bv0 k iv bv→∀ lf∈l,LfT (sta FI FB kv) cD3.os (cD3_inv iv0 bv0) (cD3_mu iv0 bv0) k iv bv lf
theorem cD3_o0:cD3_ob 0 cD3_L0:=by
 intro kv iv0 bv0 hin hF iv bv ha hi
 unfold cD3_L0
 refine List.forall_mem_cons.2 ⟨?_,List.forall_mem_cons.2 ⟨?_,List.forall_mem_nil _⟩⟩
 all_goals
  intro δ hf
 all_goals
  have a0:=ha.1 0 (by omega)
  have a1:=ha.1 1 (by omega)
 all_goals
  simp only [FT,TP,SB.tp,SI.tv,sta,IB.eval,and_true,true_and,ObsT,Ob.Tv,rowT,kix,In.tiv,↓tbvT,In.tbv,get_cons,get_nil,reduceIte,Nat.reduceEqDiff,Int.reduceToNat,Int.reduceAdd,Int.reduceSub,Int.reduceLE,Int.reduceLT,Int.reduceEq,ne_eq,Bool.false_eq_true,not_true_eq_false,not_false_eq_true,true_iff,false_iff,iff_true,iff_false,false_implies,implies_true,decT,decide_true,decide_false,Bool.decide_eq_true,ap2,pb2,FI_3,FI_3g,FI_4,FI_8,FI_8m,FI_9,FI_8c,FI_8z,FI_200,FB_0,FB_2,Int.toNat_natCast,Int.toNat_zero,FI_60,FB_60,cD3_inv,cD3_mu,cD3,o1,othT,o1,flF,SI.fl,flay,flayL,i64b,u64b,a0,a1] at hf hi ⊢
 all_goals
  have n0:=flenC_nn (iv0 0)
 all_goals
  have n1:=flenC_nn (iv0 1)
 all_goals
  have z0:=eqT_zero 3 (iv0 0) (iv0 1)
 all_goals
  have z1:=@eqL_len 3 (iv0 0) (iv0 1)
 all_goals
  (repeat' (with_reducible apply And.intro))<;>first
  | omega
  | assumption
  | (unfold inM;omega)
  | exact trivial
  | (clear hin hF ha;grind)
theorem cD3_o1:cD3_ob 1 cD3_L1:=by
 intro kv iv0 bv0 hin hF iv bv ha hi
 unfold cD3_L1
 refine List.forall_mem_cons.2 ⟨?_,List.forall_mem_cons.2 ⟨?_,List.forall_mem_cons.2 ⟨?_,List.forall_mem_cons.2 ⟨?_,List.forall_mem_cons.2 ⟨?_,List.forall_mem_nil _⟩⟩⟩⟩⟩
 all_goals
  intro δ hf
 all_goals
  have a0:=ha.1 0 (by omega)
  have a1:=ha.1 1 (by omega)
 all_goals
  simp only [FT,TP,SB.tp,SI.tv,sta,IB.eval,and_true,true_and,ObsT,Ob.Tv,rowT,kix,In.tiv,↓tbvT,In.tbv,get_cons,get_nil,reduceIte,Nat.reduceEqDiff,Int.reduceToNat,Int.reduceAdd,Int.reduceSub,Int.reduceLE,Int.reduceLT,Int.reduceEq,ne_eq,Bool.false_eq_true,not_true_eq_false,not_false_eq_true,true_iff,false_iff,iff_true,iff_false,false_implies,implies_true,decT,decide_true,decide_false,Bool.decide_eq_true,ap2,pb2,FI_3,FI_3g,FI_4,FI_8,FI_8m,FI_9,FI_8c,FI_8z,FI_200,FB_0,FB_2,Int.toNat_natCast,Int.toNat_zero,FI_60,FB_60,cD3_inv,cD3_mu,cD3,o1,othT,o1,flF,SI.fl,flay,flayL,i64b,u64b,a0,a1] at hf hi ⊢
 all_goals
  obtain ⟨g0,g1,g2,g3⟩:=hi
 all_goals
  have n0:=flenC_nn (iv0 0)
 all_goals
  have n1:=flenC_nn (iv0 1)
 all_goals
  have w22:0≤iv 22→iv 22≤65536→IntKind.i64.wrap (iv 22+1)=iv 22+1:=fun _ _=>by rw [wrap_i64];omega
 all_goals
  have y1:=fun h0 h1 h2=>@eqT_suc 3 (iv0 0) (iv0 1) (iv 22) g3 g0 (@eq3 (iv0 0) (iv0 1) (iv 22).toNat h0 h1 h2)
 all_goals
  have y2:=@eqL_yes 3 (iv0 0) (iv0 1) (iv 22) g2 g3
 all_goals
  have x0:=@eqL_no 3 (iv0 0) (iv0 1) (iv 22) 0 g0
 all_goals
  have x1:=@eqL_no 3 (iv0 0) (iv0 1) (iv 22) 1 g0
 all_goals
  have x2:=@eqL_no 3 (iv0 0) (iv0 1) (iv 22) 2 g0
 all_goals
  (repeat' (with_reducible apply And.intro))<;>first
  | omega
  | assumption
  | (unfold inM;omega)
  | exact trivial
  | (clear hin hF ha;grind)
theorem cD3_c:LsC ((tm0 cD3 Tryz.f48 (Tryz.f48.body.getD .skip))::[cD3_T1]) cD3.os [cD3_L0,cD3_L1]:=by
 unfold cD3_L0 cD3_L1
 exact ⟨List.forall_mem_cons.2 ⟨⟨⟨_,rfl,rfl⟩,by kernel_rfl⟩,List.forall_mem_cons.2 ⟨⟨⟨_,rfl,rfl⟩,by kernel_rfl⟩,List.forall_mem_nil _⟩⟩,List.forall_mem_cons.2 ⟨⟨⟨_,rfl,rfl⟩,by kernel_rfl⟩,List.forall_mem_cons.2 ⟨⟨⟨_,rfl,rfl⟩,by kernel_rfl⟩,List.forall_mem_cons.2 ⟨⟨⟨_,rfl,rfl⟩,by kernel_rfl⟩,List.forall_mem_cons.2 ⟨⟨⟨_,rfl,rfl⟩,by kernel_rfl⟩,List.forall_mem_cons.2 ⟨⟨⟨_,rfl,rfl⟩,by kernel_rfl⟩,List.forall_mem_nil _⟩⟩⟩⟩⟩,trivial⟩
theorem cD3_ok:cD3.Ok Tryz.prog FI FB:=
 Con.of_plain (body:=Tryz.f48.body.getD .skip) pok fiok EntsFor.nil cD3 Tryz.func48 (by kernel_rfl) 2 [cD3_T1] (by kernel_rfl) [cD3_L0,cD3_L1] ⟨cD3_h0,cD3_h1,trivial⟩ cD3_c
  cD3_inv cD3_mu (fun _ _ _=>trivial) fun kv iv0 bv0 hin hF k l iv bv hk ha hi=>match k,hk,hi with
  | 0,hk,hi=>by
    cases hk
    exact cD3_o0 kv iv0 bv0 hin hF iv bv ha hi
  | 1,hk,hi=>by
    cases hk
    exact cD3_o1 kv iv0 bv0 hin hF iv bv ha hi
  | k+2,hk,_=>by simp at hk
def cDT_T1:Tm:=⟨⟨13,57,[(5,(.it .i64 (.v 34))),(3,(.pt (.n 1) (.c 0))),(2,(.pt (.n 0) (.c 0)))],[(.code (atC Tryz.f13 [1,1,0,1,0,0])),(.inLoop (atC Tryz.f13 [1,1,0,1,0,0])),(.inBlock 0),(.code (atC Tryz.f13 [1,1,1]))],[],.none⟩,[],
    ⟨[(0,(.cells [(.it .i64 (.v 0)),(.fs 1 (.v 1)),(.fs 3 (.v 2)),(.fs 4 (.v 3)),(.it .i64 (.v 4)),(.it .i64 (.v 5)),(.it .u64 (.v 6))] 31)),(1,(.cells [(.it .i64 (.v 7)),(.fs 1 (.v 8)),(.fs 3 (.v 9)),(.fs 4 (.v 10)),(.it .i64 (.v 11)),(.it .i64 (.v 12)),(.it .u64 (.v 13))] 31))],2,0,0,[((.eq (.v 6) (.v 13)),.true),((.eq (.v 5) (.v 12)),.true),((.eq (.v 4) (.v 11)),.true),((.eq (.ap 200 (.v 1) (.c 0) (.c 0) (.c 0) (.c 0) (.c 0)) (.ap 200 (.v 8) (.c 0) (.c 0) (.c 0) (.c 0) (.c 0))),.true),((.eq (.v 0) (.v 7)),.true),((.le (.ap 200 (.v 1) (.c 0) (.c 0) (.c 0) (.c 0) (.c 0)) (.c 300)),.true),((.le (.ap 200 (.v 2) (.c 0) (.c 0) (.c 0) (.c 0) (.c 0)) (.c 300)),.true),((.le (.ap 200 (.v 3) (.c 0) (.c 0) (.c 0) (.c 0) (.c 0)) (.c 300)),.true),((.le (.ap 200 (.v 8) (.c 0) (.c 0) (.c 0) (.c 0) (.c 0)) (.c 300)),.true),((.le (.ap 200 (.v 9) (.c 0) (.c 0) (.c 0) (.c 0) (.c 0)) (.c 300)),.true),((.le (.ap 200 (.v 10) (.c 0) (.c 0) (.c 0) (.c 0) (.c 0)) (.c 300)),.true)],[0],[(0,((-9223372036854775808),9223372036854775807)),(4,((-9223372036854775808),9223372036854775807)),(5,((-9223372036854775808),9223372036854775807)),(6,(0,18446744073709551615)),(7,((-9223372036854775808),9223372036854775807)),(11,((-9223372036854775808),9223372036854775807)),(12,((-9223372036854775808),9223372036854775807)),(13,(0,18446744073709551615)),(34,(0,(-1)))]⟩,[34]⟩
def cDT_L0:List Lf:=
 let x0_:SI:=(.ap 200 (.v 1) (.c 0) (.c 0) (.c 0) (.c 0) (.c 0))
 let x1_:SI:=(.ap 200 (.v 8) (.c 0) (.c 0) (.c 0) (.c 0) (.c 0))
 let x2_:SI:=(.ap 61 (.ap 61 (.ap 61 (.ap 60 (.ap 60 (.c 1) (.v 0) (.v 7) (.v 4) (.v 11) (.c 0)) (.v 5) (.v 12) (.v 6) (.v 13) (.c 0)) (.v 1) (.v 8) (.c 1) (.c 0) (.c 0)) (.v 2) (.v 9) (.c 5) (.c 0) (.c 0)) (.v 3) (.v 10) (.c 3) (.c 0) (.c 0))
 let f0_:List (SB×Bool):=[((.le x0_ (.c 300)),.true),((.le (.ap 200 (.v 2) (.c 0) (.c 0) (.c 0) (.c 0) (.c 0)) (.c 300)),.true),((.le (.ap 200 (.v 3) (.c 0) (.c 0) (.c 0) (.c 0) (.c 0)) (.c 300)),.true),((.le x1_ (.c 300)),.true),((.le (.ap 200 (.v 9) (.c 0) (.c 0) (.c 0) (.c 0) (.c 0)) (.c 300)),.true),((.le (.ap 200 (.v 10) (.c 0) (.c 0) (.c 0) (.c 0) (.c 0)) (.c 300)),.true)]
 let f1_:List (SB×Bool):=((.eq (.v 0) (.v 7)),.true)::f0_
 let f2_:List (SB×Bool):=((.eq x0_ x1_),.true)::f1_
 let f3_:List (SB×Bool):=((.eq (.v 4) (.v 11)),.true)::f2_
 let f4_:List (SB×Bool):=((.eq (.v 5) (.v 12)),.true)::f3_
 [(.cut (((.eq (.v 6) (.v 13)),.true)::f4_) 1 ⟨⟨[(34,(.c 0))],[]⟩,[(0,0),(1,1)],[],[]⟩ [] (shT cDT_T1 ⟨⟨[(34,(.c 0))],[]⟩,[(0,0),(1,1)],[],[]⟩)),
  (.fin (((.eq (.v 6) (.v 13)),.false)::f4_) 0 ⟨⟨[],[]⟩,[],[],[]⟩ [(.eb (.eq x2_ (.c 1)) (.c .false))] []),
  (.fin (((.eq (.v 5) (.v 12)),.false)::f3_) 0 ⟨⟨[],[]⟩,[],[],[]⟩ [(.eb (.eq x2_ (.c 1)) (.c .false))] []),
  (.fin (((.eq (.v 4) (.v 11)),.false)::f2_) 0 ⟨⟨[],[]⟩,[],[],[]⟩ [(.eb (.eq x2_ (.c 1)) (.c .false))] []),
  (.fin (((.eq x0_ x1_),.false)::f1_) 0 ⟨⟨[],[]⟩,[],[],[]⟩ [(.eb (.eq x2_ (.c 1)) (.c .false))] []),
  (.fin (((.eq (.v 0) (.v 7)),.false)::f0_) 0 ⟨⟨[],[]⟩,[],[],[]⟩ [(.eb (.eq x2_ (.c 1)) (.c .false))] [])]
def cDT_L1:List Lf:=
 let x0_:SI:=(.ap 3 (.v 1) (.v 34) (.c 0) (.c 0) (.c 0) (.c 0))
 let x1_:SI:=(.ap 3 (.v 8) (.v 34) (.c 0) (.c 0) (.c 0) (.c 0))
 let x2_:SI:=(.ap 200 (.v 1) (.c 0) (.c 0) (.c 0) (.c 0) (.c 0))
 let x3_:SI:=(.ap 200 (.v 8) (.c 0) (.c 0) (.c 0) (.c 0) (.c 0))
 let x4_:SI:=(.ap 61 (.ap 61 (.ap 61 (.ap 60 (.ap 60 (.c 1) (.v 0) (.v 7) (.v 4) (.v 11) (.c 0)) (.v 5) (.v 12) (.v 6) (.v 13) (.c 0)) (.v 1) (.v 8) (.c 1) (.c 0) (.c 0)) (.v 2) (.v 9) (.c 5) (.c 0) (.c 0)) (.v 3) (.v 10) (.c 3) (.c 0) (.c 0))
 let f0_:List (SB×Bool):=[((.eq (.v 6) (.v 13)),.true),((.eq (.v 5) (.v 12)),.true),((.eq (.v 4) (.v 11)),.true),((.eq x2_ x3_),.true),((.eq (.v 0) (.v 7)),.true),((.le x2_ (.c 300)),.true),((.le (.ap 200 (.v 2) (.c 0) (.c 0) (.c 0) (.c 0) (.c 0)) (.c 300)),.true),((.le (.ap 200 (.v 3) (.c 0) (.c 0) (.c 0) (.c 0) (.c 0)) (.c 300)),.true),((.le x3_ (.c 300)),.true),((.le (.ap 200 (.v 9) (.c 0) (.c 0) (.c 0) (.c 0) (.c 0)) (.c 300)),.true),((.le (.ap 200 (.v 10) (.c 0) (.c 0) (.c 0) (.c 0) (.c 0)) (.c 300)),.true)]
 let f1_:List (SB×Bool):=((.lt (.v 34) x2_),.true)::f0_
 let f2_:List (SB×Bool):=((.lt (.v 34) x2_),.false)::f0_
 [(let i_:In:=⟨⟨[(34,(.wk .i64 (.op .add (.v 34) (.c 1))))],[]⟩,[(0,0),(1,1)],[],[]⟩;.cut (((.eq x0_ x1_),.true)::f1_) 1 i_ [(.rn (.wk .i64 (.op .add (.v 34) (.c 1))) 0 (-1))] (shT cDT_T1 i_)),
  (.fin (((.eq x0_ x1_),.false)::f1_) 0 ⟨⟨[],[]⟩,[],[],[]⟩ [(.eb (.eq x4_ (.c 1)) (.c .false))] []),
  (.fin (((.ap 60 (.v 2) (.v 9) (.c 5) (.c 0) (.c 0) (.c 0)),.true)::f2_) 0 ⟨⟨[],[]⟩,[],[],[]⟩ [(.eb (.eq x4_ (.c 1)) (.ap 60 (.v 3) (.v 10) (.c 3) (.c 0) (.c 0) (.c 0)))] []),
  (.fin (((.ap 60 (.v 2) (.v 9) (.c 5) (.c 0) (.c 0) (.c 0)),.false)::f2_) 0 ⟨⟨[],[]⟩,[],[],[]⟩ [(.eb (.eq x4_ (.c 1)) (.c .false))] [])]
def cDT_run (T:Tm):=(ex (ccOf Tryz.prog BF [29,73,75,100] cDT) ((fun cc=>[cD5.ent cc,cD3.ent cc]) (ccOf Tryz.prog BF [29,73,75,100] cDT)) (dw (ccOf Tryz.prog BF [29,73,75,100] cDT) ((fun cc=>[cD5.ent cc,cD3.ent cc]) (ccOf Tryz.prog BF [29,73,75,100] cDT)) 100 4) (stopX []) 20000 T.f T.fs T.H).lfs (ccOf Tryz.prog BF [29,73,75,100] cDT) ((tm0 cDT Tryz.f13 (Tryz.f13.body.getD .skip))::[cDT_T1]) cDT.os
theorem cDT_h0:cDT_run (tm0 cDT Tryz.f13 (Tryz.f13.body.getD .skip))=some cDT_L0:=by kernel_rfl
theorem cDT_h1:cDT_run cDT_T1=some cDT_L1:=by kernel_rfl
def cDT_inv:(Nat→Int)→(Nat→Bool)→Nat→(Nat→Int)→(Nat→Bool)→Prop:=fun iv0 _ k iv _=>match k with | 0=>True | _=>0≤iv 34∧iv 34≤flenC (iv0 1)∧flenC (iv0 1)=flenC (iv0 8)∧eqT 1 (iv0 1) (iv0 8) (iv 34)
def cDT_mu:(Nat→Int)→(Nat→Bool)→Nat→(Nat→Int)→(Nat→Bool)→Nat:=fun iv0 _ k iv _=>match k with | 0=>2 ^ 90 | _=>(70000 - iv 34).toNat
def cDT_ob (k:Nat) (l:List Lf):Prop:=∀ (kv:Kv) (iv0:Nat→Int) (bv0:Nat→Bool),InB cDT.B iv0→FT (sta FI FB kv iv0 bv0) (dlt dyn0) cDT.F→∀ (iv:Nat→Int) (bv:Nat→Bool),Agr 14 iv0 bv0 iv bv→cDT_inv iv0 bv0 k iv bv→∀ lf∈l,LfT (sta FI FB kv) cDT.os (cDT_inv iv0 bv0) (cDT_mu iv0 bv0) k iv bv lf
theorem cDT_o0:cDT_ob 0 cDT_L0:=by
 intro kv iv0 bv0 hin hF iv bv ha hi
 unfold cDT_L0
 refine List.forall_mem_cons.2 ⟨?_,List.forall_mem_cons.2 ⟨?_,List.forall_mem_cons.2 ⟨?_,List.forall_mem_cons.2 ⟨?_,List.forall_mem_cons.2 ⟨?_,List.forall_mem_cons.2 ⟨?_,List.forall_mem_nil _⟩⟩⟩⟩⟩⟩
 all_goals
  intro δ hf
 all_goals
  have a0:=ha.1 0 (by omega)
  have a1:=ha.1 1 (by omega)
  have a2:=ha.1 2 (by omega)
  have a3:=ha.1 3 (by omega)
  have a4:=ha.1 4 (by omega)
  have a5:=ha.1 5 (by omega)
  have a6:=ha.1 6 (by omega)
  have a7:=ha.1 7 (by omega)
  have a8:=ha.1 8 (by omega)
  have a9:=ha.1 9 (by omega)
  have a10:=ha.1 10 (by omega)
  have a11:=ha.1 11 (by omega)
  have a12:=ha.1 12 (by omega)
  have a13:=ha.1 13 (by omega)
 all_goals
  simp only [FT,TP,SB.tp,SI.tv,sta,IB.eval,and_true,true_and,ObsT,Ob.Tv,rowT,kix,In.tiv,↓tbvT,In.tbv,get_cons,get_nil,reduceIte,Nat.reduceEqDiff,Int.reduceToNat,Int.reduceAdd,Int.reduceSub,Int.reduceLE,Int.reduceLT,Int.reduceEq,ne_eq,Bool.false_eq_true,not_true_eq_false,not_false_eq_true,true_iff,false_iff,iff_true,iff_false,false_implies,implies_true,decT,decide_true,decide_false,Bool.decide_eq_true,ap2,pb2,FI_3,FI_3g,FI_4,FI_8,FI_8m,FI_9,FI_8c,FI_8z,FI_200,FB_0,FB_2,Int.toNat_natCast,Int.toNat_zero,FI_10,FI_12,FI_60,FI_61,FB_10,FB_12,FB_60,FB_61,cDT_inv,cDT_mu,cDT,o1,othT,o1,flF,SI.fl,flay,flayL,i64b,u64b,a0,a1,a2,a3,a4,a5,a6,a7,a8,a9,a10,a11,a12,a13] at hf hi ⊢
 all_goals
  try simp only [and2_one,andL_one,andR_one] at hf ⊢
 all_goals
  have n0:=flenC_nn (iv0 1)
 all_goals
  have n1:=flenC_nn (iv0 8)
 all_goals
  have z0:=eqT_zero 1 (iv0 1) (iv0 8)
 all_goals
  have z1:=@eqL_len 1 (iv0 1) (iv0 8)
 all_goals
  (repeat' (with_reducible apply And.intro))<;>first
  | omega
  | assumption
  | (unfold inM;omega)
  | exact trivial
  | (clear hin hF ha;grind)
theorem cDT_o1:cDT_ob 1 cDT_L1:=by
 intro kv iv0 bv0 hin hF iv bv ha hi
 unfold cDT_L1
 refine List.forall_mem_cons.2 ⟨?_,List.forall_mem_cons.2 ⟨?_,List.forall_mem_cons.2 ⟨?_,List.forall_mem_cons.2 ⟨?_,List.forall_mem_nil _⟩⟩⟩⟩
 all_goals
  intro δ hf
 all_goals
  have a0:=ha.1 0 (by omega)
  have a1:=ha.1 1 (by omega)
  have a2:=ha.1 2 (by omega)
  have a3:=ha.1 3 (by omega)
  have a4:=ha.1 4 (by omega)
  have a5:=ha.1 5 (by omega)
  have a6:=ha.1 6 (by omega)
  have a7:=ha.1 7 (by omega)
  have a8:=ha.1 8 (by omega)
  have a9:=ha.1 9 (by omega)
  have a10:=ha.1 10 (by omega)
  have a11:=ha.1 11 (by omega)
  have a12:=ha.1 12 (by omega)
  have a13:=ha.1 13 (by omega)
 all_goals
  simp only [FT,TP,SB.tp,SI.tv,sta,IB.eval,and_true,true_and,ObsT,Ob.Tv,rowT,kix,In.tiv,↓tbvT,In.tbv,get_cons,get_nil,reduceIte,Nat.reduceEqDiff,Int.reduceToNat,Int.reduceAdd,Int.reduceSub,Int.reduceLE,Int.reduceLT,Int.reduceEq,ne_eq,Bool.false_eq_true,not_true_eq_false,not_false_eq_true,true_iff,false_iff,iff_true,iff_false,false_implies,implies_true,decT,decide_true,decide_false,Bool.decide_eq_true,ap2,pb2,FI_3,FI_3g,FI_4,FI_8,FI_8m,FI_9,FI_8c,FI_8z,FI_200,FB_0,FB_2,Int.toNat_natCast,Int.toNat_zero,FI_10,FI_12,FI_60,FI_61,FB_10,FB_12,FB_60,FB_61,cDT_inv,cDT_mu,cDT,o1,othT,o1,flF,SI.fl,flay,flayL,i64b,u64b,a0,a1,a2,a3,a4,a5,a6,a7,a8,a9,a10,a11,a12,a13] at hf hi ⊢
 all_goals
  try simp only [and2_one,andL_one,andR_one] at hf ⊢
 all_goals
  obtain ⟨g0,g1,g2,g3⟩:=hi
 all_goals
  have n0:=flenC_nn (iv0 1)
 all_goals
  have n1:=flenC_nn (iv0 8)
 all_goals
  have w34:0≤iv 34→iv 34≤65536→IntKind.i64.wrap (iv 34+1)=iv 34+1:=fun _ _=>by rw [wrap_i64];omega
 all_goals
  have y1:=fun h0=>@eqT_suc 1 (iv0 1) (iv0 8) (iv 34) g3 g0 (@eq1 (iv0 1) (iv0 8) (iv 34).toNat h0)
 all_goals
  have y2:=@eqL_yes 1 (iv0 1) (iv0 8) (iv 34) g2 g3
 all_goals
  have x0:=@eqL_no 1 (iv0 1) (iv0 8) (iv 34) 0 g0
 all_goals
  (repeat' (with_reducible apply And.intro))<;>first
  | omega
  | assumption
  | (unfold inM;omega)
  | exact trivial
  | (clear hin hF ha;grind)
theorem cDT_c:LsC ((tm0 cDT Tryz.f13 (Tryz.f13.body.getD .skip))::[cDT_T1]) cDT.os [cDT_L0,cDT_L1]:=by
 unfold cDT_L0 cDT_L1
 exact ⟨List.forall_mem_cons.2 ⟨⟨⟨_,rfl,rfl⟩,by kernel_rfl⟩,List.forall_mem_cons.2 ⟨⟨⟨_,rfl,rfl⟩,by kernel_rfl⟩,List.forall_mem_cons.2 ⟨⟨⟨_,rfl,rfl⟩,by kernel_rfl⟩,List.forall_mem_cons.2 ⟨⟨⟨_,rfl,rfl⟩,by kernel_rfl⟩,List.forall_mem_cons.2 ⟨⟨⟨_,rfl,rfl⟩,by kernel_rfl⟩,List.forall_mem_cons.2 ⟨⟨⟨_,rfl,rfl⟩,by kernel_rfl⟩,List.forall_mem_nil _⟩⟩⟩⟩⟩⟩,List.forall_mem_cons.2 ⟨⟨⟨_,rfl,rfl⟩,by kernel_rfl⟩,List.forall_mem_cons.2 ⟨⟨⟨_,rfl,rfl⟩,by kernel_rfl⟩,List.forall_mem_cons.2 ⟨⟨⟨_,rfl,rfl⟩,by kernel_rfl⟩,List.forall_mem_cons.2 ⟨⟨⟨_,rfl,rfl⟩,by kernel_rfl⟩,List.forall_mem_nil _⟩⟩⟩⟩,trivial⟩
theorem cDT_ok:cDT.Ok Tryz.prog FI FB:=
 Con.of_plain (body:=Tryz.f13.body.getD .skip) pok fiok (EntsFor.cons cD5_ok (EntsFor.cons cD3_ok EntsFor.nil)) cDT Tryz.func13 (by kernel_rfl) 14 [cDT_T1] (by kernel_rfl) [cDT_L0,cDT_L1] ⟨cDT_h0,cDT_h1,trivial⟩ cDT_c
  cDT_inv cDT_mu (fun _ _ _=>trivial) fun kv iv0 bv0 hin hF k l iv bv hk ha hi=>match k,hk,hi with
  | 0,hk,hi=>by
    cases hk
    exact cDT_o0 kv iv0 bv0 hin hF iv bv ha hi
  | 1,hk,hi=>by
    cases hk
    exact cDT_o1 kv iv0 bv0 hin hF iv bv ha hi
  | k+2,hk,_=>by simp at hk
end
end Go.Sx.Tk
