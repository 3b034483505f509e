/- Tokens: modes, by contract. -/
import Derived.Test.YtfailpbjhlhhiaaGreatTkD
namespace Go.Sx.Tk
set_option linter.unusedVariables false
set_option linter.unusedSimpArgs false
set_option maxRecDepth 100000
set_option maxHeartbeats 0
noncomputable section
open Go Go.Sx Go.Proofs
def two:List SV:=[.it .i64 (.v 0),.it .i64 (.v 1)]
def b2:List (Nat×Int×Int):=[(0,-9223372036854775808,9223372036854775807),(1,-9223372036854775808,9223372036854775807)]
def eFits:Con:=⟨217,[0,1],two,[],b2,[],o1 (.tp [.bo (pb2 10),.it .i64 (ap2 10)]),[]⟩
def rFits:Con:=⟨200,[0,1],two,[],b2,[],o1 (.bo (pb2 12)),[]⟩
def lM:SV:=.sl (.k 0) (.v 2) (.v 1) (.v 3)
def gM:List Gv:=[⟨0,.v 2,[.nt .i64],0,.v 1⟩]
def bM:List (Nat×Int×Int):=[(1,0,9223372036854775807),(2,0,-1)]
def fM:List (SB×Bool):=[(.le (.v 1) (.v 3),true),(.le (.c 0) (.v 3),true)]
def eTog:Con:=⟨228,[0,1,2,3],[lM],gM,bM,fM,o1 (.tp [.bo (pb2 14),.it .i64 (ap2 12)]),[]⟩
def rTog:Con:=⟨136,[0,1,2,3],[lM],gM,bM,fM,o1 (.bo (pb2 16)),[]⟩
def eTog0:Con:=⟨228,[],[.sn],[],[],[],o1 (.tp [.bo (.c true),.it .i64 (.c 0)]),[]⟩
def rTog0:Con:=⟨136,[],[.sn],[],[],[],o1 (.bo (.c true)),[]⟩
def eFits_L0:List Lf:=
 let x0_:SI:=(.op (.shl .u64) (.c 1) (.v 1))
 let f0_:List (SB×Bool):=[((.lt (.v 0) (.c 6)),.true),((.le (.c 0) (.v 0)),.true)]
 let f1_:List (SB×Bool):=((.le (.c 0) (.v 1)),.true)::f0_
 let f2_:List (SB×Bool):=((.lt (.v 1) (.c 6)),.true)::f1_
 let f3_:List (SB×Bool):=((.eq (.v 0) (.c 0)),.false)::f2_
 let f4_:List (SB×Bool):=((.eq (.v 0) (.c 1)),.false)::f3_
 let f5_:List (SB×Bool):=((.eq (.v 0) (.c 2)),.false)::f4_
 let f6_:List (SB×Bool):=((.eq (.v 0) (.c 3)),.false)::f5_
 [(.fin (((.eq (.v 0) (.c 0)),.true)::f2_) 0 ⟨⟨[],[]⟩,[],[],[]⟩ [(.eb (.ap 10 (.v 0) (.v 1) (.c 0) (.c 0) (.c 0) (.c 0)) (.not (.eq (.op (.band .u64) (.c 63) x0_) (.c 0)))),(.ei (.ap 10 (.v 0) (.v 1) (.c 0) (.c 0) (.c 0) (.c 0)) (.c 0))] []),
  (.fin (((.eq (.v 0) (.c 1)),.true)::f3_) 0 ⟨⟨[],[]⟩,[],[],[]⟩ [(.eb (.ap 10 (.v 0) (.v 1) (.c 0) (.c 0) (.c 0) (.c 0)) (.not (.eq (.op (.band .u64) (.c 31) x0_) (.c 0)))),(.ei (.ap 10 (.v 0) (.v 1) (.c 0) (.c 0) (.c 0) (.c 0)) (.c 0))] []),
  (.fin (((.eq (.v 0) (.c 2)),.true)::f4_) 0 ⟨⟨[],[]⟩,[],[],[]⟩ [(.eb (.ap 10 (.v 0) (.v 1) (.c 0) (.c 0) (.c 0) (.c 0)) (.not (.eq (.op (.band .u64) (.c 7) x0_) (.c 0)))),(.ei (.ap 10 (.v 0) (.v 1) (.c 0) (.c 0) (.c 0) (.c 0)) (.c 0))] []),
  (.fin (((.eq (.v 0) (.c 3)),.true)::f5_) 0 ⟨⟨[],[]⟩,[],[],[]⟩ [(.eb (.ap 10 (.v 0) (.v 1) (.c 0) (.c 0) (.c 0) (.c 0)) (.not (.eq (.op (.band .u64) (.c 11) x0_) (.c 0)))),(.ei (.ap 10 (.v 0) (.v 1) (.c 0) (.c 0) (.c 0) (.c 0)) (.c 0))] []),
  (.fin (((.eq (.v 0) (.c 4)),.true)::f6_) 0 ⟨⟨[],[]⟩,[],[],[]⟩ [(.eb (.ap 10 (.v 0) (.v 1) (.c 0) (.c 0) (.c 0) (.c 0)) (.not (.eq (.op (.band .u64) (.c 3) x0_) (.c 0)))),(.ei (.ap 10 (.v 0) (.v 1) (.c 0) (.c 0) (.c 0) (.c 0)) (.c 0))] []),
  (.fin (((.eq (.v 0) (.c 4)),.false)::f6_) 0 ⟨⟨[],[]⟩,[],[],[]⟩ [(.eb (.ap 10 (.v 0) (.v 1) (.c 0) (.c 0) (.c 0) (.c 0)) (.not (.eq (.op (.band .u64) (.c 1) x0_) (.c 0)))),(.ei (.ap 10 (.v 0) (.v 1) (.c 0) (.c 0) (.c 0) (.c 0)) (.c 0))] []),
  (.fin (((.lt (.v 1) (.c 6)),.false)::f1_) 0 ⟨⟨[],[]⟩,[],[],[]⟩ [(.eb (.ap 10 (.v 0) (.v 1) (.c 0) (.c 0) (.c 0) (.c 0)) (.c .false)),(.ei (.ap 10 (.v 0) (.v 1) (.c 0) (.c 0) (.c 0) (.c 0)) (.c 130))] []),
  (.fin (((.le (.c 0) (.v 1)),.false)::f0_) 0 ⟨⟨[],[]⟩,[],[],[]⟩ [(.eb (.ap 10 (.v 0) (.v 1) (.c 0) (.c 0) (.c 0) (.c 0)) (.c .false)),(.ei (.ap 10 (.v 0) (.v 1) (.c 0) (.c 0) (.c 0) (.c 0)) (.c 130))] []),
  (.fin ([((.lt (.v 0) (.c 6)),.false),((.le (.c 0) (.v 0)),.true)]) 0 ⟨⟨[],[]⟩,[],[],[]⟩ [(.eb (.ap 10 (.v 0) (.v 1) (.c 0) (.c 0) (.c 0) (.c 0)) (.c .false)),(.ei (.ap 10 (.v 0) (.v 1) (.c 0) (.c 0) (.c 0) (.c 0)) (.c 130))] []),
  (.fin ([((.le (.c 0) (.v 0)),.false)]) 0 ⟨⟨[],[]⟩,[],[],[]⟩ [(.eb (.ap 10 (.v 0) (.v 1) (.c 0) (.c 0) (.c 0) (.c 0)) (.c .false)),(.ei (.ap 10 (.v 0) (.v 1) (.c 0) (.c 0) (.c 0) (.c 0)) (.c 130))] [])]
def eFits_run (T:Tm):=(ex (ccOf Tryz.prog BF [29,73,75,100] eFits) ((fun _=>[]) (ccOf Tryz.prog BF [29,73,75,100] eFits)) (dw (ccOf Tryz.prog BF [29,73,75,100] eFits) ((fun _=>[]) (ccOf Tryz.prog BF [29,73,75,100] eFits)) 1000 4) (stopX []) 4000 T.f T.fs T.H).lfs (ccOf Tryz.prog BF [29,73,75,100] eFits) ((tm0 eFits Tryz.f217 (Tryz.f217.body.getD .skip))::[]) eFits.os
theorem eFits_h0:eFits_run (tm0 eFits Tryz.f217 (Tryz.f217.body.getD .skip))=some eFits_L0:=by kernel_rfl
def eFits_inv:(Nat→Int)→(Nat→Bool)→Nat→(Nat→Int)→(Nat→Bool)→Prop:=fun _ _ _ _ _=>True
def eFits_mu:(Nat→Int)→(Nat→Bool)→Nat→(Nat→Int)→(Nat→Bool)→Nat:=fun _ _ _ _ _=>0
def eFits_ob (k:Nat) (l:List Lf):Prop:=∀ (kv:Kv) (iv0:Nat→Int) (bv0:Nat→Bool),InB eFits.B iv0→FT (sta FI FB kv iv0 bv0) (dlt dyn0) eFits.F→∀ (iv:Nat→Int) (bv:Nat→Bool),Agr 2 iv0 bv0 iv bv→eFits_inv iv0 bv0 k iv bv→∀ lf∈l,LfT (sta FI FB kv) eFits.os (eFits_inv iv0 bv0) (eFits_mu iv0 bv0) k iv bv lf
theorem eFits_o0:eFits_ob 0 eFits_L0:=by
 intro kv iv0 bv0 hin hF iv bv ha hi
 unfold eFits_L0
 refine List.forall_mem_cons.2 ⟨?_,List.forall_mem_cons.2 ⟨?_,List.forall_mem_cons.2 ⟨?_,List.forall_mem_cons.2 ⟨?_,List.forall_mem_cons.2 ⟨?_,List.forall_mem_cons.2 ⟨?_,List.forall_mem_cons.2 ⟨?_,List.forall_mem_cons.2 ⟨?_,List.forall_mem_cons.2 ⟨?_,List.forall_mem_cons.2 ⟨?_,List.forall_mem_nil _⟩⟩⟩⟩⟩⟩⟩⟩⟩⟩
 all_goals
  intro δ hf
 all_goals
  have a0:=ha.1 0 (by omega)
  have a1:=ha.1 1 (by omega)
 all_goals
  simp only [FT,TP,SB.tp,SI.tv,sta,IB.eval,and_true,true_and,ObsT,Ob.Tv,rowT,kix,In.tiv,↓tbvT,In.tbv,get_cons,get_nil,reduceIte,Nat.reduceEqDiff,Int.reduceToNat,Int.reduceAdd,Int.reduceSub,Int.reduceLE,Int.reduceLT,Int.reduceEq,ne_eq,Bool.false_eq_true,not_true_eq_false,not_false_eq_true,true_iff,false_iff,iff_true,iff_false,false_implies,implies_true,decT,decide_true,decide_false,Bool.decide_eq_true,ap2,pb2,FI_3,FI_3g,FI_4,FI_8,FI_8m,FI_9,FI_8c,FI_8z,FB_0,FB_2,Int.toNat_natCast,Int.toNat_zero,FI_10,FB_10,eFits_inv,eFits_mu,eFits,o1,othT,o1,two,b2,bM,fM,gM,lM,a0,a1] at hf hi ⊢
 all_goals
  first
  | omega
  | (have ha:inM (iv0 0):=by unfold inM;omega
     have hb:inM (iv0 1):=by unfold inM;omega
     rcases six ha with h | h | h | h | h | h<;>rcases six hb with h' | h' | h' | h' | h' | h'<;>first | omega | (simp only [h,h'];decide))
  | (simp only [inM,fitP,covP];constructor<;>first | omega | (split<;>omega))
  | (simp only [inM,fitP,covP];omega)
theorem eFits_c:LsC ((tm0 eFits Tryz.f217 (Tryz.f217.body.getD .skip))::[]) eFits.os [eFits_L0]:=by
 unfold eFits_L0
 exact ⟨List.forall_mem_cons.2 ⟨⟨⟨_,rfl,rfl⟩,by kernel_rfl⟩,List.forall_mem_cons.2 ⟨⟨⟨_,rfl,rfl⟩,by kernel_rfl⟩,List.forall_mem_cons.2 ⟨⟨⟨_,rfl,rfl⟩,by kernel_rfl⟩,List.forall_mem_cons.2 ⟨⟨⟨_,rfl,rfl⟩,by kernel_rfl⟩,List.forall_mem_cons.2 ⟨⟨⟨_,rfl,rfl⟩,by kernel_rfl⟩,List.forall_mem_cons.2 ⟨⟨⟨_,rfl,rfl⟩,by kernel_rfl⟩,List.forall_mem_cons.2 ⟨⟨⟨_,rfl,rfl⟩,by kernel_rfl⟩,List.forall_mem_cons.2 ⟨⟨⟨_,rfl,rfl⟩,by kernel_rfl⟩,List.forall_mem_cons.2 ⟨⟨⟨_,rfl,rfl⟩,by kernel_rfl⟩,List.forall_mem_cons.2 ⟨⟨⟨_,rfl,rfl⟩,by kernel_rfl⟩,List.forall_mem_nil _⟩⟩⟩⟩⟩⟩⟩⟩⟩⟩,trivial⟩
theorem eFits_ok:eFits.Ok Tryz.prog FI FB:=
 Con.of_plain (body:=Tryz.f217.body.getD .skip) pok fiok EntsFor.nil eFits Tryz.func217 (by kernel_rfl) 2 [] (by kernel_rfl) [eFits_L0] ⟨eFits_h0,trivial⟩ eFits_c
  eFits_inv eFits_mu (fun _ _ _=>trivial) fun kv iv0 bv0 hin hF k l iv bv hk ha hi=>match k,hk,hi with
  | 0,hk,hi=>by
    cases hk
    exact eFits_o0 kv iv0 bv0 hin hF iv bv ha hi
  | k+1,hk,_=>by simp at hk
def rFits_L0:List Lf:=
 let f0_:List (SB×Bool):=[((.eq (.v 1) (.c 0)),.false),((.eq (.v 0) (.c 0)),.false)]
 let f1_:List (SB×Bool):=((.eq (.v 0) (.c 5)),.false)::f0_
 let f2_:List (SB×Bool):=((.eq (.v 1) (.c 5)),.false)::f1_
 let f3_:List (SB×Bool):=((.eq (.v 0) (.c 1)),.false)::f2_
 let f4_:List (SB×Bool):=((.eq (.v 1) (.c 1)),.false)::f3_
 [(.fin ([((.eq (.v 0) (.c 0)),.true)]) 0 ⟨⟨[],[]⟩,[],[],[]⟩ [(.eb (.ap 12 (.v 0) (.v 1) (.c 0) (.c 0) (.c 0) (.c 0)) (.c .true))] []),
  (.fin ([((.eq (.v 1) (.c 0)),.true),((.eq (.v 0) (.c 0)),.false)]) 0 ⟨⟨[],[]⟩,[],[],[]⟩ [(.eb (.ap 12 (.v 0) (.v 1) (.c 0) (.c 0) (.c 0) (.c 0)) (.c .true))] []),
  (.fin (((.eq (.v 0) (.c 5)),.true)::f0_) 0 ⟨⟨[],[]⟩,[],[],[]⟩ [(.eb (.ap 12 (.v 0) (.v 1) (.c 0) (.c 0) (.c 0) (.c 0)) (.c .false))] []),
  (.fin (((.eq (.v 1) (.c 5)),.true)::f1_) 0 ⟨⟨[],[]⟩,[],[],[]⟩ [(.eb (.ap 12 (.v 0) (.v 1) (.c 0) (.c 0) (.c 0) (.c 0)) (.c .false))] []),
  (.fin (((.eq (.v 0) (.c 1)),.true)::f2_) 0 ⟨⟨[],[]⟩,[],[],[]⟩ [(.eb (.ap 12 (.v 0) (.v 1) (.c 0) (.c 0) (.c 0) (.c 0)) (.c .true))] []),
  (.fin (((.eq (.v 1) (.c 1)),.true)::f3_) 0 ⟨⟨[],[]⟩,[],[],[]⟩ [(.eb (.ap 12 (.v 0) (.v 1) (.c 0) (.c 0) (.c 0) (.c 0)) (.c .true))] []),
  (.fin (((.eq (.v 0) (.v 1)),.true)::f4_) 0 ⟨⟨[],[]⟩,[],[],[]⟩ [(.eb (.ap 12 (.v 0) (.v 1) (.c 0) (.c 0) (.c 0) (.c 0)) (.not (.eq (.v 0) (.c 4))))] []),
  (.fin (((.eq (.v 0) (.v 1)),.false)::f4_) 0 ⟨⟨[],[]⟩,[],[],[]⟩ [(.eb (.ap 12 (.v 0) (.v 1) (.c 0) (.c 0) (.c 0) (.c 0)) (.c .false))] [])]
def rFits_run (T:Tm):=(ex (ccOf Tryz.prog BF [29,73,75,100] rFits) ((fun _=>[]) (ccOf Tryz.prog BF [29,73,75,100] rFits)) (dw (ccOf Tryz.prog BF [29,73,75,100] rFits) ((fun _=>[]) (ccOf Tryz.prog BF [29,73,75,100] rFits)) 1000 4) (stopX []) 4000 T.f T.fs T.H).lfs (ccOf Tryz.prog BF [29,73,75,100] rFits) ((tm0 rFits Tryz.f200 (Tryz.f200.body.getD .skip))::[]) rFits.os
theorem rFits_h0:rFits_run (tm0 rFits Tryz.f200 (Tryz.f200.body.getD .skip))=some rFits_L0:=by kernel_rfl
def rFits_inv:(Nat→Int)→(Nat→Bool)→Nat→(Nat→Int)→(Nat→Bool)→Prop:=fun _ _ _ _ _=>True
def rFits_mu:(Nat→Int)→(Nat→Bool)→Nat→(Nat→Int)→(Nat→Bool)→Nat:=fun _ _ _ _ _=>0
def rFits_ob (k:Nat) (l:List Lf):Prop:=∀ (kv:Kv) (iv0:Nat→Int) (bv0:Nat→Bool),InB rFits.B iv0→FT (sta FI FB kv iv0 bv0) (dlt dyn0) rFits.F→∀ (iv:Nat→Int) (bv:Nat→Bool),Agr 2 iv0 bv0 iv bv→rFits_inv iv0 bv0 k iv bv→∀ lf∈l,LfT (sta FI FB kv) rFits.os (rFits_inv iv0 bv0) (rFits_mu iv0 bv0) k iv bv lf
theorem rFits_o0:rFits_ob 0 rFits_L0:=by
 intro kv iv0 bv0 hin hF iv bv ha hi
 unfold rFits_L0
 refine List.forall_mem_cons.2 ⟨?_,List.forall_mem_cons.2 ⟨?_,List.forall_mem_cons.2 ⟨?_,List.forall_mem_cons.2 ⟨?_,List.forall_mem_cons.2 ⟨?_,List.forall_mem_cons.2 ⟨?_,List.forall_mem_cons.2 ⟨?_,List.forall_mem_cons.2 ⟨?_,List.forall_mem_nil _⟩⟩⟩⟩⟩⟩⟩⟩
 all_goals
  intro δ hf
 all_goals
  have a0:=ha.1 0 (by omega)
  have a1:=ha.1 1 (by omega)
 all_goals
  simp only [FT,TP,SB.tp,SI.tv,sta,IB.eval,and_true,true_and,ObsT,Ob.Tv,rowT,kix,In.tiv,↓tbvT,In.tbv,get_cons,get_nil,reduceIte,Nat.reduceEqDiff,Int.reduceToNat,Int.reduceAdd,Int.reduceSub,Int.reduceLE,Int.reduceLT,Int.reduceEq,ne_eq,Bool.false_eq_true,not_true_eq_false,not_false_eq_true,true_iff,false_iff,iff_true,iff_false,false_implies,implies_true,decT,decide_true,decide_false,Bool.decide_eq_true,ap2,pb2,FI_3,FI_3g,FI_4,FI_8,FI_8m,FI_9,FI_8c,FI_8z,FI_200,FB_0,FB_2,Int.toNat_natCast,Int.toNat_zero,FI_12,FB_12,rFits_inv,rFits_mu,rFits,o1,othT,o1,two,b2,bM,fM,gM,lM,a0,a1] at hf hi ⊢
 all_goals
  first
  | omega
  | (have ha:inM (iv0 0):=by unfold inM;omega
     have hb:inM (iv0 1):=by unfold inM;omega
     rcases six ha with h | h | h | h | h | h<;>rcases six hb with h' | h' | h' | h' | h' | h'<;>first | omega | (simp only [h,h'];decide))
  | (simp only [inM,fitP,covP];constructor<;>first | omega | (split<;>omega))
  | (simp only [inM,fitP,covP];omega)
theorem rFits_c:LsC ((tm0 rFits Tryz.f200 (Tryz.f200.body.getD .skip))::[]) rFits.os [rFits_L0]:=by
 unfold rFits_L0
 exact ⟨List.forall_mem_cons.2 ⟨⟨⟨_,rfl,rfl⟩,by kernel_rfl⟩,List.forall_mem_cons.2 ⟨⟨⟨_,rfl,rfl⟩,by kernel_rfl⟩,List.forall_mem_cons.2 ⟨⟨⟨_,rfl,rfl⟩,by kernel_rfl⟩,List.forall_mem_cons.2 ⟨⟨⟨_,rfl,rfl⟩,by kernel_rfl⟩,List.forall_mem_cons.2 ⟨⟨⟨_,rfl,rfl⟩,by kernel_rfl⟩,List.forall_mem_cons.2 ⟨⟨⟨_,rfl,rfl⟩,by kernel_rfl⟩,List.forall_mem_cons.2 ⟨⟨⟨_,rfl,rfl⟩,by kernel_rfl⟩,List.forall_mem_cons.2 ⟨⟨⟨_,rfl,rfl⟩,by kernel_rfl⟩,List.forall_mem_nil _⟩⟩⟩⟩⟩⟩⟩⟩,trivial⟩
theorem rFits_ok:rFits.Ok Tryz.prog FI FB:=
 Con.of_plain (body:=Tryz.f200.body.getD .skip) pok fiok EntsFor.nil rFits Tryz.func200 (by kernel_rfl) 2 [] (by kernel_rfl) [rFits_L0] ⟨rFits_h0,trivial⟩ rFits_c
  rFits_inv rFits_mu (fun _ _ _=>trivial) fun kv iv0 bv0 hin hF k l iv bv hk ha hi=>match k,hk,hi with
  | 0,hk,hi=>by
    cases hk
    exact rFits_o0 kv iv0 bv0 hin hF iv bv ha hi
  | k+1,hk,_=>by simp at hk
def rTog_T1:Tm:=⟨⟨136,26,[(3,(.it .i64 (.v 24))),(0,(.sl (.k 0) (.v 2) (.v 1) (.v 3)))],[(.code (atC Tryz.f136 [1,0,1,0,0])),(.inLoop (atC Tryz.f136 [1,0,1,0,0])),(.inBlock 0),(.code (atC Tryz.f136 [1,1]))],[],.none⟩,[],
    ⟨[],0,0,0,[((.le (.v 1) (.v 3)),.true),((.le (.c 0) (.v 3)),.true)],[1,0],[(1,(0,9223372036854775807)),(2,(0,(-1))),(24,(0,(-1)))]⟩,[24]⟩
def rTog_T2:Tm:=⟨⟨136,26,[(4,(.it .i64 (.v 25))),(3,(.it .i64 (.v 24))),(0,(.sl (.k 0) (.v 2) (.v 1) (.v 3)))],[(.code (atC Tryz.f136 [1,0,1,0,0,1,0,0,1,0,0])),(.inLoop (atC Tryz.f136 [1,0,1,0,0,1,0,0,1,0,0])),(.inBlock 2),(.inBlock 1),(.code (atC Tryz.f136 [1,0,1,0,0,1,1])),(.inLoop (atC Tryz.f136 [1,0,1,0,0])),(.inBlock 0),(.code (atC Tryz.f136 [1,1]))],[],.none⟩,[],
    ⟨[],0,0,0,[((.lt (.v 24) (.v 1)),.true),((.le (.v 1) (.v 3)),.true),((.le (.c 0) (.v 3)),.true)],[1,0],[(1,(1,9223372036854775807)),(24,(0,9223372036854775806)),(2,(0,(-1))),(25,(0,(-1)))]⟩,[25]⟩
def rTog_L0:List Lf:=
 [(.cut ([((.le (.v 1) (.v 3)),.true),((.le (.c 0) (.v 3)),.true)]) 1 ⟨⟨[(24,(.c 0))],[]⟩,[],[],[]⟩ [] (shT rTog_T1 ⟨⟨[(24,(.c 0))],[]⟩,[],[],[]⟩))]
def rTog_L1:List Lf:=
 let f0_:List (SB×Bool):=[((.le (.v 1) (.v 3)),.true),((.le (.c 0) (.v 3)),.true)]
 [(.cut (((.lt (.v 24) (.v 1)),.true)::f0_) 2 ⟨⟨[(25,(.c 0))],[]⟩,[],[],[]⟩ [] (shT rTog_T2 ⟨⟨[(25,(.c 0))],[]⟩,[],[],[]⟩)),
  (.fin (((.lt (.v 24) (.v 1)),.false)::f0_) 0 ⟨⟨[],[]⟩,[],[],[]⟩ [(.eb (.ap 16 (.v 0) (.v 1) (.c 0) (.c 0) (.c 0) (.c 0)) (.c .true))] [])]
def rTog_L2:List Lf:=
 let x0_:SI:=(.ap 3 (.v 0) (.v 24) (.c 0) (.c 0) (.c 0) (.c 0))
 let x1_:SI:=(.ap 3 (.v 0) (.v 25) (.c 0) (.c 0) (.c 0) (.c 0))
 let f0_:List (SB×Bool):=[((.lt (.v 24) (.v 1)),.true),((.le (.v 1) (.v 3)),.true),((.le (.c 0) (.v 3)),.true)]
 let f1_:List (SB×Bool):=((.lt (.v 25) (.v 24)),.true)::f0_
 [(.cut (((.ap 12 x0_ x1_ (.c 0) (.c 0) (.c 0) (.c 0)),.true)::f1_) 2 ⟨⟨[(25,(.op .add (.v 25) (.c 1)))],[]⟩,[],[],[]⟩ [] (shT rTog_T2 ⟨⟨[(25,(.op .add (.v 25) (.c 1)))],[]⟩,[],[],[]⟩)),
  (.fin (((.ap 12 x0_ x1_ (.c 0) (.c 0) (.c 0) (.c 0)),.false)::f1_) 0 ⟨⟨[],[]⟩,[],[],[]⟩ [(.eb (.ap 16 (.v 0) (.v 1) (.c 0) (.c 0) (.c 0) (.c 0)) (.c .false))] []),
  (.cut (((.lt (.v 25) (.v 24)),.false)::f0_) 1 ⟨⟨[(24,(.op .add (.v 24) (.c 1)))],[]⟩,[],[],[]⟩ [] (shT rTog_T1 ⟨⟨[(24,(.op .add (.v 24) (.c 1)))],[]⟩,[],[],[]⟩))]
def rTog_run (T:Tm):=(ex (ccOf Tryz.prog BF [29,73,75,100] rTog) ((fun cc=>[rFits.ent cc]) (ccOf Tryz.prog BF [29,73,75,100] rTog)) (dw (ccOf Tryz.prog BF [29,73,75,100] rTog) ((fun cc=>[rFits.ent cc]) (ccOf Tryz.prog BF [29,73,75,100] rTog)) 1000 4) (stopX []) 4000 T.f T.fs T.H).lfs (ccOf Tryz.prog BF [29,73,75,100] rTog) ((tm0 rTog Tryz.f136 (Tryz.f136.body.getD .skip))::[rTog_T1,rTog_T2]) rTog.os
theorem rTog_h0:rTog_run (tm0 rTog Tryz.f136 (Tryz.f136.body.getD .skip))=some rTog_L0:=by kernel_rfl
theorem rTog_h1:rTog_run rTog_T1=some rTog_L1:=by kernel_rfl
theorem rTog_h2:rTog_run rTog_T2=some rTog_L2:=by kernel_rfl
def rTog_inv:(Nat→Int)→(Nat→Bool)→Nat→(Nat→Int)→(Nat→Bool)→Prop:=fun iv0 _ k iv _=>match k with
 | 0=>True
 | 1=>0≤iv 24∧togA (iv0 0) (iv 24)
 | _=>0≤iv 24∧togA (iv0 0) (iv 24)∧0≤iv 25∧fitA (fl (iv0 0) (iv 24).toNat 0) (iv0 0) (iv 25)
def rTog_mu:(Nat→Int)→(Nat→Bool)→Nat→(Nat→Int)→(Nat→Bool)→Nat:=fun iv0 _ k iv _=>match k with
 | 0=>2 ^ 200 | 1=>(iv0 1 - iv 24).toNat * 2 ^ 70+2 ^ 69
 | _=>(iv0 1 - iv 24).toNat * 2 ^ 70+(iv 24 - iv 25).toNat
theorem rTog_b {iv0:Nat→Int} (hin:InB rTog.B iv0):(0≤iv0 1∧iv0 1≤9223372036854775807):=by
 have b1:=hin 1 0 9223372036854775807 (by simp [rTog,o1,two,b2,bM,fM,gM,lM])
 simp only [Int.reduceLE,reduceIte,Int.reduceNeg] at b1
 exact b1
def rTog_ob (k:Nat) (l:List Lf):Prop:=∀ (kv:Kv) (iv0:Nat→Int) (bv0:Nat→Bool),InB rTog.B iv0→FT (sta FI FB kv iv0 bv0) (dlt dyn0) rTog.F→∀ (iv:Nat→Int) (bv:Nat→Bool),Agr 4 iv0 bv0 iv bv→rTog_inv iv0 bv0 k iv bv→∀ lf∈l,LfT (sta FI FB kv) rTog.os (rTog_inv iv0 bv0) (rTog_mu iv0 bv0) k iv bv lf
theorem rTog_o0:rTog_ob 0 rTog_L0:=by
 intro kv iv0 bv0 hin hF iv bv ha hi
 unfold rTog_L0
 refine List.forall_mem_cons.2 ⟨?_,List.forall_mem_nil _⟩
 all_goals
  intro δ hf
 all_goals
  have b1:=rTog_b hin
 all_goals
  have a0:=ha.1 0 (by omega)
  have a1:=ha.1 1 (by omega)
  have a2:=ha.1 2 (by omega)
  have a3:=ha.1 3 (by omega)
 all_goals
  simp only [FT,TP,SB.tp,SI.tv,sta,IB.eval,and_true,true_and,ObsT,Ob.Tv,rowT,kix,In.tiv,↓tbvT,In.tbv,get_cons,get_nil,reduceIte,Nat.reduceEqDiff,Int.reduceToNat,Int.reduceAdd,Int.reduceSub,Int.reduceLE,Int.reduceLT,Int.reduceEq,ne_eq,Bool.false_eq_true,not_true_eq_false,not_false_eq_true,true_iff,false_iff,iff_true,iff_false,false_implies,implies_true,decT,decide_true,decide_false,Bool.decide_eq_true,ap2,pb2,FI_3,FI_3g,FI_4,FI_8,FI_8m,FI_9,FI_8c,FI_8z,FB_0,FB_2,Int.toNat_natCast,Int.toNat_zero,FI_12,FB_12,FB_16,rTog_inv,rTog_mu,rTog,o1,othT,o1,two,b2,bM,fM,gM,lM,a0,a1,a2,a3] at hf hi ⊢
 all_goals
  (repeat' (with_reducible apply And.intro))<;>first
  | omega
  | assumption
  | (unfold inM;omega)
  | exact fun j hj=>by omega
theorem rTog_o1:rTog_ob 1 rTog_L1:=by
 intro kv iv0 bv0 hin hF iv bv ha hi
 unfold rTog_L1
 refine List.forall_mem_cons.2 ⟨?_,List.forall_mem_cons.2 ⟨?_,List.forall_mem_nil _⟩⟩
 all_goals
  intro δ hf
 all_goals
  have b1:=rTog_b hin
 all_goals
  have a0:=ha.1 0 (by omega)
  have a1:=ha.1 1 (by omega)
  have a2:=ha.1 2 (by omega)
  have a3:=ha.1 3 (by omega)
 all_goals
  simp only [FT,TP,SB.tp,SI.tv,sta,IB.eval,and_true,true_and,ObsT,Ob.Tv,rowT,kix,In.tiv,↓tbvT,In.tbv,get_cons,get_nil,reduceIte,Nat.reduceEqDiff,Int.reduceToNat,Int.reduceAdd,Int.reduceSub,Int.reduceLE,Int.reduceLT,Int.reduceEq,ne_eq,Bool.false_eq_true,not_true_eq_false,not_false_eq_true,true_iff,false_iff,iff_true,iff_false,false_implies,implies_true,decT,decide_true,decide_false,Bool.decide_eq_true,ap2,pb2,FI_3,FI_3g,FI_4,FI_8,FI_8m,FI_9,FI_8c,FI_8z,FB_0,FB_2,Int.toNat_natCast,Int.toNat_zero,FI_12,FB_12,FB_16,rTog_inv,rTog_mu,rTog,o1,othT,o1,two,b2,bM,fM,gM,lM,a0,a1,a2,a3] at hf hi ⊢
 all_goals
  (repeat' (with_reducible apply And.intro))<;>first
  | omega
  | assumption
  | (unfold inM;omega)
  | exact fun j hj=>by omega
  | exact hi.2
  | exact fun j hj=>hi.2 j (by omega)
theorem rTog_o2:rTog_ob 2 rTog_L2:=by
 intro kv iv0 bv0 hin hF iv bv ha hi
 unfold rTog_L2
 refine List.forall_mem_cons.2 ⟨?_,List.forall_mem_cons.2 ⟨?_,List.forall_mem_cons.2 ⟨?_,List.forall_mem_nil _⟩⟩⟩
 all_goals
  intro δ hf
 all_goals
  have b1:=rTog_b hin
 all_goals
  have a0:=ha.1 0 (by omega)
  have a1:=ha.1 1 (by omega)
  have a2:=ha.1 2 (by omega)
  have a3:=ha.1 3 (by omega)
 all_goals
  simp only [FT,TP,SB.tp,SI.tv,sta,IB.eval,and_true,true_and,ObsT,Ob.Tv,rowT,kix,In.tiv,↓tbvT,In.tbv,get_cons,get_nil,reduceIte,Nat.reduceEqDiff,Int.reduceToNat,Int.reduceAdd,Int.reduceSub,Int.reduceLE,Int.reduceLT,Int.reduceEq,ne_eq,Bool.false_eq_true,not_true_eq_false,not_false_eq_true,true_iff,false_iff,iff_true,iff_false,false_implies,implies_true,decT,decide_true,decide_false,Bool.decide_eq_true,ap2,pb2,FI_3,FI_3g,FI_4,FI_8,FI_8m,FI_9,FI_8c,FI_8z,FB_0,FB_2,Int.toNat_natCast,Int.toNat_zero,FI_12,FB_12,FB_16,rTog_inv,rTog_mu,rTog,o1,othT,o1,two,b2,bM,fM,gM,lM,a0,a1,a2,a3] at hf hi ⊢
 all_goals
  (repeat' (with_reducible apply And.intro))<;>first
  | omega
  | assumption
  | (unfold inM;omega)
  | exact hi.2.1
  | exact all_succ hi.2.2.1 hi.2.2.2 hf.1
  | exact fun h=>hf.1 (h (iv 24).toNat (by omega) (iv 25).toNat (by omega))
  | exact all_succ hi.1 hi.2.1 (fun j hj=>hi.2.2.2 j (by omega))
theorem rTog_c:LsC ((tm0 rTog Tryz.f136 (Tryz.f136.body.getD .skip))::[rTog_T1,rTog_T2]) rTog.os [rTog_L0,rTog_L1,rTog_L2]:=by
 unfold rTog_L0 rTog_L1 rTog_L2
 exact ⟨List.forall_mem_cons.2 ⟨⟨⟨_,rfl,rfl⟩,by kernel_rfl⟩,List.forall_mem_nil _⟩,List.forall_mem_cons.2 ⟨⟨⟨_,rfl,rfl⟩,by kernel_rfl⟩,List.forall_mem_cons.2 ⟨⟨⟨_,rfl,rfl⟩,by kernel_rfl⟩,List.forall_mem_nil _⟩⟩,List.forall_mem_cons.2 ⟨⟨⟨_,rfl,rfl⟩,by kernel_rfl⟩,List.forall_mem_cons.2 ⟨⟨⟨_,rfl,rfl⟩,by kernel_rfl⟩,List.forall_mem_cons.2 ⟨⟨⟨_,rfl,rfl⟩,by kernel_rfl⟩,List.forall_mem_nil _⟩⟩⟩,trivial⟩
theorem rTog_ok:rTog.Ok Tryz.prog FI FB:=
 Con.of_plain (body:=Tryz.f136.body.getD .skip) pok fiok (EntsFor.cons rFits_ok EntsFor.nil) rTog Tryz.func136 (by kernel_rfl) 4 [rTog_T1,rTog_T2] (by kernel_rfl) [rTog_L0,rTog_L1,rTog_L2] ⟨rTog_h0,rTog_h1,rTog_h2,trivial⟩ rTog_c
  rTog_inv rTog_mu (fun _ _ _=>trivial) fun kv iv0 bv0 hin hF k l iv bv hk ha hi=>match k,hk,hi with
  | 0,hk,hi=>by
    cases hk
    exact rTog_o0 kv iv0 bv0 hin hF iv bv ha hi
  | 1,hk,hi=>by
    cases hk
    exact rTog_o1 kv iv0 bv0 hin hF iv bv ha hi
  | 2,hk,hi=>by
    cases hk
    exact rTog_o2 kv iv0 bv0 hin hF iv bv ha hi
  | k+3,hk,_=>by simp at hk
def eTog_T1:Tm:=⟨⟨228,28,[(10,(.it .i64 (.v 24))),(9,(.it .i64 (.v 1))),(8,(.sl (.k 0) (.v 2) (.v 1) (.v 3))),(4,(.bo (.v 27))),(0,(.sl (.k 0) (.v 2) (.v 1) (.v 3)))],[(.code (atC Tryz.f228 [1,1,0,1,0,0])),(.inLoop (atC Tryz.f228 [1,1,0,1,0,0])),(.inBlock 0),(.code (atC Tryz.f228 [1,1,1]))],[],.none⟩,[],
    ⟨[],0,0,0,[((.le (.v 1) (.v 3)),.true),((.le (.c 0) (.v 3)),.true)],[1,0],[(1,(0,9223372036854775807)),(2,(0,(-1))),(24,(0,(-1)))]⟩,[27,24]⟩
def eTog_T2:Tm:=⟨⟨265,16,[(7,(.it .i64 (.v 28))),(6,(.it .i64 (.v 24))),(5,(.sl (.k 0) (.v 2) (.v 24) (.v 3))),(0,(.yl 5))],[(.code (atC Tryz.f265 [1,0,0])),(.inLoop (atC Tryz.f265 [1,0,0])),(.inBlock 0)],[],.none⟩,[⟨244,16,[(3,(.pt (.n 1) (.c 0)))],[(.inRangeFunc 5),(.inBlock 0),(.code (atC Tryz.f244 [1,1]))],[4],.none⟩,⟨228,28,[(24,(.fn 245 [] [(.pt (.n 0) (.c 0))])),(23,(.sl (.k 0) (.v 2) (.v 24) (.v 3))),(20,(.bo (.v 27))),(10,(.it .i64 (.v 24))),(9,(.it .i64 (.v 1))),(8,(.sl (.k 0) (.v 2) (.v 1) (.v 3))),(0,(.sl (.k 0) (.v 2) (.v 1) (.v 3)))],[(.inRegion (opsC (atC Tryz.f228 [1,1,0,1,0,0,1,1,0,0,1,1])) [5,6]),(.inBlock 1),(.code (atC Tryz.f228 [1,1,0,1,0,0,1,1,1])),(.inLoop (atC Tryz.f228 [1,1,0,1,0,0])),(.inBlock 0),(.code (atC Tryz.f228 [1,1,1]))],[],.none⟩],
    ⟨[(0,(.cells [(.it .i64 (.ap 3 (.v 0) (.v 24) (.c 0) (.c 0) (.c 0) (.c 0)))] 71)),(1,(.cells [(.bo (.v 29))] 4)),(2,(.cells [(.fn 245 [] [(.pt (.n 0) (.c 0))])] 330)),(4,.dfr),(5,(.loop .ready .none 244 16 [(5,(.pt (.n 2) (.c 0))),(3,(.pt (.n 1) (.c 0)))] #[10] (atC Tryz.f244 [1,0,1,0,0]) (atC Tryz.f244 [1,0,1,0,1]) 4))],6,0,0,[((.lt (.ap 3 (.v 0) (.v 24) (.c 0) (.c 0) (.c 0) (.c 0)) (.c 6)),.true),((.le (.c 0) (.ap 3 (.v 0) (.v 24) (.c 0) (.c 0) (.c 0) (.c 0))),.true),((.lt (.v 24) (.v 1)),.true),((.le (.v 1) (.v 3)),.true),((.le (.c 0) (.v 3)),.true)],[1,0],[(1,(1,9223372036854775807)),(24,(0,9223372036854775806)),(2,(0,(-1))),(28,(0,(-1)))]⟩,[28,29]⟩
def eTog_L0:List Lf:=
 [(.cut ([((.le (.v 1) (.v 3)),.true),((.le (.c 0) (.v 3)),.true)]) 1 ⟨⟨[(24,(.c 0))],[(27,(.c .true))]⟩,[],[],[]⟩ [] (shT eTog_T1 ⟨⟨[(24,(.c 0))],[(27,(.c .true))]⟩,[],[],[]⟩))]
def eTog_L1:List Lf:=
 let x0_:SI:=(.ap 3 (.v 0) (.v 24) (.c 0) (.c 0) (.c 0) (.c 0))
 let f0_:List (SB×Bool):=[((.le (.v 1) (.v 3)),.true),((.le (.c 0) (.v 3)),.true)]
 let f1_:List (SB×Bool):=((.lt (.v 24) (.v 1)),.true)::f0_
 let f2_:List (SB×Bool):=((.le (.c 0) x0_),.true)::f1_
 [(let i_:In:=⟨⟨[(28,(.c 0))],[(29,(.v 27))]⟩,[(2,2),(0,0),(4,4),(1,1),(5,5)],[],[]⟩;.cut (((.lt x0_ (.c 6)),.true)::f2_) 2 i_ [] (shT eTog_T2 i_)),
  (.fin (((.lt x0_ (.c 6)),.false)::f2_) 0 ⟨⟨[],[]⟩,[],[],[]⟩ [(.eb (.ap 14 (.v 0) (.v 1) (.c 0) (.c 0) (.c 0) (.c 0)) (.c .false)),(.ei (.ap 12 (.v 0) (.v 1) (.c 0) (.c 0) (.c 0) (.c 0)) (.c 130))] []),
  (.fin (((.le (.c 0) x0_),.false)::f1_) 0 ⟨⟨[],[]⟩,[],[],[]⟩ [(.eb (.ap 14 (.v 0) (.v 1) (.c 0) (.c 0) (.c 0) (.c 0)) (.c .false)),(.ei (.ap 12 (.v 0) (.v 1) (.c 0) (.c 0) (.c 0) (.c 0)) (.c 130))] []),
  (.fin (((.lt (.v 24) (.v 1)),.false)::f0_) 0 ⟨⟨[],[]⟩,[],[],[]⟩ [(.eb (.ap 14 (.v 0) (.v 1) (.c 0) (.c 0) (.c 0) (.c 0)) (.v 27)),(.ei (.ap 12 (.v 0) (.v 1) (.c 0) (.c 0) (.c 0) (.c 0)) (.c 0))] [])]
def eTog_L2:List Lf:=
 let x0_:SI:=(.ap 3 (.v 0) (.v 24) (.c 0) (.c 0) (.c 0) (.c 0))
 let f0_:List (SB×Bool):=[((.lt x0_ (.c 6)),.true),((.le (.c 0) x0_),.true),((.lt (.v 24) (.v 1)),.true),((.le (.v 1) (.v 3)),.true),((.le (.c 0) (.v 3)),.true)]
 let f1_:List (SB×Bool):=((.lt (.v 28) (.v 24)),.true)::f0_
 [(let i_:In:=⟨⟨[(28,(.op .add (.v 28) (.c 1)))],[(29,(.ap 10 x0_ (.ap 3 (.v 0) (.v 28) (.c 0) (.c 0) (.c 0) (.c 0)) (.c 0) (.c 0) (.c 0) (.c 0)))]⟩,[(2,2),(0,0),(4,4),(1,1),(5,5)],[],[]⟩;.cut (((.v 29),.true)::f1_) 2 i_ [] (shT eTog_T2 i_)),
  (let i_:In:=⟨⟨[(28,(.op .add (.v 28) (.c 1)))],[(29,(.c .false))]⟩,[(2,2),(0,0),(4,4),(1,1),(5,5)],[],[]⟩;.cut (((.v 29),.false)::f1_) 2 i_ [] (shT eTog_T2 i_)),
  (let i_:In:=⟨⟨[(24,(.op .add (.v 24) (.c 1)))],[(27,(.v 29))]⟩,[],[],[]⟩;.cut (((.lt (.v 28) (.v 24)),.false)::f0_) 1 i_ [] (shT eTog_T1 i_))]
def eTog_run (T:Tm):=(ex (ccOf Tryz.prog BF [29,73,75,100] eTog) ((fun cc=>[eFits.ent cc]) (ccOf Tryz.prog BF [29,73,75,100] eTog)) (dw (ccOf Tryz.prog BF [29,73,75,100] eTog) ((fun cc=>[eFits.ent cc]) (ccOf Tryz.prog BF [29,73,75,100] eTog)) 1000 4) (stopX []) 4000 T.f T.fs T.H).lfs (ccOf Tryz.prog BF [29,73,75,100] eTog) ((tm0 eTog Tryz.f228 (Tryz.f228.body.getD .skip))::[eTog_T1,eTog_T2]) eTog.os
theorem eTog_h0:eTog_run (tm0 eTog Tryz.f228 (Tryz.f228.body.getD .skip))=some eTog_L0:=by kernel_rfl
theorem eTog_h1:eTog_run eTog_T1=some eTog_L1:=by kernel_rfl
theorem eTog_h2:eTog_run eTog_T2=some eTog_L2:=by kernel_rfl
def eTog_inv:(Nat→Int)→(Nat→Bool)→Nat→(Nat→Int)→(Nat→Bool)→Prop:=fun iv0 _ k iv bv=>match k with
 | 0=>True
 | 1=>(0≤iv 24∧iv 24≤iv0 1)∧allM (iv0 0) (iv 24)∧(bv 27=true↔togA (iv0 0) (iv 24))
 | _=>0≤iv 24∧allM (iv0 0) (iv 24)∧(bv 27=true↔togA (iv0 0) (iv 24))∧(0≤iv 28∧iv 28≤iv 24)∧(bv 29=true↔(bv 27=true∧fitA (fl (iv0 0) (iv 24).toNat 0) (iv0 0) (iv 28)))
def eTog_mu:(Nat→Int)→(Nat→Bool)→Nat→(Nat→Int)→(Nat→Bool)→Nat:=fun iv0 _ k iv _=>match k with
 | 0=>2 ^ 200 | 1=>(iv0 1 - iv 24).toNat * 2 ^ 70+2 ^ 69
 | _=>(iv0 1 - iv 24).toNat * 2 ^ 70+(iv 24 - iv 28).toNat
theorem eTog_b {iv0:Nat→Int} (hin:InB eTog.B iv0):(0≤iv0 1∧iv0 1≤9223372036854775807):=by
 have b1:=hin 1 0 9223372036854775807 (by simp [eTog,o1,two,b2,bM,fM,gM,lM])
 simp only [Int.reduceLE,reduceIte,Int.reduceNeg] at b1
 exact b1
def eTog_ob (k:Nat) (l:List Lf):Prop:=∀ (kv:Kv) (iv0:Nat→Int) (bv0:Nat→Bool),InB eTog.B iv0→FT (sta FI FB kv iv0 bv0) (dlt dyn0) eTog.F→∀ (iv:Nat→Int) (bv:Nat→Bool),Agr 4 iv0 bv0 iv bv→eTog_inv iv0 bv0 k iv bv→∀ lf∈l,LfT (sta FI FB kv) eTog.os (eTog_inv iv0 bv0) (eTog_mu iv0 bv0) k iv bv lf
theorem eTog_o0:eTog_ob 0 eTog_L0:=by
 intro kv iv0 bv0 hin hF iv bv ha hi
 unfold eTog_L0
 refine List.forall_mem_cons.2 ⟨?_,List.forall_mem_nil _⟩
 all_goals
  intro δ hf
 all_goals
  have b1:=eTog_b hin
 all_goals
  have a0:=ha.1 0 (by omega)
  have a1:=ha.1 1 (by omega)
  have a2:=ha.1 2 (by omega)
  have a3:=ha.1 3 (by omega)
 all_goals
  simp only [FT,TP,SB.tp,SI.tv,sta,IB.eval,and_true,true_and,ObsT,Ob.Tv,rowT,kix,In.tiv,↓tbvT,In.tbv,get_cons,get_nil,reduceIte,Nat.reduceEqDiff,Int.reduceToNat,Int.reduceAdd,Int.reduceSub,Int.reduceLE,Int.reduceLT,Int.reduceEq,ne_eq,Bool.false_eq_true,not_true_eq_false,not_false_eq_true,true_iff,false_iff,iff_true,iff_false,false_implies,implies_true,decT,decide_true,decide_false,Bool.decide_eq_true,ap2,pb2,FI_3,FI_3g,FI_4,FI_8,FI_8m,FI_9,FI_8c,FI_8z,FB_0,FB_2,Int.toNat_natCast,Int.toNat_zero,FI_10,FI_12,FB_10,FB_12,FB_14,eTog_inv,eTog_mu,eTog,o1,othT,o1,two,b2,bM,fM,gM,lM,a0,a1,a2,a3] at hf hi ⊢
 all_goals
  (repeat' (with_reducible apply And.intro))<;>first
  | omega
  | assumption
  | (unfold inM;omega)
  | exact fun j hj=>by omega
theorem eTog_o1:eTog_ob 1 eTog_L1:=by
 intro kv iv0 bv0 hin hF iv bv ha hi
 unfold eTog_L1
 refine List.forall_mem_cons.2 ⟨?_,List.forall_mem_cons.2 ⟨?_,List.forall_mem_cons.2 ⟨?_,List.forall_mem_cons.2 ⟨?_,List.forall_mem_nil _⟩⟩⟩⟩
 all_goals
  intro δ hf
 all_goals
  have b1:=eTog_b hin
 all_goals
  have a0:=ha.1 0 (by omega)
  have a1:=ha.1 1 (by omega)
  have a2:=ha.1 2 (by omega)
  have a3:=ha.1 3 (by omega)
 all_goals
  simp only [FT,TP,SB.tp,SI.tv,sta,IB.eval,and_true,true_and,ObsT,Ob.Tv,rowT,kix,In.tiv,↓tbvT,In.tbv,get_cons,get_nil,reduceIte,Nat.reduceEqDiff,Int.reduceToNat,Int.reduceAdd,Int.reduceSub,Int.reduceLE,Int.reduceLT,Int.reduceEq,ne_eq,Bool.false_eq_true,not_true_eq_false,not_false_eq_true,true_iff,false_iff,iff_true,iff_false,false_implies,implies_true,decT,decide_true,decide_false,Bool.decide_eq_true,ap2,pb2,FI_3,FI_3g,FI_4,FI_8,FI_8m,FI_9,FI_8c,FI_8z,FB_0,FB_2,Int.toNat_natCast,Int.toNat_zero,FI_10,FI_12,FB_10,FB_12,FB_14,eTog_inv,eTog_mu,eTog,o1,othT,o1,two,b2,bM,fM,gM,lM,a0,a1,a2,a3] at hf hi ⊢
 all_goals
  (repeat' (with_reducible apply And.intro))<;>first
  | omega
  | assumption
  | (unfold inM;omega)
  | exact hi.2.1
  | exact hi.2.2
  | exact fun h=>absurd (h.1 (iv 24).toNat (by omega)) (by unfold inM;omega)
  | exact ⟨fun h=>⟨h,fun j hj=>by omega⟩,fun h=>h.1⟩
  | exact if_pos fun j hj=>hi.2.1 j (by omega)
  | exact if_neg fun h=>absurd (h (iv 24).toNat (by omega)) (by unfold inM;omega)
  | exact Eq.symm (if_pos fun j hj=>hi.2.1 j (by omega))
  | exact Eq.symm (if_neg fun h=>absurd (h (iv 24).toNat (by omega)) (by unfold inM;omega))
  | exact Iff.symm ⟨fun h=>⟨fun j hj=>hi.2.1 j (by omega),fun j hj=>hi.2.2.1 h j (by omega)⟩,fun h=>hi.2.2.2 fun j hj=>h.2 j (by omega)⟩
theorem eTog_o2:eTog_ob 2 eTog_L2:=by
 intro kv iv0 bv0 hin hF iv bv ha hi
 unfold eTog_L2
 refine List.forall_mem_cons.2 ⟨?_,List.forall_mem_cons.2 ⟨?_,List.forall_mem_cons.2 ⟨?_,List.forall_mem_nil _⟩⟩⟩
 all_goals
  intro δ hf
 all_goals
  have b1:=eTog_b hin
 all_goals
  have a0:=ha.1 0 (by omega)
  have a1:=ha.1 1 (by omega)
  have a2:=ha.1 2 (by omega)
  have a3:=ha.1 3 (by omega)
 all_goals
  simp only [FT,TP,SB.tp,SI.tv,sta,IB.eval,and_true,true_and,ObsT,Ob.Tv,rowT,kix,In.tiv,↓tbvT,In.tbv,get_cons,get_nil,reduceIte,Nat.reduceEqDiff,Int.reduceToNat,Int.reduceAdd,Int.reduceSub,Int.reduceLE,Int.reduceLT,Int.reduceEq,ne_eq,Bool.false_eq_true,not_true_eq_false,not_false_eq_true,true_iff,false_iff,iff_true,iff_false,false_implies,implies_true,decT,decide_true,decide_false,Bool.decide_eq_true,ap2,pb2,FI_3,FI_3g,FI_4,FI_8,FI_8m,FI_9,FI_8c,FI_8z,FB_0,FB_2,Int.toNat_natCast,Int.toNat_zero,FI_10,FI_12,FB_10,FB_12,FB_14,eTog_inv,eTog_mu,eTog,o1,othT,o1,two,b2,bM,fM,gM,lM,a0,a1,a2,a3] at hf hi ⊢
 all_goals
  (repeat' (with_reducible apply And.intro))<;>first
  | omega
  | assumption
  | (unfold inM;omega)
  | exact hi.2.1
  | exact hi.2.2.1
  | exact all_succ hi.1 hi.2.1 (by unfold inM;omega)
  | (refine ⟨fun h=>⟨(hi.2.2.2.2.1 hf.1).1,all_succ hi.2.2.2.1.1 (hi.2.2.2.2.1 hf.1).2 h.2.2⟩,fun h=>⟨by unfold inM;omega,hi.2.1 (iv 28).toNat (by omega),h.2 (iv 28).toNat (by omega)⟩⟩)
  | (refine fun h=>hf.1 (hi.2.2.2.2.2 ⟨h.1,fun j hj=>h.2 j (by omega)⟩))
  | exact ⟨fun h=>all_succ hi.1 (hi.2.2.1.1 (hi.2.2.2.2.1 h).1) (fun j hj=>(hi.2.2.2.2.1 h).2 j (by omega)),fun h=>hi.2.2.2.2.2 ⟨hi.2.2.1.2 fun j hj=>h j (by omega),fun j hj=>h (iv 24).toNat (by omega) j (by omega)⟩⟩
theorem eTog_c:LsC ((tm0 eTog Tryz.f228 (Tryz.f228.body.getD .skip))::[eTog_T1,eTog_T2]) eTog.os [eTog_L0,eTog_L1,eTog_L2]:=by
 unfold eTog_L0 eTog_L1 eTog_L2
 exact ⟨List.forall_mem_cons.2 ⟨⟨⟨_,rfl,rfl⟩,by kernel_rfl⟩,List.forall_mem_nil _⟩,List.forall_mem_cons.2 ⟨⟨⟨_,rfl,rfl⟩,by kernel_rfl⟩,List.forall_mem_cons.2 ⟨⟨⟨_,rfl,rfl⟩,by kernel_rfl⟩,List.forall_mem_cons.2 ⟨⟨⟨_,rfl,rfl⟩,by kernel_rfl⟩,List.forall_mem_cons.2 ⟨⟨⟨_,rfl,rfl⟩,by kernel_rfl⟩,List.forall_mem_nil _⟩⟩⟩⟩,List.forall_mem_cons.2 ⟨⟨⟨_,rfl,rfl⟩,by kernel_rfl⟩,List.forall_mem_cons.2 ⟨⟨⟨_,rfl,rfl⟩,by kernel_rfl⟩,List.forall_mem_cons.2 ⟨⟨⟨_,rfl,rfl⟩,by kernel_rfl⟩,List.forall_mem_nil _⟩⟩⟩,trivial⟩
theorem eTog_ok:eTog.Ok Tryz.prog FI FB:=
 Con.of_plain (body:=Tryz.f228.body.getD .skip) pok fiok (EntsFor.cons eFits_ok EntsFor.nil) eTog Tryz.func228 (by kernel_rfl) 4 [eTog_T1,eTog_T2] (by kernel_rfl) [eTog_L0,eTog_L1,eTog_L2] ⟨eTog_h0,eTog_h1,eTog_h2,trivial⟩ eTog_c
  eTog_inv eTog_mu (fun _ _ _=>trivial) fun kv iv0 bv0 hin hF k l iv bv hk ha hi=>match k,hk,hi with
  | 0,hk,hi=>by
    cases hk
    exact eTog_o0 kv iv0 bv0 hin hF iv bv ha hi
  | 1,hk,hi=>by
    cases hk
    exact eTog_o1 kv iv0 bv0 hin hF iv bv ha hi
  | 2,hk,hi=>by
    cases hk
    exact eTog_o2 kv iv0 bv0 hin hF iv bv ha hi
  | k+3,hk,_=>by simp at hk
def eTog0_L0:List Lf:=
 [(.fin ([]) 0 ⟨⟨[],[]⟩,[],[],[]⟩ [] [])]
def eTog0_run (T:Tm):=(ex (ccOf Tryz.prog BF [29,73,75,100] eTog0) ((fun _=>[]) (ccOf Tryz.prog BF [29,73,75,100] eTog0)) (dw (ccOf Tryz.prog BF [29,73,75,100] eTog0) ((fun _=>[]) (ccOf Tryz.prog BF [29,73,75,100] eTog0)) 1000 4) (stopX [0,1,2,3,4,5,6,7,8,9,10,11,12,13,14,15,16,17,18,19,20,21,22,23,24,25,26,27,28,29,30,31,32,33,34,35,36,37,38,39,40,41,42,43,44,45,46,47,48,49,50,51,52,53,54,55,56,57,58,59,60,61,62,63,64,65,66,67,68,69,70,71,72,73,74,75,76,77,78,79,80,81,82,83,84,85,86,87,88,89,90,91,92,93,94,95,96,97,98,99,100,101,102,103,104,105,106,107,108,109,110,111,112,113,114,115,116,117,118,119,120,121,122,123,124,125,126,127,128,129,130,131,132,133,134,135,136,137,138,139,140,141,142,143,144,145,146,147,148,149,150,151,152,153,154,155,156,157,158,159,160,161,162,163,164,165,166,167,168,169,170,171,172,173,174,175,176,177,178,179,180,181,182,183,184,185,186,187,188,189,190,191,192,193,194,195,196,197,198,199,200,201,202,203,204,205,206,207,208,209,210,211,212,213,214,215,216,217,218,219,220,221,222,223,224,225,226,227,228,229,230,231,232,233,234,235,236,237,238,239,240,241,242,243,244,245,246,247,248,249,250,251,252,253,254,255,256,257,258,259,260,261,262,263,264,265,266,267,268,269,270,271,272,273,274,275,276,277,278,279,280,281,282,283,284,285,286,287,288,289,290,291,292,293,294,295,296,297,298,299,300,301,302,303,304,305,306,307,308,309,310,311,312,313,314,315,316,317,318,319,320,321,322,323,324,325,326,327,328,329,330,331,332,333,334,335,336,337,338,339,340,341,342,343,344,345,346,347,348,349,350,351,352,353,354,355,356,357,358,359,360,361,362,363,364,365,366,367,368,369,370,371,372,373,374,375,376,377,378,379,380,381,382,383,384,385,386,387,388,389,390,391,392,393,394,395,396,397,398,399]) 4000 T.f T.fs T.H).lfs (ccOf Tryz.prog BF [29,73,75,100] eTog0) ((tm0 eTog0 Tryz.f228 (Tryz.f228.body.getD .skip))::[]) eTog0.os
theorem eTog0_h0:eTog0_run (tm0 eTog0 Tryz.f228 (Tryz.f228.body.getD .skip))=some eTog0_L0:=by kernel_rfl
def eTog0_inv:(Nat→Int)→(Nat→Bool)→Nat→(Nat→Int)→(Nat→Bool)→Prop:=fun _ _ _ _ _=>True
def eTog0_mu:(Nat→Int)→(Nat→Bool)→Nat→(Nat→Int)→(Nat→Bool)→Nat:=fun _ _ _ _ _=>0
def eTog0_ob (k:Nat) (l:List Lf):Prop:=∀ (kv:Kv) (iv0:Nat→Int) (bv0:Nat→Bool),InB eTog0.B iv0→FT (sta FI FB kv iv0 bv0) (dlt dyn0) eTog0.F→∀ (iv:Nat→Int) (bv:Nat→Bool),Agr 0 iv0 bv0 iv bv→eTog0_inv iv0 bv0 k iv bv→∀ lf∈l,LfT (sta FI FB kv) eTog0.os (eTog0_inv iv0 bv0) (eTog0_mu iv0 bv0) k iv bv lf
theorem eTog0_o0:eTog0_ob 0 eTog0_L0:=by
 intro kv iv0 bv0 hin hF iv bv ha hi
 unfold eTog0_L0
 refine List.forall_mem_cons.2 ⟨?_,List.forall_mem_nil _⟩
 all_goals
  intro δ hf
 all_goals
  simp only [FT,TP,SB.tp,SI.tv,sta,IB.eval,and_true,true_and,ObsT,Ob.Tv,rowT,kix,In.tiv,↓tbvT,In.tbv,get_cons,get_nil,reduceIte,Nat.reduceEqDiff,Int.reduceToNat,Int.reduceAdd,Int.reduceSub,Int.reduceLE,Int.reduceLT,Int.reduceEq,ne_eq,Bool.false_eq_true,not_true_eq_false,not_false_eq_true,true_iff,false_iff,iff_true,iff_false,false_implies,implies_true,decT,decide_true,decide_false,Bool.decide_eq_true,ap2,pb2,FI_3,FI_3g,FI_4,FI_8,FI_8m,FI_9,FI_8c,FI_8z,FB_0,FB_2,Int.toNat_natCast,Int.toNat_zero,eTog0_inv,eTog0_mu,eTog0,o1,othT,o1,two,b2,bM,fM,gM,lM] at hf hi ⊢
 all_goals
  (repeat' (with_reducible apply And.intro))<;>first
  | omega
  | assumption
  | (unfold inM;omega)
theorem eTog0_c:LsC ((tm0 eTog0 Tryz.f228 (Tryz.f228.body.getD .skip))::[]) eTog0.os [eTog0_L0]:=by
 unfold eTog0_L0
 exact ⟨List.forall_mem_cons.2 ⟨⟨⟨_,rfl,rfl⟩,by kernel_rfl⟩,List.forall_mem_nil _⟩,trivial⟩
theorem eTog0_ok:eTog0.Ok Tryz.prog FI FB:=
 Con.of_plain (body:=Tryz.f228.body.getD .skip) pok fiok EntsFor.nil eTog0 Tryz.func228 (by kernel_rfl) 0 [] (by kernel_rfl) [eTog0_L0] ⟨eTog0_h0,trivial⟩ eTog0_c
  eTog0_inv eTog0_mu (fun _ _ _=>trivial) fun kv iv0 bv0 hin hF k l iv bv hk ha hi=>match k,hk,hi with
  | 0,hk,hi=>by
    cases hk
    exact eTog0_o0 kv iv0 bv0 hin hF iv bv ha hi
  | k+1,hk,_=>by simp at hk
def rTog0_L0:List Lf:=
 [(.fin ([]) 0 ⟨⟨[],[]⟩,[],[],[]⟩ [] [])]
def rTog0_run (T:Tm):=(ex (ccOf Tryz.prog BF [29,73,75,100] rTog0) ((fun _=>[]) (ccOf Tryz.prog BF [29,73,75,100] rTog0)) (dw (ccOf Tryz.prog BF [29,73,75,100] rTog0) ((fun _=>[]) (ccOf Tryz.prog BF [29,73,75,100] rTog0)) 1000 4) (stopX [0,1,2,3,4,5,6,7,8,9,10,11,12,13,14,15,16,17,18,19,20,21,22,23,24,25,26,27,28,29,30,31,32,33,34,35,36,37,38,39,40,41,42,43,44,45,46,47,48,49,50,51,52,53,54,55,56,57,58,59,60,61,62,63,64,65,66,67,68,69,70,71,72,73,74,75,76,77,78,79,80,81,82,83,84,85,86,87,88,89,90,91,92,93,94,95,96,97,98,99,100,101,102,103,104,105,106,107,108,109,110,111,112,113,114,115,116,117,118,119,120,121,122,123,124,125,126,127,128,129,130,131,132,133,134,135,136,137,138,139,140,141,142,143,144,145,146,147,148,149,150,151,152,153,154,155,156,157,158,159,160,161,162,163,164,165,166,167,168,169,170,171,172,173,174,175,176,177,178,179,180,181,182,183,184,185,186,187,188,189,190,191,192,193,194,195,196,197,198,199,200,201,202,203,204,205,206,207,208,209,210,211,212,213,214,215,216,217,218,219,220,221,222,223,224,225,226,227,228,229,230,231,232,233,234,235,236,237,238,239,240,241,242,243,244,245,246,247,248,249,250,251,252,253,254,255,256,257,258,259,260,261,262,263,264,265,266,267,268,269,270,271,272,273,274,275,276,277,278,279,280,281,282,283,284,285,286,287,288,289,290,291,292,293,294,295,296,297,298,299,300,301,302,303,304,305,306,307,308,309,310,311,312,313,314,315,316,317,318,319,320,321,322,323,324,325,326,327,328,329,330,331,332,333,334,335,336,337,338,339,340,341,342,343,344,345,346,347,348,349,350,351,352,353,354,355,356,357,358,359,360,361,362,363,364,365,366,367,368,369,370,371,372,373,374,375,376,377,378,379,380,381,382,383,384,385,386,387,388,389,390,391,392,393,394,395,396,397,398,399]) 4000 T.f T.fs T.H).lfs (ccOf Tryz.prog BF [29,73,75,100] rTog0) ((tm0 rTog0 Tryz.f136 (Tryz.f136.body.getD .skip))::[]) rTog0.os
theorem rTog0_h0:rTog0_run (tm0 rTog0 Tryz.f136 (Tryz.f136.body.getD .skip))=some rTog0_L0:=by kernel_rfl
def rTog0_inv:(Nat→Int)→(Nat→Bool)→Nat→(Nat→Int)→(Nat→Bool)→Prop:=fun _ _ _ _ _=>True
def rTog0_mu:(Nat→Int)→(Nat→Bool)→Nat→(Nat→Int)→(Nat→Bool)→Nat:=fun _ _ _ _ _=>0
def rTog0_ob (k:Nat) (l:List Lf):Prop:=∀ (kv:Kv) (iv0:Nat→Int) (bv0:Nat→Bool),InB rTog0.B iv0→FT (sta FI FB kv iv0 bv0) (dlt dyn0) rTog0.F→∀ (iv:Nat→Int) (bv:Nat→Bool),Agr 0 iv0 bv0 iv bv→rTog0_inv iv0 bv0 k iv bv→∀ lf∈l,LfT (sta FI FB kv) rTog0.os (rTog0_inv iv0 bv0) (rTog0_mu iv0 bv0) k iv bv lf
theorem rTog0_o0:rTog0_ob 0 rTog0_L0:=by
 intro kv iv0 bv0 hin hF iv bv ha hi
 unfold rTog0_L0
 refine List.forall_mem_cons.2 ⟨?_,List.forall_mem_nil _⟩
 all_goals
  intro δ hf
 all_goals
  simp only [FT,TP,SB.tp,SI.tv,sta,IB.eval,and_true,true_and,ObsT,Ob.Tv,rowT,kix,In.tiv,↓tbvT,In.tbv,get_cons,get_nil,reduceIte,Nat.reduceEqDiff,Int.reduceToNat,Int.reduceAdd,Int.reduceSub,Int.reduceLE,Int.reduceLT,Int.reduceEq,ne_eq,Bool.false_eq_true,not_true_eq_false,not_false_eq_true,true_iff,false_iff,iff_true,iff_false,false_implies,implies_true,decT,decide_true,decide_false,Bool.decide_eq_true,ap2,pb2,FI_3,FI_3g,FI_4,FI_8,FI_8m,FI_9,FI_8c,FI_8z,FB_0,FB_2,Int.toNat_natCast,Int.toNat_zero,rTog0_inv,rTog0_mu,rTog0,o1,othT,o1,two,b2,bM,fM,gM,lM] at hf hi ⊢
 all_goals
  (repeat' (with_reducible apply And.intro))<;>first
  | omega
  | assumption
  | (unfold inM;omega)
theorem rTog0_c:LsC ((tm0 rTog0 Tryz.f136 (Tryz.f136.body.getD .skip))::[]) rTog0.os [rTog0_L0]:=by
 unfold rTog0_L0
 exact ⟨List.forall_mem_cons.2 ⟨⟨⟨_,rfl,rfl⟩,by kernel_rfl⟩,List.forall_mem_nil _⟩,trivial⟩
theorem rTog0_ok:rTog0.Ok Tryz.prog FI FB:=
 Con.of_plain (body:=Tryz.f136.body.getD .skip) pok fiok EntsFor.nil rTog0 Tryz.func136 (by kernel_rfl) 0 [] (by kernel_rfl) [rTog0_L0] ⟨rTog0_h0,trivial⟩ rTog0_c
  rTog0_inv rTog0_mu (fun _ _ _=>trivial) fun kv iv0 bv0 hin hF k l iv bv hk ha hi=>match k,hk,hi with
  | 0,hk,hi=>by
    cases hk
    exact rTog0_o0 kv iv0 bv0 hin hF iv bv ha hi
  | k+1,hk,_=>by simp at hk
end
end Go.Sx.Tk
