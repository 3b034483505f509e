/- Modes: whether two go together, by contract. -/
import Derived.Test.YtfgdpkceoadgjaaMoD
namespace Go.Sx.Mhw
set_option linter.unusedVariables false
set_option linter.unusedSimpArgs false
set_option maxRecDepth 100000
set_option maxHeartbeats 0
open Go Go.Sx Go.Proofs
def Msk (s c k:Int):Prop:=(s=0∨s=1∨s=3∨s=7∨s=11∨s=15∨s=31∨s=63)∧(covA 0 c k↔s≤1)∧(covA 1 c k↔s≤3)∧(covA 2 c k↔s≤7)∧(covA 3 c k↔(s≤3∨s=11))∧(covA 4 c k↔s≤31)
theorem covA_succ {m c k:Int} (h:0≤k):covA m c (k+1)↔(covA m c k∧covP m (fl c k.toNat 0)):=
 ⟨fun hh=>⟨fun i hi=>hh i (by omega),hh k.toNat (by omega)⟩,fun hh=>all_succ h hh.1 hh.2⟩
theorem Msk.zero (c:Int):Msk 0 c 0:=by
 have h:∀ m,covA m c 0:=fun m i hi=>by omega
 refine ⟨.inl rfl,?_,?_,?_,?_,?_⟩<;>simp [h]
theorem Msk.step {s c k d:Int} (h:Msk s c k) (hk:0≤k) (hd:(fl c k.toNat 0=0∧d=1)∨(fl c k.toNat 0=1∧d=3)∨(fl c k.toNat 0=2∧d=7)∨(fl c k.toNat 0=3∧d=11)∨(fl c k.toNat 0=4∧d=31)∨(fl c k.toNat 0=5∧d=63)) :
  Msk (IntKind.u64.wrap (BitVec.ofInt IntKind.u64.bits s ||| BitVec.ofInt IntKind.u64.bits d).toNat) c (k+1):=by
 obtain ⟨h0,h1,h2,h3,h4,h5⟩:=h
 unfold Msk
 simp only [covA_succ hk,h1,h2,h3,h4,h5]
 rcases hd with ⟨e,rfl⟩ | ⟨e,rfl⟩ | ⟨e,rfl⟩ | ⟨e,rfl⟩ | ⟨e,rfl⟩ | ⟨e,rfl⟩<;>rw [e]<;>rcases h0 with rfl | rfl | rfl | rfl | rfl | rfl | rfl | rfl<;>decide
theorem Msk.fin {s c k:Int} (h:Msk s c k) (x:Int) (hx:x=1∨x=3∨x=7∨x=11∨x=31∨x=63):IntKind.u64.wrap (BitVec.ofInt IntKind.u64.bits s &&& ~~~BitVec.ofInt IntKind.u64.bits x).toNat=0↔(if x=11 then s≤3∨s=11 else s≤x∧(x=63∨x=31∨s≠11∧s≠15)):=by
 obtain ⟨h0,_⟩:=h
 rcases hx with rfl | rfl | rfl | rfl | rfl | rfl<;>rcases h0 with rfl | rfl | rfl | rfl | rfl | rfl | rfl | rfl<;>decide
noncomputable def eFits_L0:List Lf:=
 [(.fin [((.eq (.v 0) (.c 0)),.true),((.lt (.v 1) (.c 6)),.true),((.le (.c 0) (.v 1)),.true),((.lt (.v 0) (.c 6)),.true),((.le (.c 0) (.v 0)),.true)] 0 ⟨⟨[],[]⟩,[],[],[]⟩ [(.eb (.ap 10 (.v 0) (.v 1) (.c 0) (.c 0) (.c 0) (.c 0)) (.not (.eq (.op (.band .u64) (.c 63) (.op (.shl .u64) (.c 1) (.v 1))) (.c 0)))),(.ei (.ap 10 (.v 0) (.v 1) (.c 0) (.c 0) (.c 0) (.c 0)) (.c 0))] []),(.fin [((.eq (.v 0) (.c 1)),.true),((.eq (.v 0) (.c 0)),.false),((.lt (.v 1) (.c 6)),.true),((.le (.c 0) (.v 1)),.true),((.lt (.v 0) (.c 6)),.true),((.le (.c 0) (.v 0)),.true)] 0 ⟨⟨[],[]⟩,[],[],[]⟩ [(.eb (.ap 10 (.v 0) (.v 1) (.c 0) (.c 0) (.c 0) (.c 0)) (.not (.eq (.op (.band .u64) (.c 31) (.op (.shl .u64) (.c 1) (.v 1))) (.c 0)))),(.ei (.ap 10 (.v 0) (.v 1) (.c 0) (.c 0) (.c 0) (.c 0)) (.c 0))] []),(.fin [((.eq (.v 0) (.c 2)),.true),((.eq (.v 0) (.c 1)),.false),((.eq (.v 0) (.c 0)),.false),((.lt (.v 1) (.c 6)),.true),((.le (.c 0) (.v 1)),.true),((.lt (.v 0) (.c 6)),.true),((.le (.c 0) (.v 0)),.true)] 0 ⟨⟨[],[]⟩,[],[],[]⟩ [(.eb (.ap 10 (.v 0) (.v 1) (.c 0) (.c 0) (.c 0) (.c 0)) (.not (.eq (.op (.band .u64) (.c 7) (.op (.shl .u64) (.c 1) (.v 1))) (.c 0)))),(.ei (.ap 10 (.v 0) (.v 1) (.c 0) (.c 0) (.c 0) (.c 0)) (.c 0))] []),(.fin [((.eq (.v 0) (.c 3)),.true),((.eq (.v 0) (.c 2)),.false),((.eq (.v 0) (.c 1)),.false),((.eq (.v 0) (.c 0)),.false),((.lt (.v 1) (.c 6)),.true),((.le (.c 0) (.v 1)),.true),((.lt (.v 0) (.c 6)),.true),((.le (.c 0) (.v 0)),.true)] 0 ⟨⟨[],[]⟩,[],[],[]⟩ [(.eb (.ap 10 (.v 0) (.v 1) (.c 0) (.c 0) (.c 0) (.c 0)) (.not (.eq (.op (.band .u64) (.c 11) (.op (.shl .u64) (.c 1) (.v 1))) (.c 0)))),(.ei (.ap 10 (.v 0) (.v 1) (.c 0) (.c 0) (.c 0) (.c 0)) (.c 0))] []),(.fin [((.eq (.v 0) (.c 4)),.true),((.eq (.v 0) (.c 3)),.false),((.eq (.v 0) (.c 2)),.false),((.eq (.v 0) (.c 1)),.false),((.eq (.v 0) (.c 0)),.false),((.lt (.v 1) (.c 6)),.true),((.le (.c 0) (.v 1)),.true),((.lt (.v 0) (.c 6)),.true),((.le (.c 0) (.v 0)),.true)] 0 ⟨⟨[],[]⟩,[],[],[]⟩ [(.eb (.ap 10 (.v 0) (.v 1) (.c 0) (.c 0) (.c 0) (.c 0)) (.not (.eq (.op (.band .u64) (.c 3) (.op (.shl .u64) (.c 1) (.v 1))) (.c 0)))),(.ei (.ap 10 (.v 0) (.v 1) (.c 0) (.c 0) (.c 0) (.c 0)) (.c 0))] []),(.fin [((.eq (.v 0) (.c 4)),.false),((.eq (.v 0) (.c 3)),.false),((.eq (.v 0) (.c 2)),.false),((.eq (.v 0) (.c 1)),.false),((.eq (.v 0) (.c 0)),.false),((.lt (.v 1) (.c 6)),.true),((.le (.c 0) (.v 1)),.true),((.lt (.v 0) (.c 6)),.true),((.le (.c 0) (.v 0)),.true)] 0 ⟨⟨[],[]⟩,[],[],[]⟩ [(.eb (.ap 10 (.v 0) (.v 1) (.c 0) (.c 0) (.c 0) (.c 0)) (.not (.eq (.op (.band .u64) (.c 1) (.op (.shl .u64) (.c 1) (.v 1))) (.c 0)))),(.ei (.ap 10 (.v 0) (.v 1) (.c 0) (.c 0) (.c 0) (.c 0)) (.c 0))] []),(.fin [((.lt (.v 1) (.c 6)),.false),((.le (.c 0) (.v 1)),.true),((.lt (.v 0) (.c 6)),.true),((.le (.c 0) (.v 0)),.true)] 0 ⟨⟨[],[]⟩,[],[],[]⟩ [(.eb (.ap 10 (.v 0) (.v 1) (.c 0) (.c 0) (.c 0) (.c 0)) (.c .false)),(.ei (.ap 10 (.v 0) (.v 1) (.c 0) (.c 0) (.c 0) (.c 0)) (.c 130))] []),(.fin [((.le (.c 0) (.v 1)),.false),((.lt (.v 0) (.c 6)),.true),((.le (.c 0) (.v 0)),.true)] 0 ⟨⟨[],[]⟩,[],[],[]⟩ [(.eb (.ap 10 (.v 0) (.v 1) (.c 0) (.c 0) (.c 0) (.c 0)) (.c .false)),(.ei (.ap 10 (.v 0) (.v 1) (.c 0) (.c 0) (.c 0) (.c 0)) (.c 130))] []),(.fin [((.lt (.v 0) (.c 6)),.false),((.le (.c 0) (.v 0)),.true)] 0 ⟨⟨[],[]⟩,[],[],[]⟩ [(.eb (.ap 10 (.v 0) (.v 1) (.c 0) (.c 0) (.c 0) (.c 0)) (.c .false)),(.ei (.ap 10 (.v 0) (.v 1) (.c 0) (.c 0) (.c 0) (.c 0)) (.c 130))] []),(.fin [((.le (.c 0) (.v 0)),.false)] 0 ⟨⟨[],[]⟩,[],[],[]⟩ [(.eb (.ap 10 (.v 0) (.v 1) (.c 0) (.c 0) (.c 0) (.c 0)) (.c .false)),(.ei (.ap 10 (.v 0) (.v 1) (.c 0) (.c 0) (.c 0) (.c 0)) (.c 130))] [])]
theorem eFits_h0:(ex (ccOf Try.prog BF [58,84] eFits) ((fun _=>[]) (ccOf Try.prog BF [58,84] eFits)) (dw (ccOf Try.prog BF [58,84] eFits) ((fun _=>[]) (ccOf Try.prog BF [58,84] eFits)) 1000 4) (stopX []) 4000 (tm0 eFits Try.f19 (Try.f19.body.getD .skip)).f (tm0 eFits Try.f19 (Try.f19.body.getD .skip)).fs (tm0 eFits Try.f19 (Try.f19.body.getD .skip)).H).lfs (ccOf Try.prog BF [58,84] eFits) ((tm0 eFits Try.f19 (Try.f19.body.getD .skip))::[]) eFits.os=some eFits_L0:=by kernel_rfl
def eFits_inv:(Nat→Int)→(Nat→Bool)→Nat→(Nat→Int)→(Nat→Bool)→Prop:=fun _ _ _ _ _=>True
def eFits_mu:(Nat→Int)→(Nat→Bool)→Nat→(Nat→Int)→(Nat→Bool)→Nat:=fun _ _ _ _ _=>0
theorem eFits_o0 (kv:Kv) (iv0:Nat→Int) (bv0:Nat→Bool) (hin:InB eFits.B iv0) (hF:FT (sta FI FB kv iv0 bv0) (dlt dyn0) eFits.F) (iv:Nat→Int) (bv:Nat→Bool) (ha:Agr 2 iv0 bv0 iv bv) (hi:eFits_inv iv0 bv0 0 iv bv) :
  ∀ lf∈eFits_L0,LfT (sta FI FB kv) eFits.os (eFits_inv iv0 bv0) (eFits_mu iv0 bv0) 0 iv bv lf:=by
 unfold eFits_L0
 refine List.forall_mem_cons.2 ⟨?_,List.forall_mem_cons.2 ⟨?_,List.forall_mem_cons.2 ⟨?_,List.forall_mem_cons.2 ⟨?_,List.forall_mem_cons.2 ⟨?_,List.forall_mem_cons.2 ⟨?_,List.forall_mem_cons.2 ⟨?_,List.forall_mem_cons.2 ⟨?_,List.forall_mem_cons.2 ⟨?_,List.forall_mem_cons.2 ⟨?_,List.forall_mem_nil _⟩⟩⟩⟩⟩⟩⟩⟩⟩⟩
 all_goals
  intro δ hf
 all_goals
  simp only [FT,TP,SB.tp,SI.tv,sta,IB.eval,and_true,true_and,ObsT,Ob.Tv,rowT,kix,In.tiv,↓tbvT,In.tbv,get_cons,get_nil,reduceIte,Nat.reduceEqDiff,Int.reduceToNat,Int.reduceAdd,Int.reduceSub,Int.reduceLE,Int.reduceLT,Int.reduceEq,ne_eq,Bool.false_eq_true,not_true_eq_false,not_false_eq_true,true_iff,false_iff,iff_true,iff_false,false_implies,implies_true,decT,decide_true,decide_false,Bool.decide_eq_true,ap2,pb2,FI_3,FI_8,FI_9,FI_10,FI_11,FI_12,FI_13,FB_10,FB_11,FB_12,FB_13,FB_14,FB_15,FB_16] at hf
 all_goals
  have a0:=ha.1 0 (by omega)
  have a1:=ha.1 1 (by omega)
 all_goals
  simp only [FT,TP,SB.tp,SI.tv,sta,IB.eval,and_true,true_and,ObsT,Ob.Tv,rowT,kix,In.tiv,↓tbvT,In.tbv,get_cons,get_nil,reduceIte,Nat.reduceEqDiff,Int.reduceToNat,Int.reduceAdd,Int.reduceSub,Int.reduceLE,Int.reduceLT,Int.reduceEq,ne_eq,Bool.false_eq_true,not_true_eq_false,not_false_eq_true,true_iff,false_iff,iff_true,iff_false,false_implies,implies_true,decT,decide_true,decide_false,Bool.decide_eq_true,ap2,pb2,FI_3,FI_8,FI_9,FI_10,FI_11,FI_12,FI_13,FB_10,FB_11,FB_12,FB_13,FB_14,FB_15,FB_16,eFits_inv,eFits_mu,eFits,o1,othT,b2,two,a0,a1] at hf hi ⊢
 all_goals
  first
  | omega
  | (have ha:inM (iv0 0):=by unfold inM;omega
     have hb:inM (iv0 1):=by unfold inM;omega
     rcases six ha with h | h | h | h | h | h<;>rcases six hb with h' | h' | h' | h' | h' | h'<;>first | omega | (simp only [h,h'];decide))
  | (simp only [inM,fitP,covP];constructor<;>first | omega | (split<;>omega))
  | (simp only [inM,fitP,covP];omega)
theorem eFits_c:LsC ((tm0 eFits Try.f19 (Try.f19.body.getD .skip))::[]) eFits.os [eFits_L0]:=by
 unfold eFits_L0
 exact ⟨List.forall_mem_cons.2 ⟨⟨⟨_,rfl,rfl⟩,by kernel_rfl⟩,List.forall_mem_cons.2 ⟨⟨⟨_,rfl,rfl⟩,by kernel_rfl⟩,List.forall_mem_cons.2 ⟨⟨⟨_,rfl,rfl⟩,by kernel_rfl⟩,List.forall_mem_cons.2 ⟨⟨⟨_,rfl,rfl⟩,by kernel_rfl⟩,List.forall_mem_cons.2 ⟨⟨⟨_,rfl,rfl⟩,by kernel_rfl⟩,List.forall_mem_cons.2 ⟨⟨⟨_,rfl,rfl⟩,by kernel_rfl⟩,List.forall_mem_cons.2 ⟨⟨⟨_,rfl,rfl⟩,by kernel_rfl⟩,List.forall_mem_cons.2 ⟨⟨⟨_,rfl,rfl⟩,by kernel_rfl⟩,List.forall_mem_cons.2 ⟨⟨⟨_,rfl,rfl⟩,by kernel_rfl⟩,List.forall_mem_cons.2 ⟨⟨⟨_,rfl,rfl⟩,by kernel_rfl⟩,List.forall_mem_nil _⟩⟩⟩⟩⟩⟩⟩⟩⟩⟩,trivial⟩
theorem eFits_ok:eFits.Ok Try.prog FI FB:=
 Con.of_plain (body:=Try.f19.body.getD .skip) pok fiok EntsFor.nil eFits Try.func19 (by kernel_rfl) 2 [] (by kernel_rfl) [eFits_L0] ⟨eFits_h0,trivial⟩ eFits_c
  eFits_inv eFits_mu (fun _ _ _=>trivial) fun kv iv0 bv0 hin hF k l iv bv hk ha hi=>match k,hk,hi with
  | 0,hk,hi=>by
    cases hk
    exact eFits_o0 kv iv0 bv0 hin hF iv bv ha hi
  | k+1,hk,_=>by simp at hk
noncomputable def rFits_L0:List Lf:=
 [(.fin [((.eq (.v 0) (.c 0)),.true)] 0 ⟨⟨[],[]⟩,[],[],[]⟩ [(.eb (.ap 12 (.v 0) (.v 1) (.c 0) (.c 0) (.c 0) (.c 0)) (.c .true))] []),(.fin [((.eq (.v 1) (.c 0)),.true),((.eq (.v 0) (.c 0)),.false)] 0 ⟨⟨[],[]⟩,[],[],[]⟩ [(.eb (.ap 12 (.v 0) (.v 1) (.c 0) (.c 0) (.c 0) (.c 0)) (.c .true))] []),(.fin [((.eq (.v 0) (.c 5)),.true),((.eq (.v 1) (.c 0)),.false),((.eq (.v 0) (.c 0)),.false)] 0 ⟨⟨[],[]⟩,[],[],[]⟩ [(.eb (.ap 12 (.v 0) (.v 1) (.c 0) (.c 0) (.c 0) (.c 0)) (.c .false))] []),(.fin [((.eq (.v 1) (.c 5)),.true),((.eq (.v 0) (.c 5)),.false),((.eq (.v 1) (.c 0)),.false),((.eq (.v 0) (.c 0)),.false)] 0 ⟨⟨[],[]⟩,[],[],[]⟩ [(.eb (.ap 12 (.v 0) (.v 1) (.c 0) (.c 0) (.c 0) (.c 0)) (.c .false))] []),(.fin [((.eq (.v 0) (.c 1)),.true),((.eq (.v 1) (.c 5)),.false),((.eq (.v 0) (.c 5)),.false),((.eq (.v 1) (.c 0)),.false),((.eq (.v 0) (.c 0)),.false)] 0 ⟨⟨[],[]⟩,[],[],[]⟩ [(.eb (.ap 12 (.v 0) (.v 1) (.c 0) (.c 0) (.c 0) (.c 0)) (.c .true))] []),(.fin [((.eq (.v 1) (.c 1)),.true),((.eq (.v 0) (.c 1)),.false),((.eq (.v 1) (.c 5)),.false),((.eq (.v 0) (.c 5)),.false),((.eq (.v 1) (.c 0)),.false),((.eq (.v 0) (.c 0)),.false)] 0 ⟨⟨[],[]⟩,[],[],[]⟩ [(.eb (.ap 12 (.v 0) (.v 1) (.c 0) (.c 0) (.c 0) (.c 0)) (.c .true))] []),(.fin [((.eq (.v 0) (.v 1)),.true),((.eq (.v 1) (.c 1)),.false),((.eq (.v 0) (.c 1)),.false),((.eq (.v 1) (.c 5)),.false),((.eq (.v 0) (.c 5)),.false),((.eq (.v 1) (.c 0)),.false),((.eq (.v 0) (.c 0)),.false)] 0 ⟨⟨[],[]⟩,[],[],[]⟩ [(.eb (.ap 12 (.v 0) (.v 1) (.c 0) (.c 0) (.c 0) (.c 0)) (.not (.eq (.v 0) (.c 4))))] []),(.fin [((.eq (.v 0) (.v 1)),.false),((.eq (.v 1) (.c 1)),.false),((.eq (.v 0) (.c 1)),.false),((.eq (.v 1) (.c 5)),.false),((.eq (.v 0) (.c 5)),.false),((.eq (.v 1) (.c 0)),.false),((.eq (.v 0) (.c 0)),.false)] 0 ⟨⟨[],[]⟩,[],[],[]⟩ [(.eb (.ap 12 (.v 0) (.v 1) (.c 0) (.c 0) (.c 0) (.c 0)) (.c .false))] [])]
theorem rFits_h0:(ex (ccOf Try.prog BF [58,84] rFits) ((fun _=>[]) (ccOf Try.prog BF [58,84] rFits)) (dw (ccOf Try.prog BF [58,84] rFits) ((fun _=>[]) (ccOf Try.prog BF [58,84] rFits)) 1000 4) (stopX []) 4000 (tm0 rFits Try.f25 (Try.f25.body.getD .skip)).f (tm0 rFits Try.f25 (Try.f25.body.getD .skip)).fs (tm0 rFits Try.f25 (Try.f25.body.getD .skip)).H).lfs (ccOf Try.prog BF [58,84] rFits) ((tm0 rFits Try.f25 (Try.f25.body.getD .skip))::[]) rFits.os=some rFits_L0:=by kernel_rfl
def rFits_inv:(Nat→Int)→(Nat→Bool)→Nat→(Nat→Int)→(Nat→Bool)→Prop:=fun _ _ _ _ _=>True
def rFits_mu:(Nat→Int)→(Nat→Bool)→Nat→(Nat→Int)→(Nat→Bool)→Nat:=fun _ _ _ _ _=>0
theorem rFits_o0 (kv:Kv) (iv0:Nat→Int) (bv0:Nat→Bool) (hin:InB rFits.B iv0) (hF:FT (sta FI FB kv iv0 bv0) (dlt dyn0) rFits.F) (iv:Nat→Int) (bv:Nat→Bool) (ha:Agr 2 iv0 bv0 iv bv) (hi:rFits_inv iv0 bv0 0 iv bv) :
  ∀ lf∈rFits_L0,LfT (sta FI FB kv) rFits.os (rFits_inv iv0 bv0) (rFits_mu iv0 bv0) 0 iv bv lf:=by
 unfold rFits_L0
 refine List.forall_mem_cons.2 ⟨?_,List.forall_mem_cons.2 ⟨?_,List.forall_mem_cons.2 ⟨?_,List.forall_mem_cons.2 ⟨?_,List.forall_mem_cons.2 ⟨?_,List.forall_mem_cons.2 ⟨?_,List.forall_mem_cons.2 ⟨?_,List.forall_mem_cons.2 ⟨?_,List.forall_mem_nil _⟩⟩⟩⟩⟩⟩⟩⟩
 all_goals
  intro δ hf
 all_goals
  simp only [FT,TP,SB.tp,SI.tv,sta,IB.eval,and_true,true_and,ObsT,Ob.Tv,rowT,kix,In.tiv,↓tbvT,In.tbv,get_cons,get_nil,reduceIte,Nat.reduceEqDiff,Int.reduceToNat,Int.reduceAdd,Int.reduceSub,Int.reduceLE,Int.reduceLT,Int.reduceEq,ne_eq,Bool.false_eq_true,not_true_eq_false,not_false_eq_true,true_iff,false_iff,iff_true,iff_false,false_implies,implies_true,decT,decide_true,decide_false,Bool.decide_eq_true,ap2,pb2,FI_3,FI_8,FI_9,FI_10,FI_11,FI_12,FI_13,FB_10,FB_11,FB_12,FB_13,FB_14,FB_15,FB_16] at hf
 all_goals
  have a0:=ha.1 0 (by omega)
  have a1:=ha.1 1 (by omega)
 all_goals
  simp only [FT,TP,SB.tp,SI.tv,sta,IB.eval,and_true,true_and,ObsT,Ob.Tv,rowT,kix,In.tiv,↓tbvT,In.tbv,get_cons,get_nil,reduceIte,Nat.reduceEqDiff,Int.reduceToNat,Int.reduceAdd,Int.reduceSub,Int.reduceLE,Int.reduceLT,Int.reduceEq,ne_eq,Bool.false_eq_true,not_true_eq_false,not_false_eq_true,true_iff,false_iff,iff_true,iff_false,false_implies,implies_true,decT,decide_true,decide_false,Bool.decide_eq_true,ap2,pb2,FI_3,FI_8,FI_9,FI_10,FI_11,FI_12,FI_13,FB_10,FB_11,FB_12,FB_13,FB_14,FB_15,FB_16,rFits_inv,rFits_mu,rFits,o1,othT,b2,two,a0,a1] at hf hi ⊢
 all_goals
  first
  | omega
  | (have ha:inM (iv0 0):=by unfold inM;omega
     have hb:inM (iv0 1):=by unfold inM;omega
     rcases six ha with h | h | h | h | h | h<;>rcases six hb with h' | h' | h' | h' | h' | h'<;>first | omega | (simp only [h,h'];decide))
  | (simp only [inM,fitP,covP];constructor<;>first | omega | (split<;>omega))
  | (simp only [inM,fitP,covP];omega)
theorem rFits_c:LsC ((tm0 rFits Try.f25 (Try.f25.body.getD .skip))::[]) rFits.os [rFits_L0]:=by
 unfold rFits_L0
 exact ⟨List.forall_mem_cons.2 ⟨⟨⟨_,rfl,rfl⟩,by kernel_rfl⟩,List.forall_mem_cons.2 ⟨⟨⟨_,rfl,rfl⟩,by kernel_rfl⟩,List.forall_mem_cons.2 ⟨⟨⟨_,rfl,rfl⟩,by kernel_rfl⟩,List.forall_mem_cons.2 ⟨⟨⟨_,rfl,rfl⟩,by kernel_rfl⟩,List.forall_mem_cons.2 ⟨⟨⟨_,rfl,rfl⟩,by kernel_rfl⟩,List.forall_mem_cons.2 ⟨⟨⟨_,rfl,rfl⟩,by kernel_rfl⟩,List.forall_mem_cons.2 ⟨⟨⟨_,rfl,rfl⟩,by kernel_rfl⟩,List.forall_mem_cons.2 ⟨⟨⟨_,rfl,rfl⟩,by kernel_rfl⟩,List.forall_mem_nil _⟩⟩⟩⟩⟩⟩⟩⟩,trivial⟩
theorem rFits_ok:rFits.Ok Try.prog FI FB:=
 Con.of_plain (body:=Try.f25.body.getD .skip) pok fiok EntsFor.nil rFits Try.func25 (by kernel_rfl) 2 [] (by kernel_rfl) [rFits_L0] ⟨rFits_h0,trivial⟩ rFits_c
  rFits_inv rFits_mu (fun _ _ _=>trivial) fun kv iv0 bv0 hin hF k l iv bv hk ha hi=>match k,hk,hi with
  | 0,hk,hi=>by
    cases hk
    exact rFits_o0 kv iv0 bv0 hin hF iv bv ha hi
  | k+1,hk,_=>by simp at hk
end Go.Sx.Mhw
