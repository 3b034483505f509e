/- Sorting: SortFunc. -/
import Derived.Test.YtfgdpkceoadgjaaSoE
namespace Go.Sx.Mhw
set_option linter.unusedVariables false
set_option linter.unusedSimpArgs false
set_option maxRecDepth 100000
set_option maxHeartbeats 0
noncomputable section
open Go Go.Sx Go.Proofs
def srtC (c n lim:SI):SI:=.ap 53 c n (.c 0) n (.ap 57 n (.c 0) (.c 0) (.c 0) (.c 0) (.c 0)) lim
def uSrt:Com:=⟨116,[0,1,2,3,4],[dU,cmpV],mU (.v 0),1,bU,fU,[⟨[],.tp [],mU (srtC (.v 0) (.v 1) (.v 4)),1,0,[]⟩],.c 0⟩
def uSrt0:Con:=⟨116,[0,1,2,3,4],[.sn,cmpV],[],[i64b 4],[],o1 (.tp [])⟩
def uSrt_L0:List Lf:=
 let x0_:SI:=(.ap 57 (.v 1) (.c 0) (.c 0) (.c 0) (.c 0) (.c 0))
 [(.fin ([((.le (.c 0) x0_),.true),((.le x0_ (.c 10)),.true),((.le (.v 1) (.v 2)),.true),((.le (.v 1) (.v 3)),.true)]) 0 ⟨⟨[],[]⟩,[(0,0)],[],[]⟩ [] [.none])]
theorem uSrt_h0:(ex (ccM Try.prog BF [58,84]) ((fun cc=>[uPdq.ent cc,uLen.ent cc]) (ccM Try.prog BF [58,84])) (dw (ccM Try.prog BF [58,84]) ((fun cc=>[uPdq.ent cc,uLen.ent cc]) (ccM Try.prog BF [58,84])) 1000 4) (stopX []) 4000 (tmM uSrt Try.f116 (Try.f116.body.getD .skip)).f (tmM uSrt Try.f116 (Try.f116.body.getD .skip)).fs (tmM uSrt Try.f116 (Try.f116.body.getD .skip)).H).lfsM 1 (ccM Try.prog BF [58,84]) ((tmM uSrt Try.f116 (Try.f116.body.getD .skip))::[]) uSrt.os=some uSrt_L0:=by kernel_rfl
def uSrt_inv:(Nat→Int)→(Nat→Bool)→Nat→(Nat→Int)→(Nat→Bool)→Prop:=fun _ _ _ _ _=>True
def uSrt_mu:(Nat→Int)→(Nat→Bool)→Nat→(Nat→Int)→(Nat→Bool)→Nat:=fun _ _ _ _ _=>0
theorem uSrt_o0 (kv:Kv) (iv0:Nat→Int) (bv0:Nat→Bool) (hin:InB uSrt.B iv0) (hF:FT (sta FI FB kv iv0 bv0) (dlt dyn0) uSrt.F) (iv:Nat→Int) (bv:Nat→Bool) (ha:Agr 5 iv0 bv0 iv bv) (hi:uSrt_inv iv0 bv0 0 iv bv) :
  ∀ lf∈uSrt_L0,LfT (sta FI FB kv) uSrt.os (uSrt_inv iv0 bv0) (uSrt_mu iv0 bv0) 0 iv bv lf:=by
 unfold uSrt_L0
 refine List.forall_mem_cons.2 ⟨?_,List.forall_mem_nil _⟩
 all_goals
  intro δ hf
 all_goals
  simp only [FT,TP,SB.tp,SI.tv,sta,IB.eval,and_true,true_and,ObsT,Ob.Tv,rowT,kix,In.tiv,↓tbvT,In.tbv,get_cons,get_nil,reduceIte,Nat.reduceEqDiff,Int.reduceToNat,Int.reduceAdd,Int.reduceSub,Int.reduceLE,Int.reduceLT,Int.reduceEq,ne_eq,Bool.false_eq_true,not_true_eq_false,not_false_eq_true,true_iff,false_iff,iff_true,iff_false,false_implies,implies_true,decT,decide_true,decide_false,Bool.decide_eq_true,ap2,pb2,FI_3,FI_8,FI_9,FI_3g,FI_8m,Int.toNat_natCast,Int.toNat_zero,FI_53,FI_57] at hf
 all_goals
  have a0:=ha.1 0 (by omega)
  have a1:=ha.1 1 (by omega)
  have a2:=ha.1 2 (by omega)
  have a3:=ha.1 3 (by omega)
  have a4:=ha.1 4 (by omega)
 all_goals
  have b1:=hin 1 0 1000 (by simp [uSrt,kU,ints,i64s,lmap,i64b,dU,cmpV,mU,bU,fU,leF,ltF,tU,nu,mS,ltAt,mS',tM,tC,tP,pP,pC,srtC])
  simp only [Int.reduceLE,reduceIte,Int.reduceNeg] at b1
 all_goals
  have b4:=hin 4 (-9223372036854775808) 9223372036854775807 (by simp [uSrt,kU,ints,i64s,lmap,i64b,dU,cmpV,mU,bU,fU,leF,ltF,tU,nu,mS,ltAt,mS',tM,tC,tP,pP,pC,srtC])
  simp only [Int.reduceLE,reduceIte,Int.reduceNeg] at b4
 all_goals
  simp only [FT,TP,SB.tp,SI.tv,sta,IB.eval,and_true,true_and,ObsT,Ob.Tv,rowT,kix,In.tiv,↓tbvT,In.tbv,get_cons,get_nil,reduceIte,Nat.reduceEqDiff,Int.reduceToNat,Int.reduceAdd,Int.reduceSub,Int.reduceLE,Int.reduceLT,Int.reduceEq,ne_eq,Bool.false_eq_true,not_true_eq_false,not_false_eq_true,true_iff,false_iff,iff_true,iff_false,false_implies,implies_true,decT,decide_true,decide_false,Bool.decide_eq_true,ap2,pb2,FI_3,FI_8,FI_9,FI_3g,FI_8m,Int.toNat_natCast,Int.toNat_zero,FI_53,FI_57,uSrt_inv,uSrt_mu,uSrt,o1,othT,kU,ints,i64s,lmap,i64b,dU,cmpV,mU,bU,fU,leF,ltF,tU,nu,mS,ltAt,mS',tM,tC,tP,pP,pC,srtC,a0,a1,a2,a3,a4] at hf hi ⊢
 all_goals
  (repeat' (with_reducible apply And.intro))<;>first
  | omega
  | assumption
  | (unfold inM;omega)
theorem uSrt_c:LsCM 1 ((tmM uSrt Try.f116 (Try.f116.body.getD .skip))::[]) uSrt.os [uSrt_L0]:=by
 unfold uSrt_L0
 exact ⟨List.forall_mem_cons.2 ⟨⟨⟨⟨_,rfl,rfl⟩,by kernel_rfl⟩,by kernel_rfl⟩,List.forall_mem_nil _⟩,trivial⟩
theorem uSrt_ok:uSrt.Ok Try.prog FI FB:=
 Com.of_plain (body:=Try.f116.body.getD .skip) pok fiok (EntsFor.consM uPdq_ok (EntsFor.cons uLen_ok EntsFor.nil)) uSrt Try.func116 (by kernel_rfl) 5 [] (by kernel_rfl) [uSrt_L0] ⟨uSrt_h0,trivial⟩ uSrt_c
  uSrt_inv uSrt_mu (fun _ _ _=>trivial) fun kv iv0 bv0 hin hF k l iv bv hk ha hi=>match k,hk,hi with
  | 0,hk,hi=>by
    cases hk
    exact uSrt_o0 kv iv0 bv0 hin hF iv bv ha hi
  | k+1,hk,_=>by simp at hk
def uSrt0_L0:List Lf:=
 let x0_:SI:=(.ap 57 (.c 0) (.c 0) (.c 0) (.c 0) (.c 0) (.c 0))
 [(.fin ([((.le (.c 0) x0_),.true),((.le x0_ (.c 10)),.true)]) 0 ⟨⟨[],[]⟩,[],[],[]⟩ [] [])]
theorem uSrt0_h0:(ex (ccOf Try.prog BF [58,84] uSrt0) ((fun cc=>[uLen.ent cc]) (ccOf Try.prog BF [58,84] uSrt0)) (dw (ccOf Try.prog BF [58,84] uSrt0) ((fun cc=>[uLen.ent cc]) (ccOf Try.prog BF [58,84] uSrt0)) 1000 4) (stopX [0,1,2,3,4,5,6,7,8,9,10,11,12,13,14,15,16,17,18,19,20,21,22,23,24,25,26,27,28,29,30,31,32,33,34,35,36,37,38,39,40,41,42,43,44,45,46,47,48,49,50,51,52,53,54,55,56,57,58,59,60,61,62,63,64,65,66,67,68,69,70,71,72,73,74,75,76,77,78,79,80,81,82,83,84,85,86,87,88,89,90,91,92,93,94,95,96,97,98,99,100,101,102,103,104,105,106,107,108,109,110,111,112,113,114,115,116,117,118,119,120,121,122,123,124,125,126,127,128,129,130,131,132,133,134,135,136,137,138,139,140,141,142,143,144,145,146,147,148,149,150,151,152,153,154,155,156,157,158,159,160,161,162,163,164,165,166,167,168,169,170,171,172,173,174,175,176,177,178,179,180,181,182,183,184,185,186,187,188,189,190,191,192,193,194,195,196,197,198,199,200,201,202,203,204,205,206,207,208,209,210,211,212,213,214,215,216,217,218,219,220,221,222,223,224,225,226,227,228,229,230,231,232,233,234,235,236,237,238,239,240,241,242,243,244,245,246,247,248,249]) 4000 (tm0 uSrt0 Try.f116 (Try.f116.body.getD .skip)).f (tm0 uSrt0 Try.f116 (Try.f116.body.getD .skip)).fs (tm0 uSrt0 Try.f116 (Try.f116.body.getD .skip)).H).lfs (ccOf Try.prog BF [58,84] uSrt0) ((tm0 uSrt0 Try.f116 (Try.f116.body.getD .skip))::[]) uSrt0.os=some uSrt0_L0:=by kernel_rfl
def uSrt0_inv:(Nat→Int)→(Nat→Bool)→Nat→(Nat→Int)→(Nat→Bool)→Prop:=fun _ _ _ _ _=>True
def uSrt0_mu:(Nat→Int)→(Nat→Bool)→Nat→(Nat→Int)→(Nat→Bool)→Nat:=fun _ _ _ _ _=>0
theorem uSrt0_o0 (kv:Kv) (iv0:Nat→Int) (bv0:Nat→Bool) (hin:InB uSrt0.B iv0) (hF:FT (sta FI FB kv iv0 bv0) (dlt dyn0) uSrt0.F) (iv:Nat→Int) (bv:Nat→Bool) (ha:Agr 5 iv0 bv0 iv bv) (hi:uSrt0_inv iv0 bv0 0 iv bv) :
  ∀ lf∈uSrt0_L0,LfT (sta FI FB kv) uSrt0.os (uSrt0_inv iv0 bv0) (uSrt0_mu iv0 bv0) 0 iv bv lf:=by
 unfold uSrt0_L0
 refine List.forall_mem_cons.2 ⟨?_,List.forall_mem_nil _⟩
 all_goals
  intro δ hf
 all_goals
  simp only [FT,TP,SB.tp,SI.tv,sta,IB.eval,and_true,true_and,ObsT,Ob.Tv,rowT,kix,In.tiv,↓tbvT,In.tbv,get_cons,get_nil,reduceIte,Nat.reduceEqDiff,Int.reduceToNat,Int.reduceAdd,Int.reduceSub,Int.reduceLE,Int.reduceLT,Int.reduceEq,ne_eq,Bool.false_eq_true,not_true_eq_false,not_false_eq_true,true_iff,false_iff,iff_true,iff_false,false_implies,implies_true,decT,decide_true,decide_false,Bool.decide_eq_true,ap2,pb2,FI_3,FI_8,FI_9,FI_3g,FI_8m,Int.toNat_natCast,Int.toNat_zero,FI_57] at hf
 all_goals
  have a0:=ha.1 0 (by omega)
  have a1:=ha.1 1 (by omega)
  have a2:=ha.1 2 (by omega)
  have a3:=ha.1 3 (by omega)
  have a4:=ha.1 4 (by omega)
 all_goals
  simp only [FT,TP,SB.tp,SI.tv,sta,IB.eval,and_true,true_and,ObsT,Ob.Tv,rowT,kix,In.tiv,↓tbvT,In.tbv,get_cons,get_nil,reduceIte,Nat.reduceEqDiff,Int.reduceToNat,Int.reduceAdd,Int.reduceSub,Int.reduceLE,Int.reduceLT,Int.reduceEq,ne_eq,Bool.false_eq_true,not_true_eq_false,not_false_eq_true,true_iff,false_iff,iff_true,iff_false,false_implies,implies_true,decT,decide_true,decide_false,Bool.decide_eq_true,ap2,pb2,FI_3,FI_8,FI_9,FI_3g,FI_8m,Int.toNat_natCast,Int.toNat_zero,FI_57,uSrt0_inv,uSrt0_mu,uSrt0,o1,othT,kU,ints,i64s,lmap,i64b,dU,cmpV,mU,bU,fU,leF,ltF,tU,nu,mS,ltAt,mS',tM,tC,tP,pP,pC,srtC,a0,a1,a2,a3,a4] at hf hi ⊢
 all_goals
  (repeat' (with_reducible apply And.intro))<;>first
  | omega
  | assumption
  | (unfold inM;omega)
theorem uSrt0_c:LsC ((tm0 uSrt0 Try.f116 (Try.f116.body.getD .skip))::[]) uSrt0.os [uSrt0_L0]:=by
 unfold uSrt0_L0
 exact ⟨List.forall_mem_cons.2 ⟨⟨⟨_,rfl,rfl⟩,by kernel_rfl⟩,List.forall_mem_nil _⟩,trivial⟩
theorem uSrt0_ok:uSrt0.Ok Try.prog FI FB:=
 Con.of_plain (body:=Try.f116.body.getD .skip) pok fiok (EntsFor.cons uLen_ok EntsFor.nil) uSrt0 Try.func116 (by kernel_rfl) 5 [] (by kernel_rfl) [uSrt0_L0] ⟨uSrt0_h0,trivial⟩ uSrt0_c
  uSrt0_inv uSrt0_mu (fun _ _ _=>trivial) fun kv iv0 bv0 hin hF k l iv bv hk ha hi=>match k,hk,hi with
  | 0,hk,hi=>by
    cases hk
    exact uSrt0_o0 kv iv0 bv0 hin hF iv bv ha hi
  | k+1,hk,_=>by simp at hk
end
end Go.Sx.Mhw
