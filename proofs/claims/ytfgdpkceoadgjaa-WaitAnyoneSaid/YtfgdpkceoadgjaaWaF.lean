/- Who waits: the functions, by contract. -/
import Derived.Test.YtfgdpkceoadgjaaWaE
namespace Go.Sx.Mhw
set_option linter.unusedVariables false
set_option linter.unusedSimpArgs false
set_option maxRecDepth 100000
noncomputable section
open Go Go.Sx Go.Proofs
def setW (c i x0 x1 x2 x3 x4:SI):SI:=.ap 8 (.ap 8 (.ap 8 (.ap 8 (.ap 8 c i (.c 0) x0 (.c 0) (.c 0)) i (.c 1) x1 (.c 0) (.c 0)) i (.c 2) x2 (.c 0) (.c 0)) i (.c 3) x3 (.c 0) (.c 0)) i (.c 4) x4 (.c 0) (.c 0)
def nW (c n:SI):List (Nat×Bk):=[(0,.arr kW c n 84 (.d 0))]
def fnd:SI:=ap3 30 (.v 4)
def wCheck:Con:=⟨73,[0,1,2,3],[lW],gW,bW,fM,[⟨[(pb2 30,true)],.it .i64 (.c 0),[],0,0,[]⟩,⟨[(pb2 30,false)],.it .i64 (.c 2),[],0,0,[]⟩]⟩
def oEr (cs:List (SB×Bool)) (n:Int):Out:=⟨cs,.tp [.sn,.it .i64 (.c n)],[],0,0,[]⟩
def wV:SV:=.ag (ints [4,5,6,7,8])
def oAddW:List Out:=[oEr [(pb2 30,false)] 2,oEr [(pb2 30,true),(mayV 4,false)] 2,oEr [(pb2 30,true),(mayV 4,true),(.le (.c 0) fnd,true)] 220,
 ⟨[(pb2 30,true),(mayV 4,true),(.le (.c 0) fnd,false)],.tp [.sl (.n 0) (.c 0) (.op .add (.v 1) (.c 1)) (.d 0),.it .i64 (.c 0)],nW (setW (.v 0) (.v 1) (.v 4) (.v 5) (.v 6) (.v 7) (.v 8)) (.op .add (.v 1) (.c 1)),1,1,[(.le (.op .add (.v 1) (.c 1)) (.d 0),true),(.le (.v 1) (.c 256),true)]⟩]
def bAddW:List (Nat×Int×Int):=lapp (i64s [4,5,6,7,8]) bW
def oDropW:List Out:=[oEr [(pb2 30,false)] 2,oEr [(pb2 30,true),(.le (.c 0) fnd,false)] 5,
 ⟨[(pb2 30,true),(.le (.c 0) fnd,true)],.tp [.sl (.n 0) (.c 0) (.op .add (.v 1) (.c (-1))) (.d 0),.it .i64 (.c 0)],nW (ap3 31 fnd) (.op .add (.v 1) (.c (-1))),1,1,[(.le (.op .add (.v 1) (.c (-1))) (.d 0),true),(.le (.v 1) (.c 256),true),(.lt (.c 0) (.v 1),true)]⟩]
def bF:List (Nat×Int×Int):=i64b 4::bW
def zW:SV:=.ag [.it .i64 (.c 0),.it .i64 (.c 0),.it .i64 (.c 0),.it .i64 (.c 0),.it .i64 (.c 0)]
def oEg (cs:List (SB×Bool)) (n:Int):Out:=⟨cs,.tp [.sn,zW,.it .i64 (.c n)],[],0,0,[]⟩
def rowW (c i:SI):SV:=.ag [.it .i64 (.ap 3 c i (.c 0) (.c 0) (.c 0) (.c 0)),.it .i64 (.ap 3 c i (.c 1) (.c 0) (.c 0) (.c 0)),.it .i64 (.ap 3 c i (.c 2) (.c 0) (.c 0) (.c 0)),.it .i64 (.ap 3 c i (.c 3) (.c 0) (.c 0) (.c 0)),.it .i64 (.ap 3 c i (.c 4) (.c 0) (.c 0) (.c 0))]
def oGrtW:List Out:=[oEg [(pb2 30,false)] 2,oEg [(pb2 30,true),(.le (.c 0) (.v 4),false)] 4,oEg [(pb2 30,true),(.le (.c 0) (.v 4),true),(.lt (.v 4) (.v 1),false)] 4,
 ⟨[(pb2 30,true),(.le (.c 0) (.v 4),true),(.lt (.v 4) (.v 1),true)],.tp [.sl (.n 0) (.c 0) (.op .add (.v 1) (.c (-1))) (.d 0),rowW (.v 0) (.v 4),.it .i64 (.c 0)],nW (ap3 33 (.v 4)) (.op .add (.v 1) (.c (-1))),1,1,[(.le (.op .add (.v 1) (.c (-1))) (.d 0),true),(.le (.v 1) (.c 256),true),(.lt (.c 0) (.v 1),true)]⟩]
def lW2:SV:=.sl (.k 1) (.v 6) (.v 5) (.v 7)
def gW2:List Gv:=[⟨0,.v 2,kW,0,.v 1⟩,⟨1,.v 6,kW,4,.v 5⟩]
def bW2:List (Nat×Int×Int):=[(1,0,1000),(2,0,-1),(5,0,1000),(6,0,-1)]
def fM2:List (SB×Bool):=[(.le (.v 1) (.v 3),true),(.le (.c 0) (.v 3),true),(.le (.v 5) (.v 7),true),(.le (.c 0) (.v 7),true)]
def wCheck_L0:List Lf:=
 [(.fin [((.ap 30 (.v 0) (.v 1) (.c 0) (.c 0) (.c 0) (.c 0)),.true),((.le (.v 1) (.v 3)),.true),((.le (.c 0) (.v 3)),.true)] 0 ⟨⟨[],[]⟩,[],[],[]⟩ [] []),(.fin [((.ap 30 (.v 0) (.v 1) (.c 0) (.c 0) (.c 0) (.c 0)),.false),((.le (.v 1) (.v 3)),.true),((.le (.c 0) (.v 3)),.true)] 1 ⟨⟨[],[]⟩,[],[],[]⟩ [] [])]
theorem wCheck_h0:(ex (ccOf Try.prog BF [58,84] wCheck) ((fun cc=>[wRight.ent cc]) (ccOf Try.prog BF [58,84] wCheck)) (dw (ccOf Try.prog BF [58,84] wCheck) ((fun cc=>[wRight.ent cc]) (ccOf Try.prog BF [58,84] wCheck)) 1000 4) (stopX []) 4000 (tm0 wCheck Try.f73 (Try.f73.body.getD .skip)).f (tm0 wCheck Try.f73 (Try.f73.body.getD .skip)).fs (tm0 wCheck Try.f73 (Try.f73.body.getD .skip)).H).lfs (ccOf Try.prog BF [58,84] wCheck) ((tm0 wCheck Try.f73 (Try.f73.body.getD .skip))::[]) wCheck.os=some wCheck_L0:=by kernel_rfl
def wCheck_inv:(Nat→Int)→(Nat→Bool)→Nat→(Nat→Int)→(Nat→Bool)→Prop:=fun _ _ _ _ _=>True
def wCheck_mu:(Nat→Int)→(Nat→Bool)→Nat→(Nat→Int)→(Nat→Bool)→Nat:=fun _ _ _ _ _=>0
set_option maxHeartbeats 0 in
theorem wCheck_o0 (kv:Kv) (iv0:Nat→Int) (bv0:Nat→Bool) (hin:InB wCheck.B iv0) (hF:FT (sta FI FB kv iv0 bv0) (dlt dyn0) wCheck.F) (iv:Nat→Int) (bv:Nat→Bool) (ha:Agr 4 iv0 bv0 iv bv) (hi:wCheck_inv iv0 bv0 0 iv bv) :
  ∀ lf∈wCheck_L0,LfT (sta FI FB kv) wCheck.os (wCheck_inv iv0 bv0) (wCheck_mu iv0 bv0) 0 iv bv lf:=by
 unfold wCheck_L0
 refine List.forall_mem_cons.2 ⟨?_,List.forall_mem_cons.2 ⟨?_,List.forall_mem_nil _⟩⟩
 all_goals
  intro δ hf
 all_goals
  simp only [FT,TP,SB.tp,SI.tv,sta,IB.eval,and_true,true_and,ObsT,Ob.Tv,rowT,kix,In.tiv,↓tbvT,In.tbv,get_cons,get_nil,reduceIte,Nat.reduceEqDiff,Int.reduceToNat,Int.reduceAdd,Int.reduceSub,Int.reduceLE,Int.reduceLT,Int.reduceEq,ne_eq,Bool.false_eq_true,not_true_eq_false,not_false_eq_true,true_iff,false_iff,iff_true,iff_false,false_implies,implies_true,decT,decide_true,decide_false,Bool.decide_eq_true,ap2,pb2,FI_3,FI_8,FI_9,FI_10,FI_11,FI_12,FI_13,FB_10,FB_11,FB_12,FB_13,FB_14,FB_15,FB_16,FI_30,FI_31,FI_32,FI_33,FB_30,FB_31,FB_32,FB_33,FI_3g,FI_8m,Int.toNat_natCast,Int.toNat_zero] at hf
 all_goals
  have a0:=ha.1 0 (by omega)
  have a1:=ha.1 1 (by omega)
  have a2:=ha.1 2 (by omega)
  have a3:=ha.1 3 (by omega)
 all_goals
  have b1:=hin 1 0 1000 (by simp [wCheck,bW,gW,fM,lW,ap3,pb3,pb4,ints,mayV,i64s,i64b,kW,two,b2,lmap,setW,fnd,nW,oEr,wV,oAddW,bAddW,oDropW,bF,zW,oEg,rowW,oGrtW,lW2,gW2,bW2,fM2,lapp])
  simp only [Int.reduceLE,reduceIte,Int.reduceNeg] at b1
 all_goals
  simp only [FT,TP,SB.tp,SI.tv,sta,IB.eval,and_true,true_and,ObsT,Ob.Tv,rowT,kix,In.tiv,↓tbvT,In.tbv,get_cons,get_nil,reduceIte,Nat.reduceEqDiff,Int.reduceToNat,Int.reduceAdd,Int.reduceSub,Int.reduceLE,Int.reduceLT,Int.reduceEq,ne_eq,Bool.false_eq_true,not_true_eq_false,not_false_eq_true,true_iff,false_iff,iff_true,iff_false,false_implies,implies_true,decT,decide_true,decide_false,Bool.decide_eq_true,ap2,pb2,FI_3,FI_8,FI_9,FI_10,FI_11,FI_12,FI_13,FB_10,FB_11,FB_12,FB_13,FB_14,FB_15,FB_16,FI_30,FI_31,FI_32,FI_33,FB_30,FB_31,FB_32,FB_33,FI_3g,FI_8m,Int.toNat_natCast,Int.toNat_zero,wCheck_inv,wCheck_mu,wCheck,o1,othT,bW,gW,fM,lW,ap3,pb3,pb4,ints,mayV,i64s,i64b,kW,two,b2,lmap,setW,fnd,nW,oEr,wV,oAddW,bAddW,oDropW,bF,zW,oEg,rowW,oGrtW,lW2,gW2,bW2,fM2,lapp,a0,a1,a2,a3] at hf hi ⊢
 all_goals
  (repeat' (with_reducible apply And.intro))<;>first
  | omega
  | assumption
  | (unfold inM;omega)
  | (clear hin hF ha;grind)
theorem wCheck_c:LsC ((tm0 wCheck Try.f73 (Try.f73.body.getD .skip))::[]) wCheck.os [wCheck_L0]:=by
 unfold wCheck_L0
 exact ⟨List.forall_mem_cons.2 ⟨⟨⟨_,rfl,rfl⟩,by kernel_rfl⟩,List.forall_mem_cons.2 ⟨⟨⟨_,rfl,rfl⟩,by kernel_rfl⟩,List.forall_mem_nil _⟩⟩,trivial⟩
theorem wCheck_ok:wCheck.Ok Try.prog FI FB:=
 Con.of_plain (body:=Try.f73.body.getD .skip) pok fiok (EntsFor.cons wRight_ok EntsFor.nil) wCheck Try.func73 (by kernel_rfl) 4 [] (by kernel_rfl) [wCheck_L0] ⟨wCheck_h0,trivial⟩ wCheck_c
  wCheck_inv wCheck_mu (fun _ _ _=>trivial) fun kv iv0 bv0 hin hF k l iv bv hk ha hi=>match k,hk,hi with
  | 0,hk,hi=>by
    cases hk
    exact wCheck_o0 kv iv0 bv0 hin hF iv bv ha hi
  | k+1,hk,_=>by simp at hk
end
end Go.Sx.Mhw
