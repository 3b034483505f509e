/- The order of asking: by both packages. -/
import Derived.Test.YtfgdpkceoadgjaaSoG
import Derived.Test.YtfgdpkceoadgjaaWaE
namespace Go.Sx.Mhw
set_option linter.unusedVariables false
set_option linter.unusedSimpArgs false
set_option linter.unusedSectionVars false
set_option maxRecDepth 100000
set_option maxHeartbeats 0
noncomputable section
open Go Go.Sx Go.Proofs
def bFo:List (Nat×Int×Int):=i64b 4::bW
def cap64:List (SB×Bool):=[(.le (.c 0) (.v 4),true),(.le (.v 4) (.c 64),true)]
def fnO:SV:=.fn 118 [] [.pt (.n 0) (.c 0)]
def ap60:SI:=.ap 60 (.v 0) (.v 1) (.v 4) (.c 0) (.c 0) (.c 0)
def ap61:SI:=.ap 61 (.v 0) (.v 1) (.v 4) (.c 0) (.c 0) (.c 0)
def oNo (cs:List (SB×Bool)):Out:=⟨cs,fnO,[(0,.cells [.sn] 156)],1,0,[]⟩
def oOrd:List Out:=[oNo [(pb2 30,false)],oNo [(pb2 30,true),(.le (.c 0) (.v 4),false)],oNo [(pb2 30,true),(.le (.c 0) (.v 4),true),(.le (.v 4) (.c 64),false)],oNo [(pb2 30,true),(.le (.c 0) (.v 4),true),(.le (.v 4) (.c 64),true),(.lt (.c 0) (.v 1),false)],
 ⟨[(pb2 30,true),(.le (.c 0) (.v 4),true),(.le (.v 4) (.c 64),true),(.lt (.c 0) (.v 1),true)],fnO,[(0,.cells [.sl (.n 1) (.c 0) (.v 1) (.d 0)] 156),(1,.arr kU ap60 (.v 1) 158 (.d 0))],2,1,[(.le (.v 1) (.d 0),true),(.le (.v 1) (.c 256),true)]⟩]
def qOrd:Con:=⟨65,[0,1,2,3,4],[lW,.it .i64 (.v 4)],gW,bFo,fM,oOrd⟩
section
variable {c lim p i:Int} (h0:0≤i)
include h0
end
def undR (c d i:Int):Prop:=∀ j:Nat,(j:Int) < i→∀ f:Nat,f < 6→fl d j f=if f=5 then (j:Int) else fl c j f
theorem und_app {c d i:Int} (h0:0≤i) (hi:i≤1000) (h:undR c d i) :
  undR c (setC (setC (setC (setC (setC (setC d i 0 (fl c i.toNat 0)) i 1 (fl c i.toNat 1)) i 2 (fl c i.toNat 2)) i 3 (fl c i.toNat 3)) i 4 (fl c i.toNat 4)) i 5 i) (i+1):=by
 intro j hj f hf
 have hw:∀ (a b:Nat),IntKind.i64.wrap (fl c a b)=fl c a b:=fun a b=>wrap_in .i64 _ (fl_has c a b).1 (fl_has c a b).2
 have hi':IntKind.i64.wrap i=i:=wrap_in .i64 _ (by show (-9223372036854775808:Int)≤i;omega) (by show i≤(9223372036854775807:Int);omega)
 have h6:f=0∨f=1∨f=2∨f=3∨f=4∨f=5:=by omega
 simp only [fl_set,hw,hi']
 by_cases e:j=i.toNat
 ·subst e
  rcases h6 with rfl | rfl | rfl | rfl | rfl | rfl<;>simp<;>omega
 ·have h':=h j (by omega) f hf
  simp only [e,false_and,if_false];exact h'
theorem und_fin {c d n m lim:Int} (hm:m=n) (hn:n≤1000) (h:undR c d m):pdqU d m 0 m ((Sort.bitsLen m.toNat:Nat):Int) lim=srtW c n lim:=by
 subst hm
 refine srtW_eq (arrOf_ext (size_arrOf ..) fun j hj=>?_)
 rw [get_arrOf hj]
 apply Subtype.ext;funext f
 show rowF d j f=rowF (undC c m) j f
 unfold rowF
 split
 ·rename_i hf
  rw [h j hj f hf,fl_undC hj hn hf]
 ·rfl
def qOrd_T1:Tm:=⟨⟨65,37,[(20,(.it .i64 (.c 0))),(19,(.it .i64 (.v 1))),(18,(.sl (.k 0) (.v 2) (.v 1) (.v 3))),(5,(.pt (.n 0) (.c 0))),(1,(.it .i64 (.v 4)))],[(.code (atC Try.f65 [1,1,0,1,0,1,0,0])),(.inLoop (atC Try.f65 [1,1,0,1,0,1,0,0])),(.inBlock 0),(.code (atC Try.f65 [1,1,1]))],[],.none⟩,[],
    ⟨[(0,(.cells [.sn] 156))],1,0,0,[((.le (.v 4) (.c 64)),.true),((.le (.c 0) (.v 4)),.true),((.ap 30 (.v 0) (.v 1) (.c 0) (.c 0) (.c 0) (.c 0)),.true),((.le (.v 1) (.v 3)),.true),((.le (.c 0) (.v 3)),.true)],[1,0],[(4,(0,64)),(4,(0,9223372036854775807)),(4,((-9223372036854775808),9223372036854775807)),(1,(0,1000)),(2,(0,(-1)))]⟩,[]⟩
def qOrd_T2:Tm:=⟨⟨65,37,[(20,(.it .i64 (.v 28))),(19,(.it .i64 (.v 1))),(18,(.sl (.k 0) (.v 2) (.v 1) (.v 3))),(5,(.pt (.n 0) (.c 0))),(1,(.it .i64 (.v 4)))],[(.code (atC Try.f65 [1,1,0,1,0,1,0,0])),(.inLoop (atC Try.f65 [1,1,0,1,0,1,0,0])),(.inBlock 0),(.code (atC Try.f65 [1,1,1]))],[],.none⟩,[],
    ⟨[(0,(.cells [(.sl (.n 3) (.c 0) (.v 28) (.v 25))] 156)),(3,(.arr [(.nt .i64),(.nt .i64),(.nt .i64),(.nt .i64),(.nt .i64),(.nt .i64)] (.v 29) (.v 28) 158 (.v 25)))],4,0,0,[((.lt (.c 0) (.v 1)),.true),((.le (.v 4) (.c 64)),.true),((.le (.c 0) (.v 4)),.true),((.ap 30 (.v 0) (.v 1) (.c 0) (.c 0) (.c 0) (.c 0)),.true),((.le (.v 1) (.v 3)),.true),((.le (.c 0) (.v 3)),.true),((.le (.v 28) (.v 25)),.true)],[1,0],[(28,(1,1000)),(25,(0,(-1))),(1,(1,1000)),(4,(0,64)),(2,(0,(-1)))]⟩,[28,29,25]⟩
def qOrd_L0:List Lf:=
 let f0_:List (SB×Bool):=[((.le (.v 1) (.v 3)),.true),((.le (.c 0) (.v 3)),.true)]
 let f1_:List (SB×Bool):=((.ap 30 (.v 0) (.v 1) (.c 0) (.c 0) (.c 0) (.c 0)),.true)::f0_
 let f2_:List (SB×Bool):=((.le (.c 0) (.v 4)),.true)::f1_
 [(.cut (((.le (.v 4) (.c 64)),.true)::f2_) 1 ⟨⟨[],[]⟩,[(0,0)],[],[]⟩ [] (shT qOrd_T1 ⟨⟨[],[]⟩,[(0,0)],[],[]⟩)),
  (.fin (((.le (.v 4) (.c 64)),.false)::f2_) 2 ⟨⟨[],[]⟩,[(0,0)],[],[]⟩ [] [.none]),
  (.fin (((.le (.c 0) (.v 4)),.false)::f1_) 1 ⟨⟨[],[]⟩,[(0,0)],[],[]⟩ [] [.none]),
  (.fin (((.ap 30 (.v 0) (.v 1) (.c 0) (.c 0) (.c 0) (.c 0)),.false)::f0_) 0 ⟨⟨[],[]⟩,[(0,0)],[],[]⟩ [] [.none])]
def qOrd_L1:List Lf:=
 let x0_:SI:=(.ap 8 (.ap 8 (.ap 8 (.ap 8 (.ap 8 (.c 0) (.c 0) (.c 0) (.ap 3 (.v 0) (.c 0) (.c 0) (.c 0) (.c 0) (.c 0)) (.c 0) (.c 0)) (.c 0) (.c 1) (.ap 3 (.v 0) (.c 0) (.c 1) (.c 0) (.c 0) (.c 0)) (.c 0) (.c 0)) (.c 0) (.c 2) (.ap 3 (.v 0) (.c 0) (.c 2) (.c 0) (.c 0) (.c 0)) (.c 0) (.c 0)) (.c 0) (.c 3) (.ap 3 (.v 0) (.c 0) (.c 3) (.c 0) (.c 0) (.c 0)) (.c 0) (.c 0)) (.c 0) (.c 4) (.ap 3 (.v 0) (.c 0) (.c 4) (.c 0) (.c 0) (.c 0)) (.c 0) (.c 0))
 let x1_:SI:=(.ap 8 x0_ (.c 0) (.c 5) (.c 0) (.c 0) (.c 0))
 let f0_:List (SB×Bool):=[((.le (.v 4) (.c 64)),.true),((.le (.c 0) (.v 4)),.true),((.ap 30 (.v 0) (.v 1) (.c 0) (.c 0) (.c 0) (.c 0)),.true),((.le (.v 1) (.v 3)),.true),((.le (.c 0) (.v 3)),.true)]
 [(let i_:In:=⟨⟨[(29,(.ap 8 x0_ (.c 0) (.c 5) (.c 0) (.c 0) (.c 0))),(25,(.d 0)),(28,(.c 1))],[]⟩,[(3,3),(0,0)],[],[]⟩;.cut (((.le (.c 1) (.d 0)),.true)::((.lt (.c 0) (.v 1)),.true)::f0_) 2 i_ [(.ei (.ap 3 x1_ (.c 0) (.c 0) (.c 0) (.c 0) (.c 0)) (.ap 3 (.v 0) (.c 0) (.c 0) (.c 0) (.c 0) (.c 0))),(.ei (.ap 3 x1_ (.c 0) (.c 1) (.c 0) (.c 0) (.c 0)) (.ap 3 (.v 0) (.c 0) (.c 1) (.c 0) (.c 0) (.c 0))),(.ei (.ap 3 x1_ (.c 0) (.c 2) (.c 0) (.c 0) (.c 0)) (.ap 3 (.v 0) (.c 0) (.c 2) (.c 0) (.c 0) (.c 0))),(.ei (.ap 3 x1_ (.c 0) (.c 3) (.c 0) (.c 0) (.c 0)) (.ap 3 (.v 0) (.c 0) (.c 3) (.c 0) (.c 0) (.c 0))),(.ei (.ap 3 x1_ (.c 0) (.c 4) (.c 0) (.c 0) (.c 0)) (.ap 3 (.v 0) (.c 0) (.c 4) (.c 0) (.c 0) (.c 0))),(.ei (.ap 3 x1_ (.c 0) (.c 5) (.c 0) (.c 0) (.c 0)) (.c 0)),(.fa (.le (.c 1) (.c 1)) .true),(.fa (.le (.c 1) (.d 0)) .true)] (shT qOrd_T2 i_)),
  (.fin (((.lt (.c 0) (.v 1)),.false)::f0_) 3 ⟨⟨[],[]⟩,[(0,0)],[],[]⟩ [] [.none])]
def qOrd_L2:List Lf:=
 let f0_:List (SB×Bool):=[((.lt (.c 0) (.v 1)),.true),((.le (.v 4) (.c 64)),.true),((.le (.c 0) (.v 4)),.true),((.ap 30 (.v 0) (.v 1) (.c 0) (.c 0) (.c 0) (.c 0)),.true),((.le (.v 1) (.v 3)),.true),((.le (.c 0) (.v 3)),.true),((.le (.v 28) (.v 25)),.true)]
 [(let i_:In:=⟨⟨[(29,(.ap 8 (.ap 8 (.ap 8 (.ap 8 (.ap 8 (.ap 8 (.v 29) (.v 28) (.c 0) (.ap 3 (.v 0) (.v 28) (.c 0) (.c 0) (.c 0) (.c 0)) (.c 0) (.c 0)) (.v 28) (.c 1) (.ap 3 (.v 0) (.v 28) (.c 1) (.c 0) (.c 0) (.c 0)) (.c 0) (.c 0)) (.v 28) (.c 2) (.ap 3 (.v 0) (.v 28) (.c 2) (.c 0) (.c 0) (.c 0)) (.c 0) (.c 0)) (.v 28) (.c 3) (.ap 3 (.v 0) (.v 28) (.c 3) (.c 0) (.c 0) (.c 0)) (.c 0) (.c 0)) (.v 28) (.c 4) (.ap 3 (.v 0) (.v 28) (.c 4) (.c 0) (.c 0) (.c 0)) (.c 0) (.c 0)) (.v 28) (.c 5) (.v 28) (.c 0) (.c 0))),(25,(.d 0)),(28,(.op .add (.v 28) (.c 1)))],[]⟩,[(3,6),(0,0)],[],[]⟩;.cut (((.le (.op .add (.v 28) (.c 1)) (.d 0)),.true)::((.lt (.v 28) (.v 1)),.true)::f0_) 2 i_ [] (shT qOrd_T2 i_)),
  (.fin (((.lt (.v 28) (.v 1)),.false)::f0_) 4 ⟨⟨[],[]⟩,[(1,3),(0,0)],[(0,(.v 25))],[]⟩ [(.ei (.v 1) (.v 28)),(.ar [(.nt .i64),(.nt .i64),(.nt .i64),(.nt .i64),(.nt .i64),(.nt .i64)] (.ap 60 (.v 0) (.v 1) (.v 4) (.c 0) (.c 0) (.c 0)) (.ap 53 (.v 29) (.v 28) (.c 0) (.v 28) (.ap 57 (.v 28) (.c 0) (.c 0) (.c 0) (.c 0) (.c 0)) (.v 4)) (.v 1)),(.fa (.le (.v 1) (.v 28)) .true),(.fa (.le (.v 1) (.c 256)) .true)] [.none,.none])]
def qOrd_run (T:Tm):=(ex (ccOf Try.prog BF [58,84] qOrd) ((fun cc=>[wRight.ent cc,uSrt.ent cc,uSrt0.ent cc]) (ccOf Try.prog BF [58,84] qOrd)) (dw (ccOf Try.prog BF [58,84] qOrd) ((fun cc=>[wRight.ent cc,uSrt.ent cc,uSrt0.ent cc]) (ccOf Try.prog BF [58,84] qOrd)) 1000 4) (stopX []) 4000 T.f T.fs T.H).lfs (ccOf Try.prog BF [58,84] qOrd) ((tm0 qOrd Try.f65 (Try.f65.body.getD .skip))::[qOrd_T1,qOrd_T2]) qOrd.os
theorem qOrd_h0:qOrd_run (tm0 qOrd Try.f65 (Try.f65.body.getD .skip))=some qOrd_L0:=by kernel_rfl
theorem qOrd_h1:qOrd_run qOrd_T1=some qOrd_L1:=by kernel_rfl
theorem qOrd_h2:qOrd_run qOrd_T2=some qOrd_L2:=by kernel_rfl
def qOrd_inv:(Nat→Int)→(Nat→Bool)→Nat→(Nat→Int)→(Nat→Bool)→Prop:=fun iv0 _ k iv _=>match k with
 | 0=>True
 | 1=>True
 | _=>1≤iv 28∧iv 28≤iv0 1∧iv 28≤iv 25∧0≤iv 25∧undR (iv0 0) (iv 29) (iv 28)
def qOrd_mu:(Nat→Int)→(Nat→Bool)→Nat→(Nat→Int)→(Nat→Bool)→Nat:=fun iv0 _ k iv _=>match k with | 0=>2 ^ 90 | 1=>2 ^ 80 | _=>(iv0 1 - iv 28).toNat
theorem qOrd_b {iv0:Nat→Int} (hin:InB qOrd.B iv0):(0≤iv0 1∧iv0 1≤1000)∧0≤iv0 2∧((-9223372036854775808)≤iv0 4∧iv0 4≤9223372036854775807):=by
 have b1:=hin 1 0 1000 (by simp [qOrd,bW,gW,fM,lW,ap3,pb3,pb4,ints,mayV,i64s,i64b,kW,two,b2,lmap,lapp,bFo,cap64,fnO,ap60,ap61,oNo,oOrd,kU])
 simp only [Int.reduceLE,reduceIte,Int.reduceNeg] at b1
 have b2:=hin 2 0 (-1) (by simp [qOrd,bW,gW,fM,lW,ap3,pb3,pb4,ints,mayV,i64s,i64b,kW,two,b2,lmap,lapp,bFo,cap64,fnO,ap60,ap61,oNo,oOrd,kU])
 simp only [Int.reduceLE,reduceIte,Int.reduceNeg] at b2
 have b4:=hin 4 (-9223372036854775808) 9223372036854775807 (by simp [qOrd,bW,gW,fM,lW,ap3,pb3,pb4,ints,mayV,i64s,i64b,kW,two,b2,lmap,lapp,bFo,cap64,fnO,ap60,ap61,oNo,oOrd,kU])
 simp only [Int.reduceLE,reduceIte,Int.reduceNeg] at b4
 exact ⟨b1,b2.1,b4⟩
def qOrd_ob (k:Nat) (l:List Lf):Prop:=∀ (kv:Kv) (iv0:Nat→Int) (bv0:Nat→Bool),InB qOrd.B iv0→FT (sta FI FB kv iv0 bv0) (dlt dyn0) qOrd.F→∀ (iv:Nat→Int) (bv:Nat→Bool),Agr 5 iv0 bv0 iv bv→qOrd_inv iv0 bv0 k iv bv→∀ lf∈l,LfT (sta FI FB kv) qOrd.os (qOrd_inv iv0 bv0) (qOrd_mu iv0 bv0) k iv bv lf
theorem qOrd_o0:qOrd_ob 0 qOrd_L0:=by
 intro kv iv0 bv0 hin hF iv bv ha hi
 unfold qOrd_L0
 refine List.forall_mem_cons.2 ⟨?_,List.forall_mem_cons.2 ⟨?_,List.forall_mem_cons.2 ⟨?_,List.forall_mem_cons.2 ⟨?_,List.forall_mem_nil _⟩⟩⟩⟩
 all_goals
  intro δ hf
 all_goals
  obtain ⟨b1,b2,b4⟩:=qOrd_b hin
 all_goals
  have a0:=ha.1 0 (by omega)
  have a1:=ha.1 1 (by omega)
  have a2:=ha.1 2 (by omega)
  have a3:=ha.1 3 (by omega)
  have a4:=ha.1 4 (by omega)
 all_goals
  simp only [FT,TP,SB.tp,SI.tv,sta,IB.eval,and_true,true_and,ObsT,Ob.Tv,rowT,kix,In.tiv,↓tbvT,In.tbv,get_cons,get_nil,reduceIte,Nat.reduceEqDiff,Int.reduceToNat,Int.reduceAdd,Int.reduceSub,Int.reduceLE,Int.reduceLT,Int.reduceEq,ne_eq,Bool.false_eq_true,not_true_eq_false,not_false_eq_true,true_iff,false_iff,iff_true,iff_false,false_implies,implies_true,decT,decide_true,decide_false,Bool.decide_eq_true,ap2,pb2,FI_3,FI_8,FI_9,FI_30,FB_30,FI_3g,FI_8m,Int.toNat_natCast,Int.toNat_zero,FI_53,FI_57,FI_60,qOrd_inv,qOrd_mu,qOrd,o1,othT,bW,gW,fM,lW,ap3,pb3,pb4,ints,mayV,i64s,i64b,kW,two,b2,lmap,lapp,bFo,cap64,fnO,ap60,ap61,oNo,oOrd,kU,a0,a1,a2,a3,a4] at hf hi ⊢
 all_goals
  (repeat' (with_reducible apply And.intro))<;>first
  | omega
  | assumption
  | (unfold inM;omega)
  | (clear hin hF ha;grind)
theorem qOrd_o1:qOrd_ob 1 qOrd_L1:=by
 intro kv iv0 bv0 hin hF iv bv ha hi
 unfold qOrd_L1
 refine List.forall_mem_cons.2 ⟨?_,List.forall_mem_cons.2 ⟨?_,List.forall_mem_nil _⟩⟩
 all_goals
  intro δ hf
 all_goals
  obtain ⟨b1,b2,b4⟩:=qOrd_b hin
 all_goals
  have a0:=ha.1 0 (by omega)
  have a1:=ha.1 1 (by omega)
  have a2:=ha.1 2 (by omega)
  have a3:=ha.1 3 (by omega)
  have a4:=ha.1 4 (by omega)
 all_goals
  simp only [FT,TP,SB.tp,SI.tv,sta,IB.eval,and_true,true_and,ObsT,Ob.Tv,rowT,kix,In.tiv,↓tbvT,In.tbv,get_cons,get_nil,reduceIte,Nat.reduceEqDiff,Int.reduceToNat,Int.reduceAdd,Int.reduceSub,Int.reduceLE,Int.reduceLT,Int.reduceEq,ne_eq,Bool.false_eq_true,not_true_eq_false,not_false_eq_true,true_iff,false_iff,iff_true,iff_false,false_implies,implies_true,decT,decide_true,decide_false,Bool.decide_eq_true,ap2,pb2,FI_3,FI_8,FI_9,FI_30,FB_30,FI_3g,FI_8m,Int.toNat_natCast,Int.toNat_zero,FI_53,FI_57,FI_60,qOrd_inv,qOrd_mu,qOrd,o1,othT,bW,gW,fM,lW,ap3,pb3,pb4,ints,mayV,i64s,i64b,kW,two,b2,lmap,lapp,bFo,cap64,fnO,ap60,ap61,oNo,oOrd,kU,a0,a1,a2,a3,a4] at hf hi ⊢
 all_goals
  (repeat' (with_reducible apply And.intro))<;>first
  | omega
  | assumption
  | (unfold inM;omega)
  | (clear hin hF ha;grind)
  | (exact und_app (c:=iv0 0) (d:=0) (i:=0) (by omega) (by omega) (fun j hj=>absurd hj (by omega)))
  | (exact und_app (c:=iv0 0) (d:=0) (i:=0) (by omega) (by omega) (fun j hj=>absurd hj (by omega)) 0 (by omega) 0 (by omega))
  | (exact und_app (c:=iv0 0) (d:=0) (i:=0) (by omega) (by omega) (fun j hj=>absurd hj (by omega)) 0 (by omega) 1 (by omega))
  | (exact und_app (c:=iv0 0) (d:=0) (i:=0) (by omega) (by omega) (fun j hj=>absurd hj (by omega)) 0 (by omega) 2 (by omega))
  | (exact und_app (c:=iv0 0) (d:=0) (i:=0) (by omega) (by omega) (fun j hj=>absurd hj (by omega)) 0 (by omega) 3 (by omega))
  | (exact und_app (c:=iv0 0) (d:=0) (i:=0) (by omega) (by omega) (fun j hj=>absurd hj (by omega)) 0 (by omega) 4 (by omega))
  | (exact und_app (c:=iv0 0) (d:=0) (i:=0) (by omega) (by omega) (fun j hj=>absurd hj (by omega)) 0 (by omega) 5 (by omega))
theorem qOrd_o2:qOrd_ob 2 qOrd_L2:=by
 intro kv iv0 bv0 hin hF iv bv ha hi
 unfold qOrd_L2
 refine List.forall_mem_cons.2 ⟨?_,List.forall_mem_cons.2 ⟨?_,List.forall_mem_nil _⟩⟩
 all_goals
  intro δ hf
 all_goals
  obtain ⟨b1,b2,b4⟩:=qOrd_b hin
 all_goals
  have a0:=ha.1 0 (by omega)
  have a1:=ha.1 1 (by omega)
  have a2:=ha.1 2 (by omega)
  have a3:=ha.1 3 (by omega)
  have a4:=ha.1 4 (by omega)
 all_goals
  simp only [FT,TP,SB.tp,SI.tv,sta,IB.eval,and_true,true_and,ObsT,Ob.Tv,rowT,kix,In.tiv,↓tbvT,In.tbv,get_cons,get_nil,reduceIte,Nat.reduceEqDiff,Int.reduceToNat,Int.reduceAdd,Int.reduceSub,Int.reduceLE,Int.reduceLT,Int.reduceEq,ne_eq,Bool.false_eq_true,not_true_eq_false,not_false_eq_true,true_iff,false_iff,iff_true,iff_false,false_implies,implies_true,decT,decide_true,decide_false,Bool.decide_eq_true,ap2,pb2,FI_3,FI_8,FI_9,FI_30,FB_30,FI_3g,FI_8m,Int.toNat_natCast,Int.toNat_zero,FI_53,FI_57,FI_60,qOrd_inv,qOrd_mu,qOrd,o1,othT,bW,gW,fM,lW,ap3,pb3,pb4,ints,mayV,i64s,i64b,kW,two,b2,lmap,lapp,bFo,cap64,fnO,ap60,ap61,oNo,oOrd,kU,a0,a1,a2,a3,a4] at hf hi ⊢
 all_goals
  obtain ⟨g0,g1,g2,g3,g4⟩:=hi
 all_goals
  have hR:rgtW (iv0 0) (iv0 1):=(by first | exact hf | exact hf.1 | exact hf.2.1 | exact hf.2.2.1 | exact hf.2.2.2.1 | exact hf.2.2.2.2.1 | exact hf.2.2.2.2.2.1 | exact hf.2.2.2.2.2.2.1 | exact hf.2.2.2.2.2.2.2.1 | exact hf.2.2.2.2.2.2.2.2.1 | exact hf.2.2.2.2.2.2.2.2.2.1 | exact hf.2.2.2.2.2.2.2.2.2.2.1 | exact hf.2.2.2.2.2.2.2.2.2.2.2.1)
 all_goals
  have hRn:=hR.1
 all_goals
  (repeat' (with_reducible apply And.intro))<;>first
  | omega
  | assumption
  | (unfold inM;omega)
  | (clear hin hF ha;grind)
  | (exact und_app (by omega) (by omega) g4)
  | (intro j hj;have e28:iv 28=iv0 1:=(by omega);rw [und_fin e28 (by omega) g4];simp)
theorem qOrd_c:LsC ((tm0 qOrd Try.f65 (Try.f65.body.getD .skip))::[qOrd_T1,qOrd_T2]) qOrd.os [qOrd_L0,qOrd_L1,qOrd_L2]:=by
 unfold qOrd_L0 qOrd_L1 qOrd_L2
 exact ⟨List.forall_mem_cons.2 ⟨⟨⟨_,rfl,rfl⟩,by kernel_rfl⟩,List.forall_mem_cons.2 ⟨⟨⟨_,rfl,rfl⟩,by kernel_rfl⟩,List.forall_mem_cons.2 ⟨⟨⟨_,rfl,rfl⟩,by kernel_rfl⟩,List.forall_mem_cons.2 ⟨⟨⟨_,rfl,rfl⟩,by kernel_rfl⟩,List.forall_mem_nil _⟩⟩⟩⟩,List.forall_mem_cons.2 ⟨⟨⟨_,rfl,rfl⟩,by kernel_rfl⟩,List.forall_mem_cons.2 ⟨⟨⟨_,rfl,rfl⟩,by kernel_rfl⟩,List.forall_mem_nil _⟩⟩,List.forall_mem_cons.2 ⟨⟨⟨_,rfl,rfl⟩,by kernel_rfl⟩,List.forall_mem_cons.2 ⟨⟨⟨_,rfl,rfl⟩,by kernel_rfl⟩,List.forall_mem_nil _⟩⟩,trivial⟩
theorem qOrd_ok:qOrd.Ok Try.prog FI FB:=
 Con.of_plain (body:=Try.f65.body.getD .skip) pok fiok (EntsFor.cons wRight_ok (EntsFor.consM uSrt_ok (EntsFor.cons uSrt0_ok EntsFor.nil))) qOrd Try.func65 (by kernel_rfl) 5 [qOrd_T1,qOrd_T2] (by kernel_rfl) [qOrd_L0,qOrd_L1,qOrd_L2] ⟨qOrd_h0,qOrd_h1,qOrd_h2,trivial⟩ qOrd_c
  qOrd_inv qOrd_mu (fun _ _ _=>trivial) fun kv iv0 bv0 hin hF k l iv bv hk ha hi=>match k,hk,hi with
  | 0,hk,hi=>by
    cases hk
    exact qOrd_o0 kv iv0 bv0 hin hF iv bv ha hi
  | 1,hk,hi=>by
    cases hk
    exact qOrd_o1 kv iv0 bv0 hin hF iv bv ha hi
  | 2,hk,hi=>by
    cases hk
    exact qOrd_o2 kv iv0 bv0 hin hF iv bv ha hi
  | k+3,hk,_=>by simp at hk
end
end Go.Sx.Mhw
